import PyProof.Rows.All
import Wide.All
import OpenK.AllK
import Wide.FinOn
import HandS.ForMost
import HandS.More
import HandS.Wide
import HandS.IsInst
import HandS.SortInts
import HandS.DictComp
import HandS.Rev
import HandS.DictEq
import HandS.Deep
import HandS.Style
import HandS.TupSets
import HandS.Conv
import KE.KSortedM
import HandS.Zip
import HandS.Defaults
import HandS.Small
import HandS.Star
import PyProof.DictUpdate
import PyProof.DictDisplay
import HandS.Codes
import HandS.WideBits
import PyProof.AutoIntOps
import KE.SortData
import KE.KMathGC
import KE.DataMinMax
import HandS.NoneIn
import PySem.Challenge.RW_suretricks_k85_whole_tables_and_deals
section
set_option Elab.async false
set_option linter.all false
set_option maxRecDepth 100000
/-! TL1: trees, worlds, what a value is told to be, results with picks. -/
namespace TL
open PySem PySem.Spec PyProof.Rows L2

/-- a value as a tree; ref n: an object of the store that may change; scr a: the thing at a, of which nothing is told here -/
inductive T where
  | non | bl (b : Bool) | int (i : Int) | str (x : Str)
  | lst (xs : List T) | tup (xs : List T) | dic (ks : List Key) (xs : List T)
  | ref (n : Nat) | scr (a : Addr)

/-- an object of the store -/
inductive MO where
  | lst (xs : List T) | dic (ks : List Key) (xs : List T) | ins (c : Str) (fs : List Str) (xs : List T)
  | purse (k : Nat)

structure Sto where
  m : List (Nat × MO)
  nx : Nat

def lkM (n : Nat) : List (Nat × MO) → Option MO
  | [] => none
  | (k, o) :: r => if Nat.beq k n then some o else lkM n r
def stM (n : Nat) (o : MO) : List (Nat × MO) → List (Nat × MO)
  | [] => []
  | (k, u) :: r => if Nat.beq k n then (k, o) :: r else (k, u) :: stM n o r
def dlM (n : Nat) : List (Nat × MO) → List (Nat × MO)
  | [] => []
  | (k, u) :: r => if Nat.beq k n then dlM n r else (k, u) :: dlM n r
def Sto.get (M : Sto) (n : Nat) : Option MO := lkM n M.m
def Sto.set (M : Sto) (n : Nat) (o : MO) : Sto := ⟨stM n o M.m, M.nx⟩
def Sto.del (M : Sto) (n : Nat) : Sto := ⟨dlM n M.m, M.nx⟩
def Sto.add (M : Sto) (o : MO) : Sto := ⟨M.m ++ [(M.nx, o)], M.nx + 1⟩

theorem lkM_set {n k : Nat} {o : MO} : ∀ {l : List (Nat × MO)}, (∃ u, lkM n l = some u) → lkM k (stM n o l) = if k = n then some o else lkM k l
  | [], h => by obtain ⟨_, h⟩ := h; cases h
  | (j, u) :: r, h => by
    unfold stM
    by_cases e : Nat.beq j n = true
    · rw [if_pos e]
      have e2 := Nat.eq_of_beq_eq_true e
      subst e2
      unfold lkM
      by_cases e3 : Nat.beq j k = true
      · rw [if_pos e3, if_pos (Nat.eq_of_beq_eq_true e3).symm]
      · rw [if_neg e3, if_neg (fun z => e3 (by rw [z]; exact Nat.beq_refl _))]
        show lkM k r = (if Nat.beq j k then some u else lkM k r)
        rw [if_neg e3]
    · rw [if_neg e]
      have h' : ∃ u, lkM n r = some u := by
        obtain ⟨u', h⟩ := h
        unfold lkM at h
        rw [if_neg e] at h
        exact ⟨u', h⟩
      have ih := lkM_set (k := k) (o := o) h'
      show (if Nat.beq j k then some u else lkM k (stM n o r)) = _
      rw [ih]
      show _ = if k = n then some o else (if Nat.beq j k then some u else lkM k r)
      by_cases e3 : Nat.beq j k = true
      · have e4 := Nat.eq_of_beq_eq_true e3
        subst e4
        rw [if_pos e3, if_neg (fun z => e (by rw [z]; exact Nat.beq_refl _)), if_pos e3]
      · rw [if_neg e3, if_neg e3]
theorem lkM_del {n k : Nat} : ∀ {l : List (Nat × MO)}, lkM k (dlM n l) = if k = n then none else lkM k l
  | [] => by show none = _; split <;> rfl
  | (j, u) :: r => by
    unfold dlM
    have ih := lkM_del (n := n) (k := k) (l := r)
    by_cases e : Nat.beq j n = true
    · rw [if_pos e, ih]
      have e2 := Nat.eq_of_beq_eq_true e
      subst e2
      show _ = if k = j then none else (if Nat.beq j k then some u else lkM k r)
      by_cases e3 : k = j
      · rw [if_pos e3, if_pos e3]
      · rw [if_neg e3, if_neg e3, if_neg (fun z => e3 (Nat.eq_of_beq_eq_true z).symm)]
    · rw [if_neg e]
      show (if Nat.beq j k then some u else lkM k (dlM n r)) = if k = n then none else (if Nat.beq j k then some u else lkM k r)
      rw [ih]
      by_cases e3 : Nat.beq j k = true
      · have e4 := Nat.eq_of_beq_eq_true e3
        subst e4
        rw [if_pos e3, if_neg (fun z => e (by rw [z]; exact Nat.beq_refl _)), if_pos e3]
      · rw [if_neg e3, if_neg e3]
theorem lkM_add {n k : Nat} {o : MO} : ∀ {l : List (Nat × MO)}, lkM n l = none → lkM k (l ++ [(n, o)]) = if k = n then some o else lkM k l
  | [], _ => by
    show (if Nat.beq n k then some o else none) = _
    by_cases e : k = n
    · rw [if_pos e, e, if_pos (Nat.beq_refl _)]
    · rw [if_neg e, if_neg (fun z => e (Nat.eq_of_beq_eq_true z).symm)]; rfl
  | (j, u) :: r, h => by
    have h2 : ¬ Nat.beq j n = true ∧ lkM n r = none := by
      unfold lkM at h
      by_cases e : Nat.beq j n = true
      · rw [if_pos e] at h; cases h
      · rw [if_neg e] at h; exact ⟨e, h⟩
    have ih := lkM_add (k := k) (o := o) h2.2
    show (if Nat.beq j k then some u else lkM k (r ++ [(n, o)])) = if k = n then some o else (if Nat.beq j k then some u else lkM k r)
    rw [ih]
    by_cases e3 : Nat.beq j k = true
    · have e4 := Nat.eq_of_beq_eq_true e3
      subst e4
      rw [if_pos e3, if_neg (fun z => h2.1 (by rw [z]; exact Nat.beq_refl _)), if_pos e3]
    · rw [if_neg e3, if_neg e3]

/-! ### results -/
inductive Res (α : Type) where
  | ok (a : α) (M : Sto)
  | stuck
  | pick (m : Nat) (f : Nat → Res α)
def Res.all {α : Type} (Φ : α → Sto → Prop) : Res α → Prop
  | .ok a M => Φ a M
  | .stuck => False
  | .pick m f => ∀ r, r < m → (f r).all Φ
def Res.bind {α β : Type} (a : Res α) (k : α → Sto → Res β) : Res β :=
  match a with
  | .ok a M => k a M
  | .stuck => .stuck
  | .pick m f => .pick m fun r => (f r).bind k
theorem Res.all_bind {α β : Type} {Φ : β → Sto → Prop} {k : α → Sto → Res β} : ∀ {a : Res α}, (a.bind k).all Φ → a.all fun x M => (k x M).all Φ
  | .ok _ _, h => h
  | .stuck, h => h
  | .pick _ _, h => fun r hr => all_bind (h r hr)
theorem Res.bind_all {α β : Type} {Φ : β → Sto → Prop} {k : α → Sto → Res β} : ∀ {a : Res α}, (a.all fun x M => (k x M).all Φ) → (a.bind k).all Φ
  | .ok _ _, h => h
  | .stuck, h => h
  | .pick _ _, h => fun r hr => bind_all (h r hr)
theorem Res.all_mono {α : Type} {Φ Ψ : α → Sto → Prop} (h : ∀ x M, Φ x M → Ψ x M) : ∀ {a : Res α}, a.all Φ → a.all Ψ
  | .ok _ _, q => h _ _ q
  | .stuck, q => q
  | .pick _ _, q => fun r hr => all_mono h (q r hr)

/-! ### worlds -/
structure Wd where
  H : Hp
  ρ : Nat → Addr
  M : Sto
  R : Addr → Prop
def Ex (w : Wd) (a : Addr) : Prop := w.R a ∨ ∃ n o, w.M.get n = some o ∧ w.ρ n = a
def listO : HO → Prop
  | .lst _ => True
  | .tup _ => True
  | _ => False

mutual
inductive Rep (w : Wd) : V → T → Prop
  | non : Rep w .non .non
  | bl (b : Bool) : Rep w (.bl b) (.bl b)
  | int (i : Int) : Rep w (.int i) (.int i)
  | str (x : Str) : Rep w (.str x) (.str x)
  | lst {a : Addr} {xs : List V} {ts : List T} : ¬ Ex w a → Rd w.H a (.lst xs) → RepL w xs ts → Rep w (.ref a) (.lst ts)
  | tup {a : Addr} {xs : List V} {ts : List T} : ¬ Ex w a → Rd w.H a (.tup xs) → RepL w xs ts → Rep w (.ref a) (.tup ts)
  | dic {a : Addr} {kvs : List (Key × V)} {ks : List Key} {ts : List T} : ¬ Ex w a → Rd w.H a (.dK kvs) → kvs.map Prod.fst = ks → ks.Nodup → RepL w (kvs.map Prod.snd) ts → Rep w (.ref a) (.dic ks ts)
  | ref (n : Nat) : n < w.M.nx → Rep w (.ref (w.ρ n)) (.ref n)
  | scr (a : Addr) : Rep w (.ref a) (.scr a)
inductive RepL (w : Wd) : List V → List T → Prop
  | nil : RepL w [] []
  | cons {v : V} {t : T} {vs : List V} {ts : List T} : Rep w v t → RepL w vs ts → RepL w (v :: vs) (t :: ts)
end

structure Keep (w w' : Wd) : Prop where
  keep : ∀ a u, listO u → w.H a = some u → ¬ Ex w a → w'.H a = some u ∧ ¬ Ex w' a
  keepF : ∀ a o u, listO u → w.H a = some (.frz o u) → ¬ Ex w a → w'.H a = some (.frz o u) ∧ ¬ Ex w' a
  keepD : ∀ a kvs, Rd w.H a (.dK kvs) → ¬ Ex w a → Rd w'.H a (.dK kvs) ∧ ¬ Ex w' a
  nx : w.M.nx ≤ w'.M.nx
  rho : ∀ n, n < w.M.nx → w'.ρ n = w.ρ n
structure Ext (w w' : Wd) : Prop where
  keep : ∀ a u, listO u → w.H a = some u → ¬ Ex w a → w'.H a = some u ∧ ¬ Ex w' a
  keepF : ∀ a o u, listO u → w.H a = some (.frz o u) → ¬ Ex w a → w'.H a = some (.frz o u) ∧ ¬ Ex w' a
  keepD : ∀ a kvs, Rd w.H a (.dK kvs) → ¬ Ex w a → Rd w'.H a (.dK kvs) ∧ ¬ Ex w' a
  dom : ∀ a, w.H a ≠ none → w'.H a ≠ none
  nx : w.M.nx ≤ w'.M.nx
  rho : ∀ n, n < w.M.nx → w'.ρ n = w.ρ n
  R : ∀ a, w.R a → w'.R a
  Rk : ∀ a, w.R a → w'.H a = w.H a
  frz : ∀ a o u, w.H a = some (.frz o u) → w'.H a = some (.frz o u)
theorem Ext.toKeep {w w' : Wd} (x : Ext w w') : Keep w w' := ⟨x.keep, x.keepF, x.keepD, x.nx, x.rho⟩
theorem Keep.rd {w w' : Wd} (x : Keep w w') {a : Addr} {u : HO} (hu : listO u) (h : Rd w.H a u) (n : ¬ Ex w a) : Rd w'.H a u ∧ ¬ Ex w' a := by
  rcases h with h | ⟨o, h⟩
  · exact ⟨.inl (x.keep a u hu h n).1, (x.keep a u hu h n).2⟩
  · exact ⟨.inr ⟨o, (x.keepF a o u hu h n).1⟩, (x.keepF a o u hu h n).2⟩
theorem Ext.rd {w w' : Wd} (x : Ext w w') {a : Addr} {u : HO} (hu : listO u) (h : Rd w.H a u) (n : ¬ Ex w a) : Rd w'.H a u ∧ ¬ Ex w' a := x.toKeep.rd hu h n
theorem Ext.refl (w : Wd) : Ext w w := ⟨fun _ _ _ h n => ⟨h, n⟩, fun _ _ _ _ h n => ⟨h, n⟩, fun _ _ h n => ⟨h, n⟩, fun _ h => h, Nat.le_refl _, fun _ _ => rfl, fun _ h => h, fun _ _ => rfl, fun _ _ _ h => h⟩
theorem Ext.trans {a b c : Wd} (x : Ext a b) (y : Ext b c) : Ext a c :=
  ⟨fun p u hp h n => let ⟨h1, n1⟩ := x.keep p u hp h n; y.keep p u hp h1 n1, fun p o u hu h n => let ⟨h1, n1⟩ := x.keepF p o u hu h n; y.keepF p o u hu h1 n1, fun p u h n => let ⟨h1, n1⟩ := x.keepD p u h n; y.keepD p u h1 n1, fun p h => y.dom p (x.dom p h), Nat.le_trans x.nx y.nx,
   fun n h => (y.rho n (Nat.lt_of_lt_of_le h x.nx)).trans (x.rho n h), fun p h => y.R p (x.R p h), fun p h => (y.Rk p (x.R p h)).trans (x.Rk p h), fun p o u h => y.frz p o u (x.frz p o u h)⟩

mutual
theorem Rep.kept {w w' : Wd} (x : Keep w w') : ∀ {v : V} {t : T}, Rep w v t → Rep w' v t
  | _, _, .non => .non
  | _, _, .bl b => .bl b
  | _, _, .int i => .int i
  | _, _, .str s => .str s
  | _, _, .scr a => .scr a
  | _, _, .lst n h r => let ⟨h', n'⟩ := x.rd (u := .lst _) True.intro h n; .lst n' h' (RepL.kept x r)
  | _, _, .tup n h r => let ⟨h', n'⟩ := x.rd (u := .tup _) True.intro h n; .tup n' h' (RepL.kept x r)
  | _, _, .dic n h e d r => let ⟨h', n'⟩ := x.keepD _ _ h n; .dic n' h' e d (RepL.kept x r)
  | _, _, .ref n h => by rw [← x.rho n h]; exact .ref n (Nat.lt_of_lt_of_le h x.nx)
theorem RepL.kept {w w' : Wd} (x : Keep w w') : ∀ {vs : List V} {ts : List T}, RepL w vs ts → RepL w' vs ts
  | _, _, .nil => .nil
  | _, _, .cons r l => .cons (Rep.kept x r) (RepL.kept x l)
end
theorem Rep.mono {w w' : Wd} (x : Ext w w') {v : V} {t : T} (r : Rep w v t) : Rep w' v t := r.kept x.toKeep
theorem RepL.mono {w w' : Wd} (x : Ext w w') {vs : List V} {ts : List T} (r : RepL w vs ts) : RepL w' vs ts := r.kept x.toKeep
theorem RepL.length {w : Wd} : ∀ {vs : List V} {ts : List T}, RepL w vs ts → vs.length = ts.length
  | _, _, .nil => rfl
  | _, _, .cons _ l => by rw [List.length_cons, List.length_cons, RepL.length l]
theorem RepL.get {w : Wd} : ∀ {vs : List V} {ts : List T} {i : Nat} {t : T}, RepL w vs ts → ts[i]? = some t → ∃ v, vs[i]? = some v ∧ Rep w v t
  | _, _, i, _, .nil, e => by simp at e
  | _, _, 0, _, .cons r _, e => by simp at e; subst e; exact ⟨_, rfl, r⟩
  | _, _, i + 1, t, .cons _ l, e => by
    obtain ⟨v, h1, h2⟩ := RepL.get (i := i) (t := t) l (by simpa using e)
    exact ⟨v, by simpa using h1, h2⟩
theorem RepL.append {w : Wd} : ∀ {vs us : List V} {ts ss : List T}, RepL w vs ts → RepL w us ss → RepL w (vs ++ us) (ts ++ ss)
  | _, _, _, _, .nil, s => s
  | _, _, _, _, .cons r l, s => .cons r (RepL.append l s)
theorem RepL.take {w : Wd} : ∀ {vs : List V} {ts : List T} (n : Nat), RepL w vs ts → RepL w (vs.take n) (ts.take n)
  | _, _, 0, _ => .nil
  | _, _, _ + 1, .nil => .nil
  | _, _, n + 1, .cons r l => .cons r (RepL.take n l)
theorem RepL.drop {w : Wd} : ∀ {vs : List V} {ts : List T} (n : Nat), RepL w vs ts → RepL w (vs.drop n) (ts.drop n)
  | _, _, 0, r => r
  | _, _, _ + 1, .nil => .nil
  | _, _, n + 1, .cons _ l => RepL.drop n l
theorem RepL.set {w : Wd} {v : V} {t : T} (q : Rep w v t) : ∀ {vs : List V} {ts : List T} (i : Nat), RepL w vs ts → RepL w (vs.set i v) (ts.set i t)
  | _, _, _, .nil => .nil
  | _, _, 0, .cons _ l => .cons q l
  | _, _, i + 1, .cons r l => .cons r (RepL.set q i l)
theorem RepL.reverse {w : Wd} : ∀ {vs : List V} {ts : List T}, RepL w vs ts → RepL w vs.reverse ts.reverse
  | _, _, .nil => .nil
  | _, _, .cons r l => by rw [List.reverse_cons, List.reverse_cons]; exact RepL.append (RepL.reverse l) (.cons r .nil)
theorem RepL.ints {w : Wd} : ∀ (ns : List Int), RepL w (ns.map V.int) (ns.map T.int)
  | [] => .nil
  | n :: r => .cons (.int n) (RepL.ints r)
theorem RepL.ints_of {w : Wd} : ∀ {vs : List V} {ns : List Int}, RepL w vs (ns.map T.int) → vs = ns.map V.int
  | _, [], .nil => rfl
  | _, n :: r, .cons (.int _) l => by rw [RepL.ints_of l]; rfl

/-- what stands for an object of the store -/
def MRep (mg : Str → Option Value) (w : Wd) (ho : Option HO) : MO → Prop
  | .lst ts => ∃ vs, ho = some (.lst vs) ∧ RepL w vs ts
  | .dic ks ts => ∃ kvs : List (Key × V), ho = some (.dK kvs) ∧ kvs.map Prod.fst = ks ∧ ks.Nodup ∧ RepL w (kvs.map Prod.snd) ts
  | .ins c fs ts => ∃ (C dx : Addr) (kvs : List (Str × V)), mg c = some (.ref C) ∧ ho = some (.ins C dx kvs) ∧ kvs.map Prod.fst = fs ∧ RepL w (kvs.map Prod.snd) ts
  | .purse k => ∃ p0 p1 p2 p3 : Int, ho = some (.lst [.int p0, .int p1, .int p2, .int p3]) ∧ 0 ≤ p0 ∧ p0 < 10 ^ 480 ∧ 0 ≤ p1 ∧ p1 < 2147483629 ∧ 0 ≤ p2 ∧ p2 ≤ k ∧ 0 ≤ p3 ∧ p3 ≤ 63
theorem MRep.kept {mg : Str → Option Value} {w w' : Wd} {ho : Option HO} {o : MO} (x : Keep w w') (h : MRep mg w ho o) : MRep mg w' ho o := by
  cases o with
  | lst ts => obtain ⟨vs, e, r⟩ := h; exact ⟨vs, e, r.kept x⟩
  | dic ks ts => obtain ⟨kvs, e, e2, d, r⟩ := h; exact ⟨kvs, e, e2, d, r.kept x⟩
  | ins c fs ts => obtain ⟨C, dx, kvs, g, e, e2, r⟩ := h; exact ⟨C, dx, kvs, g, e, e2, r.kept x⟩
  | purse k => exact h
theorem MRep.mono {mg : Str → Option Value} {w w' : Wd} {ho : Option HO} {o : MO} (x : Ext w w') (h : MRep mg w ho o) : MRep mg w' ho o := h.kept x.toKeep
structure Good (mg : Str → Option Value) (w : Wd) : Prop where
  own : ∀ n o, w.M.get n = some o → n < w.M.nx ∧ ¬ w.R (w.ρ n) ∧ MRep mg w (w.H (w.ρ n)) o
  inj : ∀ n m o u, w.M.get n = some o → w.M.get m = some u → w.ρ n = w.ρ m → n = m
  Rd : ∀ a, w.R a → w.H a ≠ none
theorem Good.ex_dom {mg : Str → Option Value} {w : Wd} (g : Good mg w) {a : Addr} (h : Ex w a) : w.H a ≠ none := by
  rcases h with h | ⟨n, o, h, e⟩
  · exact g.Rd a h
  · obtain ⟨_, _, r⟩ := g.own n o h
    rw [e] at r
    intro z
    rw [z] at r
    cases o with
    | lst ts => obtain ⟨_, e, _⟩ := r; cases e
    | dic ks ts => obtain ⟨_, e, _⟩ := r; cases e
    | ins c fs ts => obtain ⟨_, _, _, _, e, _⟩ := r; cases e
    | purse k => obtain ⟨_, _, _, _, e, _⟩ := r; cases e
theorem Good.new_none {mg : Str → Option Value} {w : Wd} (g : Good mg w) : w.M.get w.M.nx = none := by
  cases h : w.M.get w.M.nx with
  | none => rfl
  | some o => exact absurd (g.own _ o h).1 (Nat.lt_irrefl _)

/-! ### a new object -/
/-- a plain object at a fresh address -/
def Wd.put (w : Wd) (p : Addr) (o : HO) : Wd := { w with H := upd w.H p o }
theorem rd_upd {H : Hp} {p a : Addr} {o u : HO} (hp : H p = none) (h : Rd H a u) : Rd (upd H p o) a u := by
  have ne : ∀ {x : HO}, H a = some x → a ≠ p := fun e z => by rw [z, hp] at e; cases e
  rcases h with h | ⟨od, h⟩
  · exact .inl (by rw [upd_ne (ne h)]; exact h)
  · exact .inr ⟨od, by rw [upd_ne (ne h)]; exact h⟩
theorem Ext.put {mg : Str → Option Value} {w : Wd} (g : Good mg w) {p : Addr} {o : HO} (hp : w.H p = none) : Ext w (w.put p o) :=
  ⟨fun a u _ h n => ⟨by show upd w.H p o a = _; rw [upd_ne (ne_of_none h hp)]; exact h, n⟩, fun a ob u _ h n => ⟨by show upd w.H p o a = _; rw [upd_ne (ne_of_none h hp)]; exact h, n⟩, fun a u h n => ⟨rd_upd hp h, n⟩, fun a h => by
    show upd w.H p o a ≠ none
    by_cases e : a = p
    · rw [e, upd_same]; exact fun z => nomatch z
    · rw [upd_ne e]; exact h, Nat.le_refl _, fun _ _ => rfl, fun _ h => h, fun a h => by
    show upd w.H p o a = w.H a
    refine upd_ne fun e => g.Rd a h ?_
    rw [e]; exact hp, fun a ob u h => by show upd w.H p o a = _; rw [upd_ne (ne_of_none h hp)]; exact h⟩
theorem Good.put {mg : Str → Option Value} {w : Wd} (g : Good mg w) {p : Addr} {o : HO} (hp : w.H p = none) : Good mg (w.put p o) := by
  have x := Ext.put (o := o) g hp
  refine ⟨fun n u h => ?_, g.inj, fun a h => x.dom a (g.Rd a h)⟩
  obtain ⟨h1, h2, h3⟩ := g.own n u h
  refine ⟨h1, h2, ?_⟩
  have : (w.put p o).H (w.ρ n) = w.H (w.ρ n) := upd_ne fun e => g.ex_dom (.inr ⟨n, u, h, rfl⟩) (by rw [e]; exact hp)
  show MRep mg _ ((w.put p o).H (w.ρ n)) u
  rw [this]
  exact h3.mono x
theorem Good.notEx {mg : Str → Option Value} {w : Wd} (g : Good mg w) {p : Addr} (hp : w.H p = none) : ¬ Ex w p := fun z => g.ex_dom z hp
theorem put_lst {mg : Str → Option Value} {w : Wd} (g : Good mg w) {p : Addr} {vs : List V} {ts : List T} (hp : w.H p = none) (r : RepL w vs ts) : Rep (w.put p (.lst vs)) (.ref p) (.lst ts) :=
  .lst (g.notEx hp) (.inl upd_same) (r.mono (Ext.put g hp))
theorem put_tup {mg : Str → Option Value} {w : Wd} (g : Good mg w) {p : Addr} {vs : List V} {ts : List T} (hp : w.H p = none) (r : RepL w vs ts) : Rep (w.put p (.tup vs)) (.ref p) (.tup ts) :=
  .tup (g.notEx hp) (.inl upd_same) (r.mono (Ext.put g hp))
theorem put_dic {mg : Str → Option Value} {w : Wd} (g : Good mg w) {p : Addr} {kvs : List (Key × V)} {ks : List Key} {ts : List T} (hp : w.H p = none) (e : kvs.map Prod.fst = ks) (d : ks.Nodup) (r : RepL w (kvs.map Prod.snd) ts) :
    Rep (w.put p (.dK kvs)) (.ref p) (.dic ks ts) :=
  .dic (g.notEx hp) (.inl upd_same) e d (r.mono (Ext.put g hp))

/-! ### an object of the store is written -/
def Wd.wr (w : Wd) (n : Nat) (ho : HO) (o : MO) : Wd := { w with H := upd w.H (w.ρ n) ho, M := w.M.set n o }
section
variable {mg : Str → Option Value} {w : Wd} {n : Nat} {ho : HO} {o u : MO}
theorem get_set (h : w.M.get n = some u) (k : Nat) : (w.M.set n o).get k = if k = n then some o else w.M.get k := lkM_set ⟨u, h⟩
theorem Ex.wr (h : w.M.get n = some u) (a : Addr) : Ex (w.wr n ho o) a ↔ Ex w a := by
  constructor
  · rintro (z | ⟨k, x, e, rfl⟩)
    · exact .inl z
    · rw [show (w.wr n ho o).M.get k = _ from get_set h k] at e
      by_cases hk : k = n
      · subst hk; exact .inr ⟨k, u, h, rfl⟩
      · rw [if_neg hk] at e; exact .inr ⟨k, x, e, rfl⟩
  · rintro (z | ⟨k, x, e, rfl⟩)
    · exact .inl z
    · by_cases hk : k = n
      · exact .inr ⟨k, o, by rw [show (w.wr n ho o).M.get k = _ from get_set h k, if_pos hk], rfl⟩
      · exact .inr ⟨k, x, by rw [show (w.wr n ho o).M.get k = _ from get_set h k, if_neg hk]; exact e, rfl⟩
theorem Ext.wr (g : Good mg w) (h : w.M.get n = some u) : Ext w (w.wr n ho o) :=
  ⟨fun a x _ hr hn => by
    have ne : a ≠ w.ρ n := fun e => hn (.inr ⟨n, u, h, e.symm⟩)
    exact ⟨by show upd _ _ _ a = _; rw [upd_ne ne]; exact hr, fun z => hn ((Ex.wr h a).mp z)⟩, fun a ob x _ hr hn => by
    have ne : a ≠ w.ρ n := fun e => hn (.inr ⟨n, u, h, e.symm⟩)
    exact ⟨by show upd _ _ _ a = _; rw [upd_ne ne]; exact hr, fun z => hn ((Ex.wr h a).mp z)⟩, fun a x hr hn => by
    have ne : a ≠ w.ρ n := fun e => hn (.inr ⟨n, u, h, e.symm⟩)
    refine ⟨?_, fun z => hn ((Ex.wr h a).mp z)⟩
    rcases hr with hr | ⟨od, hr⟩
    · exact .inl (by show upd _ _ _ a = _; rw [upd_ne ne]; exact hr)
    · exact .inr ⟨od, by show upd _ _ _ a = _; rw [upd_ne ne]; exact hr⟩,
   fun a ha => by
    show upd _ _ _ a ≠ none
    by_cases e : a = w.ρ n
    · rw [e, upd_same]; exact fun z => nomatch z
    · rw [upd_ne e]; exact ha,
   Nat.le_refl _, fun _ _ => rfl, fun _ h => h, fun a ha => upd_ne fun e => (g.own n u h).2.1 (by rw [← e]; exact ha), fun a ob y ha => by
    show upd _ _ _ a = _
    rw [upd_ne fun e => ?_]
    · exact ha
    · obtain ⟨_, _, r⟩ := g.own n u h
      rw [← e, ha] at r
      cases u with
      | lst ts => obtain ⟨_, z, _⟩ := r; cases z
      | dic ks ts => obtain ⟨_, z, _⟩ := r; cases z
      | ins c fs ts => obtain ⟨_, _, _, _, z, _⟩ := r; cases z
      | purse k => obtain ⟨_, _, _, _, z, _⟩ := r; cases z⟩
theorem Good.wr (g : Good mg w) (h : w.M.get n = some u) (r : MRep mg (w.wr n ho o) (some ho) o) : Good mg (w.wr n ho o) := by
  have x : Ext w (w.wr n ho o) := Ext.wr g h
  refine ⟨fun k y e => ?_, fun k m y z e1 e2 e3 => ?_, fun a ha => x.dom a (g.Rd a ha)⟩
  · rw [show (w.wr n ho o).M.get k = _ from get_set h k] at e
    by_cases hk : k = n
    · subst hk
      rw [if_pos rfl] at e
      cases e
      refine ⟨(g.own k u h).1, (g.own k u h).2.1, ?_⟩
      show MRep mg _ (upd _ _ _ (w.ρ k)) o
      rw [upd_same]
      exact r
    · rw [if_neg hk] at e
      obtain ⟨h1, h2, h3⟩ := g.own k y e
      refine ⟨h1, h2, ?_⟩
      show MRep mg _ (upd _ _ _ (w.ρ k)) y
      rw [upd_ne fun z => hk (g.inj k n y u e h z)]
      exact h3.mono x
  · have f : ∀ {k : Nat} {y : MO}, (w.wr n ho o).M.get k = some y → ∃ y', w.M.get k = some y' := fun {k y} e => by
      rw [show (w.wr n ho o).M.get k = _ from get_set h k] at e
      by_cases hk : k = n
      · subst hk; exact ⟨u, h⟩
      · rw [if_neg hk] at e; exact ⟨y, e⟩
    obtain ⟨y', h1⟩ := f e1
    obtain ⟨z', h2⟩ := f e2
    exact g.inj k m y' z' h1 h2 e3
end

/-! ### a fresh object becomes one of the store -/
def Wd.new (w : Wd) (p : Addr) (ho : HO) (o : MO) : Wd := { w with H := upd w.H p ho, ρ := fun n => if n = w.M.nx then p else w.ρ n, M := w.M.add o }
section
variable {mg : Str → Option Value} {w : Wd} {p : Addr} {ho : HO} {o : MO}
theorem get_add (g : Good mg w) (k : Nat) : (w.M.add o).get k = if k = w.M.nx then some o else w.M.get k := lkM_add g.new_none
theorem Ex.new (g : Good mg w) (a : Addr) : Ex (w.new p ho o) a ↔ Ex w a ∨ a = p := by
  constructor
  · rintro (z | ⟨k, x, e, rfl⟩)
    · exact .inl (.inl z)
    · rw [show (w.new p ho o).M.get k = _ from get_add g k] at e
      by_cases hk : k = w.M.nx
      · exact .inr (if_pos hk)
      · rw [if_neg hk] at e
        exact .inl (.inr ⟨k, x, e, (if_neg hk).symm⟩)
  · rintro ((z | ⟨k, x, e, rfl⟩) | rfl)
    · exact .inl z
    · have hk : k ≠ w.M.nx := fun z => by rw [z, g.new_none] at e; cases e
      exact .inr ⟨k, x, by rw [show (w.new p ho o).M.get k = _ from get_add g k, if_neg hk]; exact e, if_neg hk⟩
    · exact .inr ⟨w.M.nx, o, by rw [show (w.new a ho o).M.get _ = _ from get_add g _, if_pos rfl], if_pos rfl⟩
theorem Ext.new (g : Good mg w) (hp : w.H p = none) : Ext w (w.new p ho o) := by
  have y := Ext.put (o := ho) g hp
  refine ⟨fun a u hu h n => ?_, fun a ob u hu h n => ?_, fun a u h n => ?_, y.dom, Nat.le_succ _, fun n h => if_neg (Nat.ne_of_lt h), fun _ h => h, y.Rk, y.frz⟩
  · refine ⟨(y.keep a u hu h n).1, fun z => ?_⟩
    rcases (Ex.new g a).mp z with z | z
    · exact n z
    · subst z
      rw [hp] at h; cases h
  · refine ⟨(y.keepF a ob u hu h n).1, fun z => ?_⟩
    rcases (Ex.new g a).mp z with z | z
    · exact n z
    · subst z
      rw [hp] at h; cases h
  · refine ⟨(y.keepD a u h n).1, fun z => ?_⟩
    rcases (Ex.new g a).mp z with z | z
    · exact n z
    · subst z
      rcases h with h | ⟨_, h⟩ <;> (rw [hp] at h; cases h)
theorem Good.new (g : Good mg w) (hp : w.H p = none) (r : MRep mg w (some ho) o) : Good mg (w.new p ho o) := by
  have x : Ext w (w.new p ho o) := Ext.new g hp
  have np : ∀ {n u}, w.M.get n = some u → w.ρ n ≠ p := fun {n u} h e => g.ex_dom (.inr ⟨n, u, h, e⟩) hp
  refine ⟨fun n u h => ?_, fun n m u z h1 h2 e => ?_, fun a h => x.dom a (g.Rd a h)⟩
  · rw [show (w.new p ho o).M.get n = _ from get_add g n] at h
    by_cases hk : n = w.M.nx
    · subst hk
      rw [if_pos rfl] at h
      cases h
      rw [show (w.new p ho o).ρ w.M.nx = p from if_pos rfl]
      refine ⟨Nat.lt_succ_self _, fun z => g.notEx hp (.inl z), ?_⟩
      rw [show (w.new p ho o).H p = some ho from upd_same]
      exact r.mono x
    · rw [if_neg hk] at h
      rw [show (w.new p ho o).ρ n = w.ρ n from if_neg hk]
      refine ⟨Nat.lt_succ_of_lt (g.own n u h).1, (g.own n u h).2.1, ?_⟩
      rw [show (w.new p ho o).H (w.ρ n) = w.H (w.ρ n) from upd_ne (np h)]
      exact (g.own n u h).2.2.mono x
  · have f : ∀ {k : Nat} {y : MO}, (w.new p ho o).M.get k = some y → (k = w.M.nx ∧ (w.new p ho o).ρ k = p) ∨ (∃ y', w.M.get k = some y' ∧ (w.new p ho o).ρ k = w.ρ k) := fun {k y} e => by
      rw [show (w.new p ho o).M.get k = _ from get_add g k] at e
      by_cases hk : k = w.M.nx
      · exact .inl ⟨hk, if_pos hk⟩
      · rw [if_neg hk] at e; exact .inr ⟨y, e, if_neg hk⟩
    rcases f h1 with ⟨a1, a2⟩ | ⟨y1, a1, a2⟩ <;> rcases f h2 with ⟨b1, b2⟩ | ⟨y2, b1, b2⟩
    · rw [a1, b1]
    · exact (np b1 (by rw [← b2, ← e, a2])).elim
    · exact (np a1 (by rw [← a2, e, b2])).elim
    · exact g.inj n m y1 y2 a1 b1 (by rw [← a2, e, b2])
theorem new_ref : Rep (w.new p ho o) (.ref p) (.ref w.M.nx) := by
  have h : Rep (w.new p ho o) (.ref ((w.new p ho o).ρ w.M.nx)) (.ref w.M.nx) := .ref _ (Nat.lt_succ_self _)
  rwa [show (w.new p ho o).ρ w.M.nx = p from if_pos rfl] at h
end

/-! ### one of the store becomes a plain one -/
def Wd.drop (w : Wd) (n : Nat) : Wd := { w with M := w.M.del n }
section
variable {mg : Str → Option Value} {w : Wd} {n : Nat} {o : MO}
theorem get_del (k : Nat) : (w.M.del n).get k = if k = n then none else w.M.get k := lkM_del
theorem Ex.drop {a : Addr} (h : Ex (w.drop n) a) : Ex w a := by
  rcases h with h | ⟨k, x, e, rfl⟩
  · exact .inl h
  · rw [show (w.drop n).M.get k = _ from get_del k] at e
    by_cases hk : k = n
    · rw [if_pos hk] at e; cases e
    · rw [if_neg hk] at e; exact .inr ⟨k, x, e, rfl⟩
theorem Ext.drop : Ext w (w.drop n) :=
  ⟨fun _ _ _ h m => ⟨h, fun z => m (Ex.drop z)⟩, fun _ _ _ _ h m => ⟨h, fun z => m (Ex.drop z)⟩, fun _ _ h m => ⟨h, fun z => m (Ex.drop z)⟩, fun _ h => h, Nat.le_refl _, fun _ _ => rfl, fun _ h => h, fun _ _ => rfl, fun _ _ _ h => h⟩
theorem Good.drop (g : Good mg w) : Good mg (w.drop n) := by
  have f : ∀ {k : Nat} {y : MO}, (w.drop n).M.get k = some y → w.M.get k = some y ∧ k ≠ n := fun {k y} e => by
    rw [show (w.drop n).M.get k = _ from get_del k] at e
    by_cases hk : k = n
    · rw [if_pos hk] at e; cases e
    · rw [if_neg hk] at e; exact ⟨e, hk⟩
  exact ⟨fun k y e => let ⟨h, _⟩ := f e; let ⟨a, b, c⟩ := g.own k y h; ⟨a, b, c.mono Ext.drop⟩, fun k m y z e1 e2 e3 => g.inj k m y z (f e1).1 (f e2).1 e3, g.Rd⟩
theorem drop_notEx (g : Good mg w) (h : w.M.get n = some o) : ¬ Ex (w.drop n) (w.ρ n) := by
  rintro (z | ⟨k, x, e, e2⟩)
  · exact (g.own n o h).2.1 z
  · rw [show (w.drop n).M.get k = _ from get_del k] at e
    by_cases hk : k = n
    · rw [if_pos hk] at e; cases e
    · rw [if_neg hk] at e; exact hk (g.inj k n x o e h e2)
/-- a list, a dict of the store, from then on plain -/
theorem drop_rep (g : Good mg w) {ts : List T} (h : w.M.get n = some (.lst ts)) : Rep (w.drop n) (.ref (w.ρ n)) (.lst ts) := by
  obtain ⟨_, _, vs, e, r⟩ := g.own n _ h
  exact .lst (drop_notEx g h) (.inl e) (r.mono Ext.drop)
theorem drop_repD (g : Good mg w) {ks : List Key} {ts : List T} (h : w.M.get n = some (.dic ks ts)) : Rep (w.drop n) (.ref (w.ρ n)) (.dic ks ts) := by
  obtain ⟨_, _, kvs, e, e2, d, r⟩ := g.own n _ h
  exact .dic (drop_notEx g h) (.inl e) e2 d (r.mono Ext.drop)
end

/-! ### an address is reserved, written, let go -/
/-- D is laid and reserved -/
def Wd.hold (w : Wd) (D : Addr) (ho : HO) : Wd := { w with H := upd w.H D ho, R := fun a => w.R a ∨ a = D }
section
variable {mg : Str → Option Value} {w w0 : Wd} {D : Addr} {ho : HO}
theorem Ex.hold {a : Addr} : Ex (w.hold D ho) a ↔ Ex w a ∨ a = D :=
  ⟨fun z => z.elim (fun y => y.elim (fun q => .inl (.inl q)) .inr) fun q => .inl (.inr q), fun z => z.elim (fun y => y.elim (fun q => .inl (.inl q)) .inr) fun q => .inl (.inr q)⟩
theorem Ext.hold (g : Good mg w) (hp : w.H D = none) : Ext w (w.hold D ho) := by
  have y := Ext.put (o := ho) g hp
  refine ⟨fun a u hu h n => ?_, fun a ob u hu h n => ?_, fun a u h n => ?_, y.dom, Nat.le_refl _, fun _ _ => rfl, fun _ h => .inl h, y.Rk, y.frz⟩
  · refine ⟨(y.keep a u hu h n).1, fun z => ?_⟩
    rcases Ex.hold.mp z with z | z
    · exact n z
    · subst z
      rw [hp] at h; cases h
  · refine ⟨(y.keepF a ob u hu h n).1, fun z => ?_⟩
    rcases Ex.hold.mp z with z | z
    · exact n z
    · subst z
      rw [hp] at h; cases h
  · refine ⟨(y.keepD a u h n).1, fun z => ?_⟩
    rcases Ex.hold.mp z with z | z
    · exact n z
    · subst z
      rcases h with h | ⟨_, h⟩ <;> (rw [hp] at h; cases h)
theorem Good.hold (g : Good mg w) (hp : w.H D = none) : Good mg (w.hold D ho) := by
  have x := Ext.hold (ho := ho) g hp
  refine ⟨fun n u h => ?_, g.inj, fun a h => ?_⟩
  · obtain ⟨h1, h2, h3⟩ := g.own n u h
    have ne : w.ρ n ≠ D := fun e => g.ex_dom (.inr ⟨n, u, h, rfl⟩) (by rw [e]; exact hp)
    refine ⟨h1, fun z => z.elim h2 ne, ?_⟩
    rw [show (w.hold D ho).H ((w.hold D ho).ρ n) = w.H (w.ρ n) from upd_ne ne]
    exact h3.mono x
  · rcases h with h | h
    · exact x.dom a (g.Rd a h)
    · rw [h]; show upd w.H D ho D ≠ none; rw [upd_same]; exact fun z => nomatch z
/-- the reserved one is written -/
def Wd.wrR (w : Wd) (D : Addr) (ho : HO) : Wd := { w with H := upd w.H D ho }
theorem Keep.wrR (hD : w.R D) : Keep w (w.wrR D ho) := by
  have ne : ∀ {a : Addr}, ¬ Ex w a → a ≠ D := fun {a} n e => n (.inl (by rw [e]; exact hD))
  refine ⟨fun a u _ h n => ⟨by show upd w.H D ho a = _; rw [upd_ne (ne n)]; exact h, n⟩, fun a ob u _ h n => ⟨by show upd w.H D ho a = _; rw [upd_ne (ne n)]; exact h, n⟩, fun a u h n => ⟨?_, n⟩, Nat.le_refl _, fun _ _ => rfl⟩
  rcases h with h | ⟨o, h⟩
  · exact .inl (by show upd w.H D ho a = _; rw [upd_ne (ne n)]; exact h)
  · exact .inr ⟨o, by show upd w.H D ho a = _; rw [upd_ne (ne n)]; exact h⟩
theorem Good.wrR (g : Good mg w) (hD : w.R D) : Good mg (w.wrR D ho) := by
  refine ⟨fun n u h => ?_, g.inj, fun a h => ?_⟩
  · obtain ⟨h1, h2, h3⟩ := g.own n u h
    refine ⟨h1, h2, ?_⟩
    rw [show (w.wrR D ho).H ((w.wrR D ho).ρ n) = w.H (w.ρ n) from upd_ne fun e => h2 (by have e : w.ρ n = D := e; rw [e]; exact hD)]
    exact h3.kept (Keep.wrR hD)
  · show upd w.H D ho a ≠ none
    by_cases e : a = D
    · rw [e, upd_same]; exact fun z => nomatch z
    · rw [upd_ne e]; exact g.Rd a h
/-- what stood ahead of D's making stands -/
theorem Ext.wrR (x : Ext w0 w) (g : Good mg w) (g0 : Good mg w0) (hp : w0.H D = none) (hD : w.R D) : Ext w0 (w.wrR D ho) := by
  have k := Keep.wrR (ho := ho) hD
  refine ⟨fun a u hu h n => let ⟨h1, n1⟩ := x.keep a u hu h n; k.keep a u hu h1 n1, fun a ob u hu h n => let ⟨h1, n1⟩ := x.keepF a ob u hu h n; k.keepF a ob u hu h1 n1, fun a u h n => let ⟨h1, n1⟩ := x.keepD a u h n; k.keepD a u h1 n1, fun a h => ?_, x.nx, x.rho, x.R, fun a h => ?_, fun a o u h => ?_⟩
  · show upd w.H D ho a ≠ none
    by_cases e : a = D
    · rw [e, upd_same]; exact fun z => nomatch z
    · rw [upd_ne e]; exact x.dom a h
  · show upd w.H D ho a = _
    rw [upd_ne fun e => g0.Rd a h (by rw [e]; exact hp)]
    exact x.Rk a h
  · show upd w.H D ho a = _
    rw [upd_ne (ne_of_none h hp)]
    exact x.frz a o u h
/-- D is let go, and is not there as yet -/
def Wd.cut (w : Wd) (D : Addr) (R0 : Addr → Prop) : Wd := { w with H := fun b => if b = D then none else w.H b, R := R0 }
theorem cut_put (e : w.H D = some ho) {R0 : Addr → Prop} : ((w.cut D R0).put D ho).H = w.H := by
  funext b
  show upd (fun b => if b = D then none else w.H b) D ho b = w.H b
  by_cases h : b = D
  · rw [h, upd_same, e]
  · rw [upd_ne h]; exact if_neg h
theorem Keep.cut (hD : w.R D) (hR : ∀ a, w0.R a → w.R a) : Keep w (w.cut D w0.R) := by
  have ne : ∀ {a : Addr}, ¬ Ex w a → a ≠ D := fun {a} n e => n (.inl (by rw [e]; exact hD))
  have nx : ∀ {a : Addr}, ¬ Ex w a → ¬ Ex (w.cut D w0.R) a := fun {a} n z => z.elim (fun q => n (.inl (hR a q))) fun q => n (.inr q)
  refine ⟨fun a u _ h n => ⟨?_, nx n⟩, fun a ob u _ h n => ⟨?_, nx n⟩, fun a u h n => ⟨?_, nx n⟩, Nat.le_refl _, fun _ _ => rfl⟩
  · show (if a = D then none else w.H a) = _
    rw [if_neg (ne n)]; exact h
  · show (if a = D then none else w.H a) = _
    rw [if_neg (ne n)]; exact h
  · rcases h with h | ⟨o, h⟩
    · exact .inl (by show (if a = D then none else w.H a) = _; rw [if_neg (ne n)]; exact h)
    · exact .inr ⟨o, by show (if a = D then none else w.H a) = _; rw [if_neg (ne n)]; exact h⟩
theorem Good.cut (g : Good mg w) (x : Ext w0 w) (g0 : Good mg w0) (hp : w0.H D = none) (hD : w.R D) : Good mg (w.cut D w0.R) := by
  refine ⟨fun n u h => ?_, g.inj, fun a h => ?_⟩
  · obtain ⟨h1, h2, h3⟩ := g.own n u h
    refine ⟨h1, fun z => h2 (x.R _ z), ?_⟩
    rw [show (w.cut D w0.R).H ((w.cut D w0.R).ρ n) = w.H (w.ρ n) from if_neg fun e => h2 (by have e : w.ρ n = D := e; rw [e]; exact hD)]
    exact h3.kept (Keep.cut hD x.R)
  · show (if a = D then none else w.H a) ≠ none
    rw [if_neg fun e => g0.Rd a h (by rw [e]; exact hp)]
    exact g.Rd a (x.R a h)
theorem Ext.cut (x : Ext w0 w) (g0 : Good mg w0) (hp : w0.H D = none) (hD : w.R D) : Ext w0 (w.cut D w0.R) := by
  have k := Keep.cut hD x.R
  refine ⟨fun a u hu h n => let ⟨h1, n1⟩ := x.keep a u hu h n; k.keep a u hu h1 n1, fun a ob u hu h n => let ⟨h1, n1⟩ := x.keepF a ob u hu h n; k.keepF a ob u hu h1 n1, fun a u h n => let ⟨h1, n1⟩ := x.keepD a u h n; k.keepD a u h1 n1, fun a h => ?_, x.nx, x.rho, fun _ h => h, fun a h => ?_, fun a o u h => ?_⟩
  · show (if a = D then none else w.H a) ≠ none
    rw [if_neg fun e => h (by rw [e]; exact hp)]
    exact x.dom a h
  · show (if a = D then none else w.H a) = _
    rw [if_neg fun e => g0.Rd a h (by rw [e]; exact hp)]
    exact x.Rk a h
  · show (if a = D then none else w.H a) = _
    rw [if_neg fun e => by rw [e, hp] at h; cases h]
    exact x.frz a o u h
end

/-! ### the names of a frame -/
abbrev Tau := List (Option T)
structure Nm (w : Wd) (σ : L2.St) (τ : Tau) : Prop where
  len : σ.length = τ.length
  at_ : ∀ (i : Nat) (t : T), τ[i]? = some (some t) → ∃ v, σ[i]? = some (some v) ∧ Rep w v t
theorem Nm.mono {w w' : Wd} {σ : L2.St} {τ : Tau} (x : Ext w w') (e : Nm w σ τ) : Nm w' σ τ := ⟨e.len, fun i t h => let ⟨v, a, b⟩ := e.at_ i t h; ⟨v, a, b.mono x⟩⟩
theorem Nm.set {w : Wd} {σ : L2.St} {τ : Tau} (e : Nm w σ τ) {v : V} {t : T} (r : Rep w v t) (i : Nat) : Nm w (σ.set i (some v)) (τ.set i (some t)) := by
  refine ⟨by simp [e.len], fun j u h => ?_⟩
  by_cases hj : i = j
  · subst hj
    by_cases hl : i < τ.length
    · rw [List.getElem?_set_self hl] at h
      cases h
      exact ⟨v, by rw [List.getElem?_set_self (by rw [e.len]; exact hl)], r⟩
    · rw [List.getElem?_eq_none (by simpa using hl)] at h; cases h
  · rw [List.getElem?_set_ne hj] at h
    obtain ⟨v', a, b⟩ := e.at_ j u h
    exact ⟨v', by rw [List.getElem?_set_ne hj]; exact a, b⟩
def wipeT (τ : Tau) : List Nat → Tau
  | [] => τ
  | v :: vs => (wipeT τ vs).set v none
theorem Nm.wipe {w : Wd} {σ : L2.St} {τ : Tau} (e : Nm w σ τ) : ∀ vs : List Nat, Nm w (L2.wipe σ vs) (wipeT τ vs)
  | [] => e
  | i :: vs => by
    have q := Nm.wipe e vs
    refine ⟨by show ((L2.wipe σ vs).set i none).length = ((wipeT τ vs).set i none).length; simp [q.len], fun j u h => ?_⟩
    have h : ((wipeT τ vs).set i none)[j]? = some (some u) := h
    show ∃ v, ((L2.wipe σ vs).set i none)[j]? = _ ∧ _
    by_cases hj : i = j
    · subst hj
      by_cases hl : i < (wipeT τ vs).length
      · rw [List.getElem?_set_self hl] at h; cases h
      · rw [List.getElem?_eq_none (by simpa using hl)] at h; cases h
    · rw [List.getElem?_set_ne hj] at h
      obtain ⟨v', a, b⟩ := q.at_ j u h
      exact ⟨v', by rw [List.getElem?_set_ne hj]; exact a, b⟩
end TL
end
section
set_option Elab.async false
set_option linter.all false
set_option maxRecDepth 100000
/-! TL2: judgements by trees; names, constants, operators, tests, displays, slices. -/
namespace TL
open PySem PySem.Spec PyProof.Rows L2
abbrev Ev (α : Type) := Tau → Sto → Res α

/-- v is a fresh object, made behind w -/
def Fr (mg : Str → Option Value) (w w1 : Wd) (v : V) (t : T) : Prop := ∃ (w2 : Wd) (p : Addr), v = .ref p ∧ Ext w w2 ∧ Good mg w2 ∧ w2.H p = none ∧
  ((∃ vs ts, t = .lst ts ∧ RepL w2 vs ts ∧ w1 = w2.put p (.lst vs)) ∨
   (∃ (kvs : List (Key × V)) (ks : List Key) (ts : List T), t = .dic ks ts ∧ kvs.map Prod.fst = ks ∧ ks.Nodup ∧ RepL w2 (kvs.map Prod.snd) ts ∧ w1 = w2.put p (.dK kvs)))
def post (mg : Str → Option Value) (F : Bool) (Q : VK) (w : Wd) (a : Res T) : Prop :=
  a.all fun t M' => ∀ w1 v, Ext w w1 → Good mg w1 → w1.M = M' → Rep w1 v t → (F = true → Fr mg w w1 v t) → Q v w1.H
def tE (mg : Str → Option Value) (F : Bool) (f : Ev T) : TE := fun σ H Q => ∃ w τ, w.H = H ∧ Good mg w ∧ Nm w σ τ ∧ post mg F Q w (f τ w.M)
def tT (mg : Str → Option Value) (f : Ev Bool) : TT := fun σ H Q => ∃ w τ, w.H = H ∧ Good mg w ∧ Nm w σ τ ∧ (f τ w.M).all fun b M' => ∀ w1, Ext w w1 → Good mg w1 → w1.M = M' → Q b w1.H
def tA (mg : Str → Option Value) (f : Ev (List T)) : TA := fun σ H Q => ∃ w τ, w.H = H ∧ Good mg w ∧ Nm w σ τ ∧ (f τ w.M).all fun ts M' => ∀ w1 vs, Ext w w1 → Good mg w1 → w1.M = M' → RepL w1 vs ts → Q vs w1.H
def SE (F : Bool) (X : Cx) (e : Expr) (f : Ev T) : Prop := PE X e (tE X.mg F f)
def ST (X : Cx) (e : Expr) (f : Ev Bool) : Prop := PT X e (tT X.mg f)
def SW (X : Cx) (e : Expr) (f : Ev Bool) : Prop := PW X e (tT X.mg f)
def SA (X : Cx) (es : List Expr) (f : Ev (List T)) : Prop := PA X es (tA X.mg f)

theorem pe_imp {X : Cx} {e : Expr} {t t' : TE} (h : PE X e t') (i : ∀ σ H Q, t σ H Q → t' σ H Q) : PE X e t := ⟨fun p s σ H Q I q => h.run p s σ H Q I (i _ _ _ q)⟩
theorem pt_imp {X : Cx} {e : Expr} {t t' : TT} (h : PT X e t') (i : ∀ σ H Q, t σ H Q → t' σ H Q) : PT X e t := ⟨fun p s σ H Q I q => h.run p s σ H Q I (i _ _ _ q)⟩
theorem pw_imp {X : Cx} {e : Expr} {t t' : TT} (h : PW X e t') (i : ∀ σ H Q, t σ H Q → t' σ H Q) : PW X e t := ⟨fun wh p s σ H Q I q => h.run wh p s σ H Q I (i _ _ _ q)⟩
theorem pa_imp {X : Cx} {es : List Expr} {t t' : TA} (h : PA X es t') (i : ∀ σ H Q, t σ H Q → t' σ H Q) : PA X es t := ⟨fun pos p s σ H Q I q => h.run pos p s σ H Q I (i _ _ _ q)⟩

theorem Fr.ext {mg : Str → Option Value} {w w' w1 : Wd} {v : V} {t : T} (x : Ext w w') (h : Fr mg w' w1 v t) : Fr mg w w1 v t := by
  obtain ⟨w2, p, e, y, r⟩ := h
  exact ⟨w2, p, e, x.trans y, r⟩
section
variable {mg : Str → Option Value} {F : Bool} {Q : VK} {w w1 : Wd} {a : Res T}
theorem post_ext (h : post mg F Q w a) (x : Ext w w1) : post mg F Q w1 a :=
  Res.all_mono (fun _ _ q w2 v y g e r f => q w2 v (x.trans y) g e r fun hf => (f hf).ext x) h
theorem post_ok {t : T} {v : V} (h : post mg F Q w (.ok t w.M)) (g : Good mg w) (r : Rep w v t) (f : F = false := by first | rfl | assumption) : Q v w.H :=
  h w v (.refl w) g rfl r fun z => by rw [f] at z; cases z
/-- a new list is the answer -/
theorem post_lst {ts : List T} {vs : List V} {p : Addr} (h : post mg F Q w (.ok (.lst ts) w.M)) (g : Good mg w) (hp : w.H p = none) (r : RepL w vs ts) : Q (.ref p) (upd w.H p (.lst vs)) :=
  h (w.put p (.lst vs)) (.ref p) (Ext.put g hp) (g.put hp) rfl (put_lst g hp r) fun _ => ⟨w, p, rfl, .refl w, g, hp, .inl ⟨vs, ts, rfl, r, rfl⟩⟩
theorem post_dic {ks : List Key} {ts : List T} {kvs : List (Key × V)} {p : Addr} (h : post mg F Q w (.ok (.dic ks ts) w.M)) (g : Good mg w) (hp : w.H p = none) (e : kvs.map Prod.fst = ks) (d : ks.Nodup) (r : RepL w (kvs.map Prod.snd) ts) : Q (.ref p) (upd w.H p (.dK kvs)) :=
  h (w.put p (.dK kvs)) (.ref p) (Ext.put g hp) (g.put hp) rfl (put_dic g hp e d r) fun _ => ⟨w, p, rfl, .refl w, g, hp, .inr ⟨kvs, ks, ts, rfl, e, d, r, rfl⟩⟩
theorem post_tup {ts : List T} {vs : List V} {p : Addr} (h : post mg false Q w (.ok (.tup ts) w.M)) (g : Good mg w) (hp : w.H p = none) (r : RepL w vs ts) : Q (.ref p) (upd w.H p (.tup vs)) :=
  h (w.put p (.tup vs)) (.ref p) (Ext.put g hp) (g.put hp) rfl (put_tup g hp r) fun z => nomatch z
end
theorem SE.drop {X : Cx} {e : Expr} {f : Ev T} (h : SE true X e f) : SE false X e f :=
  pe_imp h fun σ H Q ⟨w, τ, e, g, n, q⟩ => ⟨w, τ, e, g, n, Res.all_mono (fun _ _ q w1 v x g1 e1 r _ => q w1 v x g1 e1 r fun z => nomatch z) q⟩

/-! ### names, constants -/
def eVar (i : Nat) : Ev T := fun τ M => match τ[i]? with
  | some (some t) => .ok t M
  | _ => .stuck
def eC (t : T) : Ev T := fun _ M => .ok t M
def eStuck {α : Type} : Ev α := fun _ _ => .stuck
section
variable {X : Cx} {pos : Pos}
theorem se_never {F : Bool} {e : Expr} : SE F X e eStuck := ⟨fun _ _ _ _ _ _ ⟨_, _, _, _, _, q⟩ => q.elim⟩
theorem st_never {e : Expr} : ST X e eStuck := ⟨fun _ _ _ _ _ _ ⟨_, _, _, _, _, q⟩ => q.elim⟩
theorem se_var {i : Nat} {x : Str} (hN : X.N[i]? = some x := by rfl) (hv : Vis X.env.scope x := by first | exact .inl rfl | exact .inr (.inl rfl) | exact .inr (.inr rfl)) (hd : (x == ("__debug__" : Str)) = false := by decide) (hcd : (x == ("__classdict__" : Str)) = false := by decide) : SE false X (.Name x pos) (eVar i) := by
  refine pe_imp (pe_var hN hv hd hcd) fun σ H Q ⟨w, τ, e, g, n, q⟩ => ?_
  subst e
  unfold eVar at q
  split at q
  · rename_i t ht
    obtain ⟨v, h1, h2⟩ := n.at_ i t ht
    exact ⟨v, h1, post_ok q g h2⟩
  · exact q.elim
theorem se_int {i : Int} {j} : SE false X (.Constant (.int i) j pos) (eC (.int i)) := pe_imp pe_int fun σ H Q ⟨w, τ, e, g, n, q⟩ => by subst e; exact post_ok q g (.int i)
theorem se_bl {b : Bool} {j} : SE false X (.Constant (.bool b) j pos) (eC (.bl b)) := pe_imp pe_bl fun σ H Q ⟨w, τ, e, g, n, q⟩ => by subst e; exact post_ok q g (.bl b)
theorem se_non {j} : SE false X (.Constant .none j pos) (eC .non) := pe_imp pe_non fun σ H Q ⟨w, τ, e, g, n, q⟩ => by subst e; exact post_ok q g .non
theorem se_str {x : Str} {j} : SE false X (.Constant (.str x) j pos) (eC (.str x)) := pe_imp pe_str fun σ H Q ⟨w, τ, e, g, n, q⟩ => by subst e; exact post_ok q g (.str x)
theorem se_gint {x : Str} {i : Int} (hg : Gl X x) (hm : ∃ t, X.mg x = some (.int i t)) (hd : (x == ("__debug__" : Str)) = false := by decide) : SE false X (.Name x pos) (eC (.int i)) := by
  obtain ⟨t, hm⟩ := hm
  exact pe_imp (pe_glob hg hm (v := .int i) ⟨t, rfl⟩ hd) fun σ H Q ⟨w, τ, e, g, n, q⟩ => by subst e; exact post_ok q g (.int i)
theorem se_gstr {x : Str} {i : Str} (hg : Gl X x) (hm : ∃ t, X.mg x = some (.str i t)) (hd : (x == ("__debug__" : Str)) = false := by decide) : SE false X (.Name x pos) (eC (.str i)) := by
  obtain ⟨t, hm⟩ := hm
  exact pe_imp (pe_glob hg hm (v := .str i) ⟨t, rfl⟩ hd) fun σ H Q ⟨w, τ, e, g, n, q⟩ => by subst e; exact post_ok q g (.str i)

/-! ### one, two parts -/
def e1 (k : T → Sto → Res T) (a : Ev T) : Ev T := fun τ M => (a τ M).bind k
def e2 (k : T → T → Sto → Res T) (a b : Ev T) : Ev T := fun τ M => (a τ M).bind fun x M1 => (b τ M1).bind fun y M2 => k x y M2
variable {a b c : Expr} {fa fb fc : Ev T} {k : T → T → Sto → Res T} {k1 : T → Sto → Res T} {F : Bool}
theorem two_imp {mg : Str → Option Value} {r : R2} (hr : ∀ w x y a b Q, Good mg w → Rep w x a → Rep w y b → post mg F Q w (k a b w.M) → r x y w.H Q) {σ : L2.St} {H : Hp} {Q : VK}
    (h : tE mg F (e2 k fa fb) σ H Q) : tOp r (tE mg false fa) (tE mg false fb) σ H Q := by
  obtain ⟨w, τ, rfl, g, n, q⟩ := h
  refine ⟨w, τ, rfl, g, n, Res.all_mono (fun s M1 q w1 x x1 g1 e1 r1 _ => ?_) (Res.all_bind q)⟩
  subst e1
  refine ⟨w1, τ, rfl, g1, n.mono x1, Res.all_mono (fun s' M2 q w2 y x2 g2 e2 r2 _ => ?_) (Res.all_bind q)⟩
  subst e2
  exact hr w2 x y s s' Q g2 (r1.mono x2) r2 (post_ext q (x1.trans x2))
theorem one_imp {mg : Str → Option Value} {r : V → Hp → VK → Prop} (hr : ∀ w x a Q, Good mg w → Rep w x a → post mg F Q w (k1 a w.M) → r x w.H Q) {σ : L2.St} {H : Hp} {Q : VK}
    (h : tE mg F (e1 k1 fa) σ H Q) : tUn r (tE mg false fa) σ H Q := by
  obtain ⟨w, τ, rfl, g, n, q⟩ := h
  refine ⟨w, τ, rfl, g, n, Res.all_mono (fun s M1 q w1 x x1 g1 e1 r1 _ => ?_) (Res.all_bind q)⟩
  subst e1
  exact hr w1 x s Q g1 r1 (post_ext q x1)

/-! ### arithmetic -/
def kAdd : T → T → Sto → Res T
  | .int i, .int j, M => .ok (.int (i + j)) M
  | .lst xs, .lst ys, M => if xs.length + ys.length ≤ 16777216 then .ok (.lst (xs ++ ys)) M else .stuck
  | .str x, .str y, M => if x.length + y.length ≤ 16777216 then .ok (.str (x ++ y)) M else .stuck
  | _, _, _ => .stuck
def kAddI : T → T → Sto → Res T
  | .int i, .int j, M => .ok (.int (i + j)) M
  | .str x, .str y, M => if x.length + y.length ≤ 16777216 then .ok (.str (x ++ y)) M else .stuck
  | _, _, _ => .stuck
def kAddL : T → T → Sto → Res T
  | .lst xs, .lst ys, M => if xs.length + ys.length ≤ 16777216 then .ok (.lst (xs ++ ys)) M else .stuck
  | _, _, _ => .stuck
def kSub : T → T → Sto → Res T
  | .int i, .int j, M => .ok (.int (i - j)) M
  | _, _, _ => .stuck
def kMul : T → T → Sto → Res T
  | .int i, .int j, M => if i.natAbs.log2 + j.natAbs.log2 < 1000000 then .ok (.int (i * j)) M else .stuck
  | _, _, _ => .stuck
def kRep : T → T → Sto → Res T
  | .lst xs, .int j, M => if j < 1000000 ∧ -1000000 < j ∧ xs.length * j.toNat ≤ 16777216 then .ok (.lst (List.replicate j.toNat xs).flatten) M else .stuck
  | _, _, _ => .stuck
def kDiv : T → T → Sto → Res T
  | .int i, .int j, M => if 0 < j ∧ j.natAbs.log2 < 9000 then .ok (.int (i / j)) M else .stuck
  | _, _, _ => .stuck
def kMod : T → T → Sto → Res T
  | .int i, .int j, M => if 0 < j then .ok (.int (i % j)) M else .stuck
  | _, _, _ => .stuck
theorem line_eq : (sizeLine : Nat) = 16777216 := sizeLine_eq
theorem se_addI (ha : SE false X a fa) (hb : SE false X b fb) : SE false X (.BinOp a .Add b pos) (e2 kAddI fa fb) := by
  refine pe_imp (pe_op (OpR.or op_add op_add_str) ha hb) fun σ H Q h => two_imp (fun w x y s t Q g r1 r2 q => ?_) h
  unfold kAddI at q
  split at q
  · cases r1; cases r2; exact .inl ⟨_, _, rfl, rfl, post_ok q g (.int _)⟩
  · split at q
    · cases r1; cases r2; exact .inr ⟨_, _, rfl, rfl, by rw [line_eq]; assumption, post_ok q g (.str _)⟩
    · exact q.elim
  · exact q.elim
/-- what a list that is read holds, frozen or not -/
theorem Rd.seq {X : Cx} {pins : List (Addr × Obj)} {σ : L2.St} {H : Hp} {s : Shared} {a : Addr} {xs : List V} (I : L2.Inv X pins σ H s) (r : Rd H a (.lst xs)) :
    ∃ (us : List Value) (n : Nat), Vals xs us ∧ us.length = xs.length ∧ s.heap.get? a = some { cls := .type "list", data := .seq us.toArray n } := by
  obtain ⟨_, us, n, v, g⟩ := (show ObjOk X.prog X.w H s.heap a (.lst xs) from r.ok I.hok)
  exact ⟨us, n, v, v.length.symm, g⟩
def rCatR : R2 := fun x y H Q => ∃ (a b : Addr) (xs ys : List V), x = .ref a ∧ y = .ref b ∧ Rd H a (.lst xs) ∧ Rd H b (.lst ys) ∧ xs.length + ys.length ≤ sizeLine ∧ ∀ p, H p = none → Q (.ref p) (upd H p (.lst (xs ++ ys)))
theorem op_catR {X : Cx} : OpR X (binaryOp .Add) rCatR := fun pins s σ H x y v u Q I rx ry ⟨a, b, xs, ys, ex, ey, ha, hb, hl, q⟩ => by
  subst ex ey
  cases rx
  cases ry
  obtain ⟨us, n, vx, lx, gx⟩ := Rd.seq I ha
  obtain ⟨ws, m, vy, ly, gy⟩ := Rd.seq I hb
  refine PySem.P.add_list gx gy ?_ (by simpa [lx, ly] using hl)
  rw [show us.toArray ++ ws.toArray = (us ++ ws).toArray from by simp]
  have I2 := I.lnew (t' := s.toks) (vx.append vy) (by simpa using hl)
  exact ⟨.ref s.heap.objs.size, upd H s.heap.objs.size (.lst (xs ++ ys)), I2, rfl, q _ I.fresh⟩
theorem se_addL (ha : SE false X a fa) (hb : SE false X b fb) : SE true X (.BinOp a .Add b pos) (e2 kAddL fa fb) := by
  refine pe_imp (pe_op op_catR ha hb) fun σ H Q h => two_imp (fun w x y s t Q g r1 r2 q => ?_) h
  unfold kAddL at q
  split at q
  · split at q
    · rename_i hl
      cases r1 with
      | lst n1 h1 l1 =>
        cases r2 with
        | lst n2 h2 l2 => exact ⟨_, _, _, _, rfl, rfl, h1, h2, by rw [line_eq, l1.length, l2.length]; exact hl, fun p hp => post_lst q g hp (l1.append l2)⟩
    · exact q.elim
  · exact q.elim
theorem se_sub (ha : SE false X a fa) (hb : SE false X b fb) : SE false X (.BinOp a .Sub b pos) (e2 kSub fa fb) := by
  refine pe_imp (pe_op op_sub ha hb) fun σ H Q h => two_imp (fun w x y s t Q g r1 r2 q => ?_) h
  unfold kSub at q
  split at q
  · cases r1; cases r2; exact ⟨_, _, rfl, rfl, post_ok q g (.int _)⟩
  · exact q.elim
theorem se_mul (ha : SE false X a fa) (hb : SE false X b fb) : SE false X (.BinOp a .Mult b pos) (e2 kMul fa fb) := by
  refine pe_imp (pe_op op_mulW ha hb) fun σ H Q h => two_imp (fun w x y s t Q g r1 r2 q => ?_) h
  unfold kMul at q
  split at q
  · split at q
    · cases r1; cases r2; exact ⟨_, _, rfl, rfl, by assumption, post_ok q g (.int _)⟩
    · exact q.elim
  · exact q.elim
theorem RepL.rep {w : Wd} {vs : List V} {ts : List T} (r : RepL w vs ts) : ∀ n : Nat, RepL w (List.replicate n vs).flatten (List.replicate n ts).flatten
  | 0 => .nil
  | n + 1 => by
    rw [List.replicate_succ, List.replicate_succ, List.flatten_cons, List.flatten_cons]
    exact r.append (RepL.rep r n)
/-- the list is a fresh one -/
theorem se_repL (ha : SE true X a fa) (hb : SE false X b fb) : SE true X (.BinOp a .Mult b pos) (e2 kRep fa fb) := by
  refine pe_imp (pe_op op_rep ha hb) fun σ H Q h => ?_
  obtain ⟨w, τ, rfl, g, n, q⟩ := h
  refine ⟨w, τ, rfl, g, n, Res.all_mono (fun s M1 q w1 x x1 g1 e1 r1 f1 => ?_) (Res.all_bind q)⟩
  subst e1
  refine ⟨w1, τ, rfl, g1, n.mono x1, Res.all_mono (fun s' M2 q w2 y x2 g2 e2 r2 _ => ?_) (Res.all_bind q)⟩
  subst e2
  have z := post_ext q (x1.trans x2)
  clear q
  obtain ⟨w3, p, rfl, x3, g3, hp, hf⟩ := f1 rfl
  unfold kRep at z
  split at z
  · split at z
    · rename_i hl
      rcases hf with ⟨vs, ts, e, l1, rfl⟩ | ⟨_, _, _, e, _⟩
      · cases e
        have n1 : ¬ Ex (w3.put p (.lst vs)) p := g3.notEx hp
        have e1 : (w3.put p (.lst vs)).H p = some (.lst vs) := upd_same
        obtain ⟨e2, _⟩ := x2.keep p (.lst vs) True.intro e1 n1
        have l2 := (l1.mono (Ext.put g3 hp)).mono x2
        cases r2
        exact ⟨_, _, _, rfl, rfl, e2, by omega, by omega, by rw [line_eq, l2.length]; exact hl.2.2, fun p hp => post_lst z g2 hp (l2.rep _)⟩
      · cases e
    · exact z.elim
  · exact z.elim
theorem se_fdiv (ha : SE false X a fa) (hb : SE false X b fb) : SE false X (.BinOp a .FloorDiv b pos) (e2 kDiv fa fb) := by
  refine pe_imp (pe_op op_fdivW ha hb) fun σ H Q h => two_imp (fun w x y s t Q g r1 r2 q => ?_) h
  unfold kDiv at q
  split at q
  · split at q
    · cases r1; cases r2; exact ⟨_, _, rfl, rfl, by assumption, post_ok q g (.int _)⟩
    · exact q.elim
  · exact q.elim
theorem se_mod (ha : SE false X a fa) (hb : SE false X b fb) : SE false X (.BinOp a .Mod b pos) (e2 kMod fa fb) := by
  refine pe_imp (pe_op op_mod ha hb) fun σ H Q h => two_imp (fun w x y s t Q g r1 r2 q => ?_) h
  unfold kMod at q
  split at q
  · split at q
    · cases r1; cases r2; exact ⟨_, _, rfl, rfl, by assumption, post_ok q g (.int _)⟩
    · exact q.elim
  · exact q.elim
def kNeg : T → Sto → Res T
  | .int i, M => .ok (.int (-i)) M
  | _, _ => .stuck
theorem se_neg (ha : SE false X a fa) : SE false X (.UnaryOp .USub a pos) (e1 kNeg fa) := by
  refine pe_imp (pe_un un_neg ha) fun σ H Q h => one_imp (fun w x s Q g r1 q => ?_) h
  unfold kNeg at q
  split at q
  · cases r1; exact ⟨_, rfl, post_ok q g (.int _)⟩
  · exact q.elim
end
end TL
end
section
set_option Elab.async false
set_option linter.all false
set_option maxRecDepth 100000
/-! TL3: comparisons, tests, subscripts, slices, displays. -/
namespace TL
open PySem PySem.Spec PyProof.Rows L2

/-! ### data -/
mutual
def toD : T → Option PyData
  | .non => some .none
  | .bl b => some (.bool b)
  | .int i => some (.int i)
  | .str x => some (.str x)
  | .lst xs => match toDs xs with
    | some ds => some (.list ds)
    | none => none
  | .tup xs => match toDs xs with
    | some ds => some (.tuple ds)
    | none => none
  | .dic _ _ => none
  | .ref _ => none
  | .scr _ => none
def toDs : List T → Option (List PyData)
  | [] => some []
  | x :: xs => match toD x, toDs xs with
    | some d, some ds => some (d :: ds)
    | _, _ => none
end
mutual
theorem Rep.dp {K : PySem.W.Frag} {w : Wd} : ∀ {v : V} {t : T} {d : PyData}, Rep w v t → toD t = some d → Dp K w.H v d
  | _, _, _, .non, e => by simp only [toD, Option.some.injEq] at e; subst e; exact .non
  | _, _, _, .bl b, e => by simp only [toD, Option.some.injEq] at e; subst e; exact .bl b
  | _, _, _, .int i, e => by simp only [toD, Option.some.injEq] at e; subst e; exact .int i
  | _, _, _, .str x, e => by simp only [toD, Option.some.injEq] at e; subst e; exact .str x
  | _, _, _, .lst n h r, e => by
    simp only [toD] at e
    split at e
    · rename_i ds hds
      cases e
      exact .lst (.inl h) (RepL.dp r hds)
    · cases e
  | _, _, _, .tup n h r, e => by
    simp only [toD] at e
    split at e
    · rename_i ds hds
      cases e
      exact .tup (.inl h) (RepL.dp r hds)
    · cases e
  | _, _, _, .dic _ _ _ _ _, e => by simp [toD] at e
  | _, _, _, .ref _ _, e => by simp [toD] at e
theorem RepL.dp {K : PySem.W.Frag} {w : Wd} : ∀ {vs : List V} {ts : List T} {ds : List PyData}, RepL w vs ts → toDs ts = some ds → DpAll K w.H vs ds
  | _, _, _, .nil, e => by simp only [toDs, Option.some.injEq] at e; subst e; exact .nil
  | _, _, _, .cons r l, e => by
    simp only [toDs] at e
    split at e
    · rename_i d ds h1 h2
      cases e
      exact .cons (Rep.dp r h1) (RepL.dp l h2)
    · cases e
end

/-! ### comparisons -/
def CmpOk (X : Cx) (op : CmpOp) (k : T → T → Sto → Res T) : Prop :=
  ∃ r, OpR X (compareOp op) r ∧ ∀ w x y a b Q, Good X.mg w → Rep w x a → Rep w y b → post X.mg false Q w (k a b w.M) → r x y w.H Q
def eB (f : Ev T) : Ev Bool := fun τ M => (f τ M).bind fun t M' => match t with
  | .bl b => .ok b M'
  | _ => .stuck
theorem tT_of {mg : Str → Option Value} {f : Ev T} {σ : L2.St} {H : Hp} {Q : Bool → Hp → Prop} (h : tT mg (eB f) σ H Q) : tE mg false f σ H (fun x H' => ∃ c, x = .bl c ∧ Q c H') := by
  obtain ⟨w, τ, rfl, g, n, q⟩ := h
  refine ⟨w, τ, rfl, g, n, Res.all_mono (fun t M' q w1 v x1 g1 e1 r1 _ => ?_) (Res.all_bind q)⟩
  subst e1
  split at q
  · cases r1
    exact ⟨_, rfl, q w1 x1 g1 rfl⟩
  · exact q.elim
section
variable {X : Cx} {pos : Pos} {a b c : Expr} {fa fb fc : Ev T} {F : Bool}
theorem se_cmp {op : CmpOp} {k : T → T → Sto → Res T} (C : CmpOk X op k) (ha : SE false X a fa) (hb : SE false X b fb) (hm : behindInMarks op b = false := by first | exact nomark _ | rfl) : SE false X (.Compare a [op] [b] pos) (e2 k fa fb) := by
  obtain ⟨r, ho, hr⟩ := C
  exact pe_imp (pe_cmpR ho ha hb hm) fun σ H Q h => two_imp (fun w x y s t Q g r1 r2 q => hr w x y s t Q g r1 r2 q) h
theorem st_cmp {op : CmpOp} {k : T → T → Sto → Res T} (C : CmpOk X op k) (ha : SE false X a fa) (hb : SE false X b fb) (hm : behindInMarks op b = false := by first | exact nomark _ | rfl) : ST X (.Compare a [op] [b] pos) (eB (e2 k fa fb)) := by
  obtain ⟨r, ho, hr⟩ := C
  exact pt_imp (pt_cmpR ho ha hb hm) fun σ H Q h => two_imp (fun w x y s t Q g r1 r2 q => hr w x y s t Q g r1 r2 q) (tT_of h)
/-- any other expression that tells a truth value -/
theorem st_val {e : Expr} {f : Ev T} (h : SE false X e f) (he : ∀ whole, isTrue e X.env whole = (do let v ← whole; standAt e.pos; holding [v] (truthy v)) := by intro _; rfl) : ST X e (eB f) :=
  pt_imp (pt_val h he) fun σ H Q h => tT_of h

def kLt : T → T → Sto → Res T
  | .int i, .int j, M => .ok (.bl (decide (i < j))) M
  | .str i, .str j, M => .ok (.bl (decide (i.cps.toList < j.cps.toList))) M
  | _, _, _ => .stuck
def kLe : T → T → Sto → Res T
  | .int i, .int j, M => .ok (.bl (decide (i ≤ j))) M
  | .str i, .str j, M => .ok (.bl (!decide (j.cps.toList < i.cps.toList))) M
  | _, _, _ => .stuck
def kGt : T → T → Sto → Res T
  | .int i, .int j, M => .ok (.bl (decide (j < i))) M
  | _, _, _ => .stuck
def kGe : T → T → Sto → Res T
  | .int i, .int j, M => .ok (.bl (decide (j ≤ i))) M
  | _, _, _ => .stuck
theorem c_lt : CmpOk X .Lt kLt := ⟨_, OpR.or op_lt op_lt_str, fun w x y a b Q g r1 r2 q => by
  unfold kLt at q
  split at q
  · cases r1; cases r2; exact .inl ⟨_, _, rfl, rfl, post_ok q g (.bl _)⟩
  · cases r1; cases r2; exact .inr ⟨_, _, rfl, rfl, post_ok q g (.bl _)⟩
  · exact q.elim⟩
theorem c_le : CmpOk X .LtE kLe := ⟨_, OpR.or op_le op_le_str, fun w x y a b Q g r1 r2 q => by
  unfold kLe at q
  split at q
  · cases r1; cases r2; exact .inl ⟨_, _, rfl, rfl, post_ok q g (.bl _)⟩
  · cases r1; cases r2; exact .inr ⟨_, _, rfl, rfl, post_ok q g (.bl _)⟩
  · exact q.elim⟩
theorem c_gt : CmpOk X .Gt kGt := ⟨_, op_gt, fun w x y a b Q g r1 r2 q => by
  unfold kGt at q
  split at q
  · cases r1; cases r2; exact ⟨_, _, rfl, rfl, post_ok q g (.bl _)⟩
  · exact q.elim⟩
theorem c_ge : CmpOk X .GtE kGe := ⟨_, op_ge, fun w x y a b Q g r1 r2 q => by
  unfold kGe at q
  split at q
  · cases r1; cases r2; exact ⟨_, _, rfl, rfl, post_ok q g (.bl _)⟩
  · exact q.elim⟩
def isNonT : T → Bool
  | .non => true
  | _ => false
def kIsN : T → T → Sto → Res T
  | a, .non, M => .ok (.bl (isNonT a)) M
  | .bl a, .bl b, M => .ok (.bl (a == b)) M
  | _, _, _ => .stuck
def kNotN : T → T → Sto → Res T
  | a, .non, M => .ok (.bl (!isNonT a)) M
  | .bl a, .bl b, M => .ok (.bl (a != b)) M
  | _, _, _ => .stuck
theorem rep_none {w : Wd} {v : V} {t : T} (r : Rep w v t) : decide (v = V.non) = isNonT t := by
  cases r <;> rfl

/-! ### and, or, not, if -/
def eAnd (f g : Ev Bool) : Ev Bool := fun τ M => (f τ M).bind fun b M' => if b then g τ M' else .ok false M'
def eOr (f g : Ev Bool) : Ev Bool := fun τ M => (f τ M).bind fun b M' => if b then .ok true M' else g τ M'
def eNot (f : Ev Bool) : Ev Bool := fun τ M => (f τ M).bind fun b M' => .ok (!b) M'
def eIf (c : Ev Bool) (f g : Ev T) : Ev T := fun τ M => (c τ M).bind fun b M' => if b then f τ M' else g τ M'
def vAnd (f g : Ev T) : Ev T := fun τ M => (f τ M).bind fun t M' => match t with
  | .bl true => g τ M'
  | .bl false => .ok (.bl false) M'
  | _ => .stuck
def vOr (f g : Ev T) : Ev T := fun τ M => (f τ M).bind fun t M' => match t with
  | .bl false => g τ M'
  | .bl true => .ok (.bl true) M'
  | _ => .stuck
def kNot : T → Sto → Res T
  | .bl b, M => .ok (.bl (!b)) M
  | _, _ => .stuck
variable {ga gb : Ev Bool} {rest : List Expr}
theorem ST.and1 (h : ST X a ga) : SW X (.BoolOp .And [a] pos) ga := pw_and1 h
theorem ST.or1 (h : ST X a ga) : SW X (.BoolOp .Or [a] pos) ga := pw_or1 h
theorem sw_and (ha : ST X a ga) (hb : SW X (.BoolOp .And (b :: rest) pos) gb) : SW X (.BoolOp .And (a :: b :: rest) pos) (eAnd ga gb) := by
  refine pw_imp (pw_and ha hb) fun σ H Q ⟨w, τ, e, g, n, q⟩ => ?_
  subst e
  refine ⟨w, τ, rfl, g, n, Res.all_mono (fun b M' q w1 x1 g1 e1 => ?_) (Res.all_bind q)⟩
  subst e1
  cases b with
  | true => exact ⟨w1, τ, rfl, g1, n.mono x1, Res.all_mono (fun b M2 q w2 x2 g2 e2 => q w2 (x1.trans x2) g2 e2) q⟩
  | false => exact q w1 x1 g1 rfl
theorem sw_or (ha : ST X a ga) (hb : SW X (.BoolOp .Or (b :: rest) pos) gb) : SW X (.BoolOp .Or (a :: b :: rest) pos) (eOr ga gb) := by
  refine pw_imp (pw_or ha hb) fun σ H Q ⟨w, τ, e, g, n, q⟩ => ?_
  subst e
  refine ⟨w, τ, rfl, g, n, Res.all_mono (fun b M' q w1 x1 g1 e1 => ?_) (Res.all_bind q)⟩
  subst e1
  cases b with
  | false => exact ⟨w1, τ, rfl, g1, n.mono x1, Res.all_mono (fun b M2 q w2 x2 g2 e2 => q w2 (x1.trans x2) g2 e2) q⟩
  | true => exact q w1 x1 g1 rfl
theorem SW.st (h : SW X a ga) : ST X a ga := PW.pt h
theorem st_not (ha : ST X a ga) : ST X (.UnaryOp .Not a pos) (eNot ga) := by
  refine pt_imp (pt_not ha) fun σ H Q ⟨w, τ, e, g, n, q⟩ => ?_
  subst e
  refine ⟨w, τ, rfl, g, n, Res.all_mono (fun b M' q w1 x1 g1 e1 => ?_) (Res.all_bind q)⟩
  subst e1
  exact q w1 x1 g1 rfl
theorem se_if (hc : ST X c ga) (ha : SE F X a fa) (hb : SE F X b fb) : SE F X (.IfExp c a b pos) (eIf ga fa fb) := by
  refine pe_imp (pe_ifExp hc ha hb) fun σ H Q ⟨w, τ, e, g, n, q⟩ => ?_
  subst e
  refine ⟨w, τ, rfl, g, n, Res.all_mono (fun b M' q w1 x1 g1 e1 => ?_) (Res.all_bind q)⟩
  subst e1
  cases b with
  | true => exact ⟨w1, τ, rfl, g1, n.mono x1, post_ext q x1⟩
  | false => exact ⟨w1, τ, rfl, g1, n.mono x1, post_ext q x1⟩
theorem se_one {op} {f : Ev T} (h : SE false X a f) : SE false X (.BoolOp op [a] pos) f := pe_one h
theorem se_and (ha : SE false X a fa) (hb : SE false X (.BoolOp .And (b :: rest) pos) fb) : SE false X (.BoolOp .And (a :: b :: rest) pos) (vAnd fa fb) := by
  refine pe_imp (pe_and ha hb) fun σ H Q ⟨w, τ, e, g, n, q⟩ => ?_
  subst e
  refine ⟨w, τ, rfl, g, n, Res.all_mono (fun t M' q w1 v x1 g1 e1 r1 _ => ?_) (Res.all_bind q)⟩
  subst e1
  split at q
  · cases r1
    exact ⟨true, rfl, w1, τ, rfl, g1, n.mono x1, post_ext q x1⟩
  · cases r1
    exact ⟨false, rfl, post_ok (post_ext q x1) g1 (.bl _)⟩
  · exact q.elim
theorem se_or (ha : SE false X a fa) (hb : SE false X (.BoolOp .Or (b :: rest) pos) fb) : SE false X (.BoolOp .Or (a :: b :: rest) pos) (vOr fa fb) := by
  refine pe_imp (pe_or ha hb) fun σ H Q ⟨w, τ, e, g, n, q⟩ => ?_
  subst e
  refine ⟨w, τ, rfl, g, n, Res.all_mono (fun t M' q w1 v x1 g1 e1 r1 _ => ?_) (Res.all_bind q)⟩
  subst e1
  split at q
  · cases r1
    exact ⟨false, rfl, w1, τ, rfl, g1, n.mono x1, post_ext q x1⟩
  · cases r1
    exact ⟨true, rfl, post_ok (post_ext q x1) g1 (.bl _)⟩
  · exact q.elim
theorem se_not (ha : SE false X a fa) : SE false X (.UnaryOp .Not a pos) (e1 kNot fa) := by
  refine pe_imp (pe_not ha) fun σ H Q ⟨w, τ, e, g, n, q⟩ => ?_
  subst e
  refine ⟨w, τ, rfl, g, n, Res.all_mono (fun t M' q w1 v x1 g1 e1 r1 _ => ?_) (Res.all_bind q)⟩
  subst e1
  unfold kNot at q
  split at q
  · cases r1
    exact ⟨_, rfl, post_ok (post_ext q x1) g1 (.bl _)⟩
  · exact q.elim

/-! ### chains of two -/
def eChain (k k' : T → T → Sto → Res T) (fa fb fc : Ev T) : Ev T := fun τ M => (fa τ M).bind fun x M1 => (fb τ M1).bind fun y M2 => (k x y M2).bind fun z M3 => match z with
  | .bl true => (fc τ M3).bind fun u M4 => k' y u M4
  | .bl false => .ok (.bl false) M3
  | _ => .stuck
theorem chain_imp {X : Cx} {op op' : CmpOp} {k k' : T → T → Sto → Res T} {r r' : R2} (hr : ∀ w x y a b Q, Good X.mg w → Rep w x a → Rep w y b → post X.mg false Q w (k a b w.M) → r x y w.H Q)
    (hr' : ∀ w x y a b Q, Good X.mg w → Rep w x a → Rep w y b → post X.mg false Q w (k' a b w.M) → r' x y w.H Q) {σ : L2.St} {H : Hp} {Q : VK}
    (h : tE X.mg false (eChain k k' fa fb fc) σ H Q) : tChain r r' (tE X.mg false fa) (tE X.mg false fb) (tE X.mg false fc) σ H Q := by
  obtain ⟨w, τ, rfl, g, n, q⟩ := h
  refine ⟨w, τ, rfl, g, n, Res.all_mono (fun s M1 q w1 x x1 g1 e1 r1 _ => ?_) (Res.all_bind q)⟩
  subst e1
  refine ⟨w1, τ, rfl, g1, n.mono x1, Res.all_mono (fun s' M2 q w2 y x2 g2 e2 r2 _ => ?_) (Res.all_bind q)⟩
  subst e2
  refine hr w2 x y s s' _ g2 (r1.mono x2) r2 (Res.all_mono (fun z M3 q w3 v x3 g3 e3 r3 _ => ?_) (Res.all_bind q))
  subst e3
  split at q
  · cases r3
    refine ⟨true, rfl, w3, τ, rfl, g3, ((n.mono x1).mono x2).mono x3, Res.all_mono (fun u M4 q w4 v4 x4 g4 e4 r4 _ => ?_) (Res.all_bind q)⟩
    subst e4
    exact hr' w4 y v4 s' u Q g4 ((r2.mono x3).mono x4) r4 (post_ext q (((x1.trans x2).trans x3).trans x4))
  · cases r3
    exact ⟨false, rfl, post_ok (post_ext q ((x1.trans x2).trans x3)) g3 (.bl _)⟩
  · exact q.elim
theorem se_chain {op op' : CmpOp} {k k' : T → T → Sto → Res T} (C : CmpOk X op k) (C' : CmpOk X op' k') (ha : SE false X a fa) (hb : SE false X b fb) (hc : SE false X c fc) (hm : lastMarks [op, op'] [b, c] = false := by rfl) : SE false X (.Compare a [op, op'] [b, c] pos) (eChain k k' fa fb fc) := by
  obtain ⟨r, ho, hr⟩ := C
  obtain ⟨r', ho', hr'⟩ := C'
  exact pe_imp (pe_chain ho ho' ha hb hc hm) fun σ H Q h => chain_imp (op := op) (op' := op') hr hr' h
theorem st_chain {op op' : CmpOp} {k k' : T → T → Sto → Res T} (C : CmpOk X op k) (C' : CmpOk X op' k') (ha : SE false X a fa) (hb : SE false X b fb) (hc : SE false X c fc) (hm : lastMarks [op, op'] [b, c] = false := by rfl) : ST X (.Compare a [op, op'] [b, c] pos) (eB (eChain k k' fa fb fc)) := by
  obtain ⟨r, ho, hr⟩ := C
  obtain ⟨r', ho', hr'⟩ := C'
  exact pt_imp (pt_chain ho ho' ha hb hc hm) fun σ H Q h => chain_imp (op := op) (op' := op') hr hr' (tT_of h)

/-! ### arguments, displays -/
def eNil : Ev (List T) := fun _ M => .ok [] M
def eCons (f : Ev T) (g : Ev (List T)) : Ev (List T) := fun τ M => (f τ M).bind fun t M1 => (g τ M1).bind fun ts M2 => .ok (t :: ts) M2
variable {e : Expr} {es : List Expr} {fs : Ev (List T)}
theorem sa_nil : SA X [] eNil := pa_imp pa_nil fun σ H Q ⟨w, τ, e, g, n, q⟩ => by subst e; exact q w [] (.refl w) g rfl .nil
theorem sa_cons (ha : SE false X e fa) (hr : SA X es fs) (hs : starEach (e :: es) X.env = (false, eval e X.env) :: starEach es X.env := by rfl) : SA X (e :: es) (eCons fa fs) := by
  refine pa_imp (pa_cons ha hr hs) fun σ H Q ⟨w, τ, e, g, n, q⟩ => ?_
  subst e
  refine ⟨w, τ, rfl, g, n, Res.all_mono (fun t M1 q w1 v x1 g1 e1 r1 _ => ?_) (Res.all_bind q)⟩
  subst e1
  refine ⟨w1, τ, rfl, g1, n.mono x1, Res.all_mono (fun ts M2 q w2 vs x2 g2 e2 r2 => ?_) (Res.all_bind q)⟩
  subst e2
  exact q w2 (v :: vs) (x1.trans x2) g2 rfl (.cons (r1.mono x2) r2)
def eLst (f : Ev (List T)) : Ev T := fun τ M => (f τ M).bind fun ts M' => if ts.length ≤ 16777216 then .ok (.lst ts) M' else .stuck
def eTup (f : Ev (List T)) : Ev T := fun τ M => (f τ M).bind fun ts M' => if ts.length ≤ 16777216 then .ok (.tup ts) M' else .stuck
theorem se_lst (h : SA X es fs) : SE true X (.List es pos) (eLst fs) := by
  refine pe_imp (pe_lst h) fun σ H Q ⟨w, τ, e, g, n, q⟩ => ?_
  subst e
  refine ⟨w, τ, rfl, g, n, Res.all_mono (fun ts M1 q w1 vs x1 g1 e1 r1 => ?_) (Res.all_bind q)⟩
  subst e1
  split at q
  · rename_i hl
    exact ⟨by rw [line_eq, r1.length]; exact hl, fun p hp => post_lst (post_ext q x1) g1 hp r1⟩
  · exact q.elim
theorem se_tup {k} (h : SA X es fs) : SE false X (.Tuple es k pos) (eTup fs) := by
  refine pe_imp (pe_tup h) fun σ H Q ⟨w, τ, e, g, n, q⟩ => ?_
  subst e
  refine ⟨w, τ, rfl, g, n, Res.all_mono (fun ts M1 q w1 vs x1 g1 e1 r1 => ?_) (Res.all_bind q)⟩
  subst e1
  split at q
  · rename_i hl
    exact ⟨by rw [line_eq, r1.length]; exact hl, fun p hp => post_tup (post_ext q x1) g1 hp r1⟩
  · exact q.elim
end
end TL
end
section
set_option Elab.async false
set_option linter.all false
set_option maxRecDepth 100000
/-! TL4: dicts by trees; ==, in, is; subscripts, slices. -/
namespace TL
open PySem PySem.Spec PyProof.Rows L2

/-! ### dicts -/
def toK : T → Option Key
  | .int i => some (.inl i)
  | .str x => some (.inr x)
  | _ => none
def ofK : Key → T
  | .inl i => .int i
  | .inr x => .str x
def lkT (k : Key) : List Key → List T → Option T
  | j :: ks, t :: ts => if j = k then some t else lkT k ks ts
  | _, _ => none
def hasK (k : Key) : List Key → Bool
  | [] => false
  | j :: ks => if j = k then true else hasK k ks
def putKs (k : Key) (ks : List Key) : List Key := if hasK k ks then ks else ks ++ [k]
def putTs (k : Key) (t : T) : List Key → List T → List T
  | j :: ks, u :: ts => if j = k then t :: ts else u :: putTs k t ks ts
  | _, _ => [t]
theorem hasK_iff {k : Key} : ∀ {ks : List Key}, hasK k ks = true ↔ k ∈ ks
  | [] => by simp [hasK]
  | j :: ks => by
    unfold hasK
    by_cases e : j = k
    · rw [if_pos e]; simp [e]
    · rw [if_neg e, hasK_iff, List.mem_cons]
      exact ⟨.inr, fun z => z.elim (fun y => (e y.symm).elim) id⟩
theorem toK_rep {w : Wd} {v : V} {t : T} {k : Key} (r : Rep w v t) (h : toK t = some k) : v = kV k := by
  cases r <;> simp only [toK, Option.some.injEq] at h <;> first | (subst h; rfl) | cases h
theorem ofK_rep {w : Wd} (k : Key) : Rep w (kV k) (ofK k) := by
  cases k with
  | inl i => exact .int i
  | inr x => exact .str x
theorem lk_val {w : Wd} {k : Key} : ∀ {kvs : List (Key × V)} {ts : List T}, RepL w (kvs.map Prod.snd) ts →
    (∃ v t, valV kvs k = some v ∧ lkT k (kvs.map Prod.fst) ts = some t ∧ Rep w v t) ∨ (valV kvs k = none ∧ lkT k (kvs.map Prod.fst) ts = none)
  | [], _, .nil => .inr ⟨rfl, rfl⟩
  | p :: r, t :: ts, .cons q l => by
    by_cases e : p.1 = k
    · exact .inl ⟨p.2, t, valV_pos e, by show (if p.1 = k then some t else _) = _; rw [if_pos e], q⟩
    · have ih := lk_val (k := k) l
      rw [valV_neg e, show lkT k ((p :: r).map Prod.fst) (t :: ts) = lkT k (r.map Prod.fst) ts from if_neg e]
      exact ih
theorem put_rep {w : Wd} {k : Key} {v : V} {t : T} (q : Rep w v t) {kvs : List (Key × V)} {ks : List Key} {ts : List T} (e : kvs.map Prod.fst = ks) (nd : ks.Nodup) (r : RepL w (kvs.map Prod.snd) ts) :
    (putK kvs k v).map Prod.fst = putKs k ks ∧ (putKs k ks).Nodup ∧ RepL w ((putK kvs k v).map Prod.snd) (putTs k t ks ts) := by
  subst e
  have hany : (kvs.any fun kv => decide (kv.1 = k)) = hasK k (kvs.map Prod.fst) := by
    clear r nd
    induction kvs with
    | nil => rfl
    | cons p l ih =>
      rw [List.any_cons, List.map_cons]
      unfold hasK
      by_cases h : p.1 = k
      · rw [if_pos h, decide_eq_true h, Bool.true_or]
      · rw [if_neg h, decide_eq_false h, Bool.false_or]
        exact ih
  unfold putK putKs
  rw [hany]
  by_cases h : hasK k (kvs.map Prod.fst) = true
  · rw [if_pos h, if_pos h]
    clear hany
    refine ⟨?_, nd, ?_⟩
    · rw [List.map_map]
      apply List.map_congr_left
      intro a _
      show (if a.1 = k then (a.1, v) else a).1 = a.1
      split <;> rfl
    · induction kvs generalizing ts with
      | nil => exact absurd h (by simp [hasK])
      | cons p l ih =>
        cases r with
        | cons r1 rl =>
          by_cases e : p.1 = k
          · have hn : ∀ a ∈ l, ¬ a.1 = k := fun a ha z => (List.nodup_cons.mp nd).1 (by rw [e, ← z]; exact List.mem_map_of_mem ha)
            have e2 : (l.map fun kv => if kv.1 = k then (kv.1, v) else kv) = l := by
              conv => rhs; rw [← List.map_id l]
              apply List.map_congr_left
              intro a ha
              rw [if_neg (hn a ha)]; rfl
            rw [List.map_cons, e2, if_pos e, List.map_cons, List.map_cons]
            show RepL w (v :: _) (if p.1 = k then _ else _)
            rw [if_pos e]
            exact .cons q rl
          · rw [List.map_cons, if_neg e, List.map_cons, List.map_cons]
            show RepL w (p.2 :: _) (if p.1 = k then _ else _)
            rw [if_neg e]
            refine .cons r1 (ih rl (List.nodup_cons.mp nd).2 ?_)
            rw [List.map_cons] at h
            unfold hasK at h
            rwa [if_neg e] at h
  · rw [if_neg h, if_neg h]
    have hn : k ∉ kvs.map Prod.fst := fun z => h (hasK_iff.mpr z)
    refine ⟨by rw [List.map_append]; rfl, ?_, ?_⟩
    · rw [List.nodup_append]
      exact ⟨nd, by simp, fun a ha b hb z => by rw [List.mem_singleton] at hb; rw [z, hb] at ha; exact hn ha⟩
    · rw [List.map_append]
      clear hany h nd
      induction kvs generalizing ts with
      | nil =>
        cases r
        exact .cons q .nil
      | cons p l ih =>
        cases r with
        | cons r1 rl =>
          have e : ¬ p.1 = k := fun z => hn (by rw [List.map_cons, z]; exact List.mem_cons_self)
          show RepL w (p.2 :: _) (if p.1 = k then _ else _)
          rw [if_neg e]
          exact .cons r1 (ih rl fun z => hn (List.mem_cons_of_mem _ z))
theorem len_putT {k : Key} {t : T} {ks : List Key} {ts : List T} : True := trivial

/-! ### == -/
theorem op_in_dict {X : Cx} (hu : X.A.units + 1 < cLine) : OpR X (compareOp .In) (fun y x H Q => ∃ a o, x = .ref a ∧ DGet H a y o ∧ Q (.bl o.isSome) H) := by
  intro pins s σ H y x iv u Q I ry rx h
  obtain ⟨a, ov, ex, g, q2⟩ := h
  subst ex
  obtain rfl : u = Value.ref a := rx
  exact d_in hu I g ry fun s3 I3 => ⟨.bl ov.isSome, H, I3, rfl, q2⟩
theorem op_notin_dict {X : Cx} (hu : X.A.units + 1 < cLine) : OpR X (compareOp .NotIn) (fun y x H Q => ∃ a o, x = .ref a ∧ DGet H a y o ∧ Q (.bl (!o.isSome)) H) := by
  intro pins s σ H y x iv u Q I ry rx h
  obtain ⟨a, ov, ex, g, q2⟩ := h
  subst ex
  obtain rfl : u = Value.ref a := rx
  exact d_notIn hu I g ry fun s3 I3 => ⟨.bl (!ov.isSome), H, I3, rfl, q2⟩
/-- what a comparison of two dicts tells -/
def dicEq : List Key → List PyData → List Key → List PyData → Bool
  | k :: ks, d :: ds, ls, es => (match lkD k ls es with
    | some e => PyData.eqv d e
    | none => false) && dicEq ks ds ls es
  | _, _, _, _ => true
where lkD (k : Key) : List Key → List PyData → Option PyData
  | j :: ks, t :: ts => if j = k then some t else lkD k ks ts
  | _, _ => none
theorem lkD_val {K : PySem.W.Frag} {H : Hp} {k : Key} : ∀ {kvs : List (Key × V)} {ds : List PyData}, DpAll K H (kvs.map Prod.snd) ds →
    (∃ v d, valV kvs k = some v ∧ dicEq.lkD k (kvs.map Prod.fst) ds = some d ∧ Dp K H v d ∧ d ∈ ds) ∨ (valV kvs k = none ∧ dicEq.lkD k (kvs.map Prod.fst) ds = none)
  | [], _, .nil => .inr ⟨rfl, rfl⟩
  | p :: r, t :: ts, .cons q l => by
    by_cases e : p.1 = k
    · exact .inl ⟨p.2, t, valV_pos e, by show (if p.1 = k then some t else _) = _; rw [if_pos e], q, List.mem_cons_self⟩
    · have ih := lkD_val (k := k) l
      rw [valV_neg e, show dicEq.lkD k ((p :: r).map Prod.fst) (t :: ts) = dicEq.lkD k (r.map Prod.fst) ts from if_neg e]
      rcases ih with ⟨v, d, h1, h2, h3, h4⟩ | h
      · exact .inl ⟨v, d, h1, h2, h3, List.mem_cons_of_mem _ h4⟩
      · exact .inr h
def rEqDD (K : PySem.W.Frag) : R2 := fun x y H Q => ∃ (a b : Addr) (kvs lvs : List (Key × V)) (ds es : List PyData), x = .ref a ∧ y = .ref b ∧ Rd H a (.dK kvs) ∧ Rd H b (.dK lvs) ∧
  DpAll K H (kvs.map Prod.snd) ds ∧ DpAll K H (lvs.map Prod.snd) es ∧ ds.all SeqAt.shaped = true ∧ es.all SeqAt.shaped = true ∧
  Q (.bl (kvs.length == lvs.length && dicEq (kvs.map Prod.fst) ds (lvs.map Prod.fst) es)) H
theorem hits_of {X : Cx} {pins : List (Addr × Obj)} {s : Shared} {σ : L2.St} {H : Hp} (I : Inv X pins σ H s) {A : Around} (hu : A.units + 64 < cLine) {lvs : List (Key × V)} {es : List PyData} {vb : List (Key × Value)} (rb : KV lvs vb) (he : DpAll X.K H (lvs.map Prod.snd) es)
    (hse : es.all SeqAt.shaped = true) : ∀ {kvs : List (Key × V)} {ds : List PyData} {va : List (Key × Value)}, KV kvs va → DpAll X.K H (kvs.map Prod.snd) ds → ds.all SeqAt.shaped = true →
    PySem.W.KeqHitsP X.prog X.w A s vb va (dicEq (kvs.map Prod.fst) ds (lvs.map Prod.fst) es)
  | [], _, _, .nil, .nil, _ => .nil
  | p :: r, d :: ds, (k, u) :: va, .cons ⟨e1, rv⟩ ra, .cons dv dl, hs => by
    have e1 : p.1 = k := e1
    rw [List.all_cons, Bool.and_eq_true] at hs
    have ih := hits_of I hu rb he hse ra dl hs.2
    show PySem.W.KeqHitsP X.prog X.w A s vb ((k, u) :: va) ((match dicEq.lkD p.1 (lvs.map Prod.fst) es with | some e => PyData.eqv d e | none => false) && _)
    rw [e1]
    have rel := rb.val k
    rcases lkD_val (K := X.K) (H := H) (k := k) he with ⟨v, e, h1, h2, h3, h4⟩ | ⟨h1, h2⟩
    · rw [h1] at rel
      rw [h2]
      obtain ⟨y, hy, ry⟩ := rel.some_of
      have se : SeqAt.shaped e = true := List.all_eq_true.mp hse e h4
      obtain ⟨as, r1⟩ := Dp.reads I d p.2 u dv rv
      obtain ⟨bs, r2⟩ := Dp.reads I e v y h3 ry
      refine .hit hy (SeqAt.EqAt.eqP (SeqAt.eqAt_reads d e A s u y as bs r1 r2 (SeqAt.canLay_of_shaped hs.1) (SeqAt.canLay_of_shaped se) ?_)) ih
      have z := SeqAt.depth_of_shaped hs.1
      have : min d.depth e.depth ≤ 64 := Nat.le_trans (Nat.min_le_left _ _) z
      omega
    · rw [h1] at rel
      rw [h2, Bool.false_and]
      refine .miss ?_
      cases hv : valueAt vb k with
      | none => rfl
      | some y => rw [hv] at rel; exact rel.elim
theorem op_eqDD {X : Cx} (hu : X.A.units + 70 < cLine) : OpR X (compareOp .Eq) (rEqDD X.K) := by
  intro pins s σ H x y v u Q I rx ry h
  obtain ⟨a, b, kvs, lvs, ds, es, rfl, rfl, ha, hb, hd, he, sd, se, q⟩ := h
  obtain rfl : v = Value.ref a := rx
  obtain rfl : u = Value.ref b := ry
  obtain ⟨_, ya, va, ra, da⟩ := ha.ok I.hok
  obtain ⟨_, yb, vb, rb, db⟩ := hb.ok I.hok
  refine PySem.W.rcP_dicts ya yb da db (by omega) (fun _ => hits_of I (A := X.A.in1) (by show X.A.units + 1 + 64 < _; omega) rb he se ra hd sd) _ _ ?_
  rw [← ra.length, ← rb.length]
  exact ⟨.bl _, H, I, rfl, q⟩
end TL
end
section
set_option Elab.async false
set_option linter.all false
set_option maxRecDepth 100000
/-! TL5: ==, in, is; subscripts, slices; calls of built-ins. -/
namespace TL
open PySem PySem.Spec PyProof.Rows L2

def kEq (a b : T) (M : Sto) : Res T := match toD a, toD b with
  | some d, some e => if SeqAt.shaped d && SeqAt.shaped e then .ok (.bl (PyData.eqv d e)) M else .stuck
  | _, _ => match a, b with
    | .dic ks xs, .dic ls ys => match toDs xs, toDs ys with
      | some ds, some es => if ds.all SeqAt.shaped && es.all SeqAt.shaped then .ok (.bl (ks.length == ls.length && dicEq ks ds ls es)) M else .stuck
      | _, _ => .stuck
    | _, _ => .stuck
def kNe (a b : T) (M : Sto) : Res T := match toD a, toD b with
  | some d, some e => if SeqAt.shaped d && SeqAt.shaped e then .ok (.bl (!PyData.eqv d e)) M else .stuck
  | _, _ => .stuck
def flT : T → Option V
  | .non => some .non
  | .bl b => some (.bl b)
  | .int i => some (.int i)
  | .str x => some (.str x)
  | _ => none
def flTs : List T → Option (List V)
  | [] => some []
  | x :: xs => match flT x, flTs xs with
    | some d, some ds => some (d :: ds)
    | _, _ => none
theorem flT_rep {w : Wd} {v u : V} {t : T} (r : Rep w v t) (h : flT t = some u) : v = u ∧ flatV u = true := by
  cases r <;> simp only [flT, Option.some.injEq] at h <;> first | (subst h; exact ⟨rfl, rfl⟩) | cases h
theorem flTs_rep {w : Wd} : ∀ {vs us : List V} {ts : List T}, RepL w vs ts → flTs ts = some us → vs = us ∧ us.all flatV = true
  | _, _, _, .nil, h => by simp only [flTs, Option.some.injEq] at h; subst h; exact ⟨rfl, rfl⟩
  | _, _, _, .cons r l, h => by
    simp only [flTs] at h
    split at h
    · rename_i d ds h1 h2
      cases h
      obtain ⟨e1, f1⟩ := flT_rep r h1
      obtain ⟨e2, f2⟩ := flTs_rep l h2
      subst e1 e2
      exact ⟨rfl, by rw [List.all_cons, f1, f2]; rfl⟩
    · cases h
def kIn0 (a b : T) : Option Bool := match b with
  | .dic ks _ => match toK a with
    | some k => some (hasK k ks)
    | none => none
  | .tup ys => match flT a, flTs ys with
    | some v, some vs => some (inV v vs)
    | _, _ => none
  | .lst ys => match flT a, flTs ys with
    | some v, some vs => some (inV v vs)
    | _, _ => match toD a, toDs ys with
      | some d, some ds => if SeqAt.shaped d && SeqAt.shaped (.list ds) then some (ds.any fun z => PyData.eqv z d) else none
      | _, _ => none
  | _ => none
def kIn (a b : T) (M : Sto) : Res T := match kIn0 a b with
  | some c => .ok (.bl c) M
  | none => .stuck
def kNin (a b : T) (M : Sto) : Res T := match kIn0 a b with
  | some c => .ok (.bl (!c)) M
  | none => .stuck
section
variable {X : Cx}
theorem c_eq {k : Nat} (hr : Room k X.A) : CmpOk X .Eq kEq := ⟨_, OpR.or (op_eqD hr.units) (op_eqDD (by have := hr.un; omega)), fun w x y a b Q g r1 r2 q => by
  unfold kEq at q
  split at q
  · rename_i d e h1 h2
    split at q
    · rename_i hs
      rw [Bool.and_eq_true] at hs
      exact .inl ⟨d, e, r1.dp h1, r2.dp h2, hs.1, hs.2, post_ok q g (.bl _)⟩
    · exact q.elim
  · split at q
    · rename_i ks xs ls ys _
      split at q
      · rename_i ds es h1 h2
        split at q
        · rename_i hs
          rw [Bool.and_eq_true] at hs
          cases r1 with
          | dic n1 d1 e1 nd1 l1 =>
            cases r2 with
            | dic n2 d2 e2 nd2 l2 =>
              subst e1 e2
              refine .inr ⟨_, _, _, _, ds, es, rfl, rfl, d1, d2, l1.dp h1, l2.dp h2, hs.1, hs.2, ?_⟩
              rw [List.length_map, List.length_map] at q
              exact post_ok q g (.bl _)
        · exact q.elim
      · exact q.elim
    · exact q.elim⟩
theorem c_ne {k : Nat} (hr : Room k X.A) : CmpOk X .NotEq kNe := ⟨_, op_neD hr.units, fun w x y a b Q g r1 r2 q => by
  unfold kNe at q
  split at q
  · rename_i d e h1 h2
    split at q
    · rename_i hs
      rw [Bool.and_eq_true] at hs
      exact ⟨d, e, r1.dp h1, r2.dp h2, hs.1, hs.2, post_ok q g (.bl _)⟩
    · exact q.elim
  · exact q.elim⟩
theorem dget_of {w : Wd} {x : V} {a : T} {k : Key} {ad : Addr} {kvs : List (Key × V)} {ks : List Key} {ts : List T} (r1 : Rep w x a) (h : toK a = some k) (d1 : Rd w.H ad (.dK kvs)) : DGet w.H ad x (valV kvs k) :=
  .inl ⟨kvs, k, d1, toK_rep r1 h, rfl⟩
theorem val_has {w : Wd} {k : Key} {kvs : List (Key × V)} : (valV kvs k).isSome = hasK k (kvs.map Prod.fst) := by
  induction kvs with
  | nil => rfl
  | cons p l ih =>
    by_cases e : p.1 = k
    · rw [valV_pos e]; show true = if p.1 = k then _ else _; rw [if_pos e]
    · rw [valV_neg e, ih]; show _ = if p.1 = k then _ else _; rw [if_neg e]
theorem kIn0_ok {K : PySem.W.Frag} {w : Wd} {x y : V} {a b : T} {c : Bool} (r1 : Rep w x a) (r2 : Rep w y b) (h : kIn0 a b = some c) :
    (∃ ad o, y = .ref ad ∧ DGet w.H ad x o ∧ o.isSome = c) ∨ (∃ p xs, y = .ref p ∧ (SqL K w.H p xs ∨ SqT K w.H p xs) ∧ flatV x = true ∧ xs.all flatV = true ∧ inV x xs = c) ∨
    (∃ d ds, Dp K w.H x d ∧ Dp K w.H y (.list ds) ∧ SeqAt.shaped d = true ∧ SeqAt.shaped (.list ds) = true ∧ (ds.any fun z => PyData.eqv z d) = c) := by
  unfold kIn0 at h
  split at h
  · split at h
    · rename_i k hk
      cases h
      cases r2 with
      | dic n2 d2 e2 nd2 l2 =>
        subst e2
        exact .inl ⟨_, _, rfl, dget_of (ks := []) (ts := []) r1 hk d2, val_has (w := w)⟩
    · cases h
  · split at h
    · rename_i v vs h1 h2
      cases h
      cases r2 with
      | tup n2 d2 l2 =>
        obtain ⟨e1, f1⟩ := flT_rep r1 h1
        obtain ⟨e2, f2⟩ := flTs_rep l2 h2
        subst e1 e2
        exact .inr (.inl ⟨_, _, rfl, .inr (.inl d2), f1, f2, rfl⟩)
    · cases h
  · split at h
    · rename_i v vs h1 h2
      cases h
      cases r2 with
      | lst n2 d2 l2 =>
        obtain ⟨e1, f1⟩ := flT_rep r1 h1
        obtain ⟨e2, f2⟩ := flTs_rep l2 h2
        subst e1 e2
        exact .inr (.inl ⟨_, _, rfl, .inl (.inl d2), f1, f2, rfl⟩)
    · split at h
      · rename_i d ds h1 h2
        split at h
        · rename_i hs
          rw [Bool.and_eq_true] at hs
          cases h
          cases r2 with
          | lst n2 d2 l2 => exact .inr (.inr ⟨d, ds, r1.dp h1, .lst (.inl d2) (l2.dp h2), hs.1, hs.2, rfl⟩)
        · cases h
      · cases h
  · cases h
theorem c_in {k : Nat} (hr : Room k X.A) : CmpOk X .In kIn := ⟨_, OpR.or (op_in_dict (by have := hr.un; omega)) (OpR.or op_in_seq (op_inD (by have := hr.un; omega))), fun w x y a b Q g r1 r2 q => by
  unfold kIn at q
  split at q
  · rename_i c hc
    have q := post_ok q g (.bl _)
    rcases kIn0_ok (K := X.K) r1 r2 hc with ⟨ad, o, h1, h2, h3⟩ | ⟨p, xs, h1, h2, h3, h4, h5⟩ | ⟨d, ds, h1, h2, h3, h4, h5⟩
    · exact .inl ⟨ad, o, h1, h2, by rw [h3]; exact q⟩
    · exact .inr (.inl ⟨p, xs, h1, h2, h3, h4, by show Q (.bl (if false = true then _ else inV x xs)) w.H; rw [if_neg (by decide), h5]; exact q⟩)
    · exact .inr (.inr ⟨d, ds, h1, h2, h3, h4, by rw [h5]; exact q⟩)
  · exact q.elim⟩
theorem c_nin {k : Nat} (hr : Room k X.A) : CmpOk X .NotIn kNin := ⟨_, OpR.or (op_notin_dict (by have := hr.un; omega)) (OpR.or op_notIn_seq (op_notInD (by have := hr.un; omega))), fun w x y a b Q g r1 r2 q => by
  unfold kNin at q
  split at q
  · rename_i c hc
    have q := post_ok q g (.bl _)
    rcases kIn0_ok (K := X.K) r1 r2 hc with ⟨ad, o, h1, h2, h3⟩ | ⟨p, xs, h1, h2, h3, h4, h5⟩ | ⟨d, ds, h1, h2, h3, h4, h5⟩
    · exact .inl ⟨ad, o, h1, h2, by rw [h3]; exact q⟩
    · exact .inr (.inl ⟨p, xs, h1, h2, h3, h4, by show Q (.bl (if true = true then !inV x xs else _)) w.H; rw [if_pos rfl, h5]; exact q⟩)
    · exact .inr (.inr ⟨d, ds, h1, h2, h3, h4, by rw [h5]; exact q⟩)
  · exact q.elim⟩
theorem op_is_bl : OpR X (compareOp .Is) (fun x y H Q => ∃ a b, x = .bl a ∧ y = .bl b ∧ Q (.bl (a == b)) H) := by
  intro pins s σ H x y v u Q I rx ry h
  obtain ⟨a, b, rfl, rfl, q⟩ := h
  cases rx
  cases ry
  exact is_bool ⟨.bl _, H, I, rfl, q⟩
theorem op_not_bl : OpR X (compareOp .IsNot) (fun x y H Q => ∃ a b, x = .bl a ∧ y = .bl b ∧ Q (.bl (a != b)) H) := by
  intro pins s σ H x y v u Q I rx ry h
  obtain ⟨a, b, rfl, rfl, q⟩ := h
  cases rx
  cases ry
  exact isnot_bool ⟨.bl _, H, I, rfl, q⟩
theorem c_is : CmpOk X .Is kIsN := ⟨_, OpR.or op_isN op_is_bl, fun w x y a b Q g r1 r2 q => by
  unfold kIsN at q
  split at q
  · cases r2
    refine .inl ⟨rfl, ?_⟩
    rw [rep_none r1]
    exact post_ok q g (.bl _)
  · cases r1; cases r2
    exact .inr ⟨_, _, rfl, rfl, post_ok q g (.bl _)⟩
  · exact q.elim⟩
theorem c_isnot : CmpOk X .IsNot kNotN := ⟨_, OpR.or op_notN op_not_bl, fun w x y a b Q g r1 r2 q => by
  unfold kNotN at q
  split at q
  · cases r2
    refine .inl ⟨rfl, ?_⟩
    rw [rep_none r1]
    exact post_ok q g (.bl _)
  · cases r1; cases r2
    exact .inr ⟨_, _, rfl, rfl, post_ok q g (.bl _)⟩
  · exact q.elim⟩

/-! ### subscripts -/
theorem ix_dict (hu : X.A.units + 1 < cLine) : IxR X (fun x y H Q => ∃ a v, x = .ref a ∧ DGet H a y (some v) ∧ Q v H) := by
  intro value slice pins s σ H x y v u Q I rx ry h hs
  obtain ⟨a, z, ex, g, q⟩ := h
  subst ex
  obtain rfl : v = Value.ref a := rx
  have hT := dict_typeIs I g
  have h₂ : wpAny (model X.prog X.w) X.A (getItem (.ref a) u) (EP X pins σ Q) X.xe s := d_getItem hu I g ry fun w' s3 I3 rw' => ⟨z, H, I3, rw', q⟩
  unfold subscriptTail
  refine wpAny_bind ?_
  rw [getitemInPython_of_ne hT.not_modules]
  refine wpAny_bind (wpAny_specialOf hT PySem.F.slot_dict_getitem.lookup ?_)
  have fin : wpAny (model X.prog X.w) X.A (subscripted slice false (.ref a) u) (fun r s₃ => wpAny (model X.prog X.w) X.A (letTemporaryGo value (.ref a) r >>= fun _ => pure r) (EP X pins σ Q) X.xe s₃) X.xe s := by
    rw [hs]
    exact wpAny_operating (wpAny_mono h₂ (fun r s₃ h₃ => wpAny_bind (wpAny_letTemporaryGo (wpAny_pure h₃))) fun _ _ x => x)
  first
    | exact wpAny_pure (wpAny_bind fin)
    | exact wpAny_bind (wpAny_pure (wpAny_bind fin))
    | exact wpAny_bind fin
def kIx (a b : T) (M : Sto) : Res T := match a, b with
  | .lst xs, .int i => match atI xs i with
    | some t => .ok t M
    | none => .stuck
  | .tup xs, .int i => match atI xs i with
    | some t => .ok t M
    | none => .stuck
  | .dic ks xs, k => match toK k with
    | some k => match lkT k ks xs with
      | some t => .ok t M
      | none => .stuck
    | none => .stuck
  | .ref n, i => match M.get n, i with
    | some (.lst xs), .int i => match atI xs i with
      | some t => .ok t M
      | none => .stuck
    | some (.dic ks xs), k => match toK k with
      | some k => match lkT k ks xs with
        | some t => .ok t M
        | none => .stuck
      | none => .stuck
    | _, _ => .stuck
  | _, _ => .stuck
theorem atI_rep {w : Wd} {vs : List V} {ts : List T} {i : Int} {t : T} (r : RepL w vs ts) (h : atI ts i = some t) : ∃ v, atI vs i = some v ∧ Rep w v t := by
  unfold atI at h ⊢
  rw [r.length]
  cases hj : ixN ts.length i with
  | none => rw [hj] at h; cases h
  | some j =>
    rw [hj] at h
    exact r.get h
theorem lk_dget {w : Wd} {k : Key} {x : V} {b : T} {ad : Addr} {kvs : List (Key × V)} {ts : List T} {t : T} (r1 : Rep w x b) (h : toK b = some k) (d : Rd w.H ad (.dK kvs)) (l : RepL w (kvs.map Prod.snd) ts) (hl : lkT k (kvs.map Prod.fst) ts = some t) :
    ∃ v, DGet w.H ad x (some v) ∧ Rep w v t := by
  rcases lk_val (k := k) l with ⟨v, t', h1, h2, h3⟩ | ⟨h1, h2⟩
  · rw [hl] at h2
    cases h2
    exact ⟨v, .inl ⟨kvs, k, d, toK_rep r1 h, h1.symm⟩, h3⟩
  · rw [hl] at h2; cases h2
variable {pos : Pos} {a b : Expr} {fa fb : Ev T} {F : Bool}
theorem se_ix {k : Nat} (hr : Room k X.A) (ha : SE false X a fa) (hb : SE false X b fb) (hs : PlainIx b := by exact fun _ _ => rfl) : SE false X (.Subscript a b pos) (e2 kIx fa fb) := by
  have hix : IxR X (fun x y H Q => rIx X.K x y H Q ∨ ∃ a v, x = .ref a ∧ DGet H a y (some v) ∧ Q v H) := ix_seq.or (ix_dict (by have := hr.un; omega))
  refine pe_imp (pe_ix hix ha hb hs) fun σ H Q h => two_imp (fun w x y s t Q g r1 r2 q => ?_) h
  unfold kIx at q
  split at q
  · split at q
    · rename_i h
      cases r2
      cases r1 with
      | lst n d l =>
        obtain ⟨v, h1, h2⟩ := atI_rep l h
        exact .inl (.inl ⟨_, _, _, v, rfl, rfl, .inl d, h1, post_ok q g h2⟩)
    · exact q.elim
  · split at q
    · rename_i h
      cases r2
      cases r1 with
      | tup n d l =>
        obtain ⟨v, h1, h2⟩ := atI_rep l h
        exact .inl (.inr (.inl ⟨_, _, _, v, rfl, rfl, .inl d, h1, post_ok q g h2⟩))
    · exact q.elim
  · split at q
    · split at q
      · rename_i hk _ _ h
        cases r1 with
        | dic n d e nd l =>
          subst e
          obtain ⟨v, h1, h2⟩ := lk_dget r2 hk d l h
          exact .inr ⟨_, v, rfl, h1, post_ok q g h2⟩
      · exact q.elim
    · exact q.elim
  · split at q
    · split at q
      · rename_i hm _ _ h
        cases r2
        cases r1 with
        | ref n hn =>
          obtain ⟨_, _, vs, e, l⟩ := g.own _ _ hm
          obtain ⟨v, h1, h2⟩ := atI_rep l h
          exact .inl (.inl ⟨_, _, _, v, rfl, rfl, .of e, h1, post_ok q g h2⟩)
      · exact q.elim
    · split at q
      · split at q
        · rename_i hm _ _ hk _ _ h
          cases r1 with
          | ref n hn =>
            obtain ⟨_, _, kvs, e, e2, nd, l⟩ := g.own _ _ hm
            subst e2
            obtain ⟨v, h1, h2⟩ := lk_dget r2 hk (.inl e) l h
            exact .inr ⟨_, v, rfl, h1, post_ok q g h2⟩
        · exact q.elim
      · exact q.elim
    · exact q.elim
  · exact q.elim

/-! ### slices -/
def cutT (xs : List T) (lo hi : Option Int) : List T := (xs.drop (HT.sIx xs.length 0 lo)).take (HT.sIx xs.length xs.length hi - HT.sIx xs.length 0 lo)
def ePart (f : Ev T) : Ev (Option Int) := fun τ M => (f τ M).bind fun t M' => match t with
  | .int i => .ok (some i) M'
  | _ => .stuck
def eNone : Ev (Option Int) := fun _ M => .ok none M
def tO (mg : Str → Option Value) (f : Ev (Option Int)) : TO := fun σ H Q => ∃ w τ, w.H = H ∧ Good mg w ∧ Nm w σ τ ∧ (f τ w.M).all fun o M' => ∀ w1, Ext w w1 → Good mg w1 → w1.M = M' → Q o w1.H
def SO (X : Cx) (e : Option Expr) (f : Ev (Option Int)) : Prop := ∃ t, PO X e t ∧ ∀ σ H Q, tO X.mg f σ H Q → t σ H Q
theorem so_none : SO X none eNone := ⟨_, po_none, fun σ H Q ⟨w, τ, e, g, n, q⟩ => by subst e; exact q w (.refl w) g rfl⟩
theorem so_some (h : SE false X a fa) : SO X (some a) (ePart fa) := ⟨_, po_some h, fun σ H Q ⟨w, τ, e, g, n, q⟩ => by
  subst e
  refine ⟨w, τ, rfl, g, n, Res.all_mono (fun t M' q w1 v x1 g1 e1 r1 _ => ?_) (Res.all_bind q)⟩
  subst e1
  split at q
  · cases r1
    exact ⟨_, rfl, q w1 x1 g1 rfl⟩
  · exact q.elim⟩
def eSl (f : Ev T) (lo hi : Ev (Option Int)) : Ev T := fun τ M => (f τ M).bind fun t M1 => (lo τ M1).bind fun l M2 => (hi τ M2).bind fun u M3 => match t with
  | .lst xs => .ok (.lst (cutT xs l u)) M3
  | .ref n => match M3.get n with
    | some (.lst xs) => .ok (.lst (cutT xs l u)) M3
    | _ => .stuck
  | _ => .stuck
theorem RepL.cut {w : Wd} {vs : List V} {ts : List T} (r : RepL w vs ts) (lo hi : Option Int) : RepL w (cutV vs lo hi) (cutT ts lo hi) := by
  unfold cutV cutT
  rw [r.length]
  exact (r.drop _).take _
theorem se_sl {lo hi : Option Expr} {fl fh : Ev (Option Int)} {p2 : Pos} (ha : SE false X a fa) (hl : SO X lo fl) (hh : SO X hi fh) : SE true X (.Subscript a (.Slice lo hi none p2) pos) (eSl fa fl fh) := by
  obtain ⟨tl, pl, il⟩ := hl
  obtain ⟨th, ph, ih⟩ := hh
  refine pe_imp (pe_slice sl_list ha pl ph) fun σ H Q ⟨w, τ, e, g, n, q⟩ => ?_
  subst e
  refine ⟨w, τ, rfl, g, n, Res.all_mono (fun t M1 q w1 v x1 g1 e1 r1 _ => ?_) (Res.all_bind q)⟩
  subst e1
  refine il _ _ _ ⟨w1, τ, rfl, g1, n.mono x1, Res.all_mono (fun l M2 q w2 x2 g2 e2 => ?_) (Res.all_bind q)⟩
  subst e2
  refine ih _ _ _ ⟨w2, τ, rfl, g2, (n.mono x1).mono x2, Res.all_mono (fun u M3 q w3 x3 g3 e3 => ?_) (Res.all_bind q)⟩
  subst e3
  have xx := (x1.trans x2).trans x3
  split at q
  · cases (r1.mono x2).mono x3 with
    | lst n d l => exact ⟨_, _, rfl, .inl d, fun p hp => post_lst (post_ext q xx) g3 hp (l.cut _ _)⟩
  · split at q
    · rename_i hm
      cases (r1.mono x2).mono x3 with
      | ref n hn =>
        obtain ⟨_, _, vs, e, l⟩ := g3.own _ _ hm
        exact ⟨_, _, rfl, .of e, fun p hp => post_lst (post_ext q xx) g3 hp (l.cut _ _)⟩
    · exact q.elim
  · exact q.elim
def kRev : T → Sto → Res T
  | .lst xs, M => .ok (.lst xs.reverse) M
  | _, _ => .stuck
theorem se_rev {k : Nat} {p1 p2 p3 : Pos} (ha : SE false X a fa) : SE true X (.Subscript a (.Slice none none (some (.UnaryOp .USub (.Constant (.int 1) k p1) p2)) p3) pos) (e1 kRev fa) := by
  refine pe_imp (pe_revL ha) fun σ H Q ⟨w, τ, e, g, n, q⟩ => ?_
  subst e
  refine ⟨w, τ, rfl, g, n, Res.all_mono (fun t M1 q w1 v x1 g1 e1 r1 _ => ?_) (Res.all_bind q)⟩
  subst e1
  unfold kRev at q
  split at q
  · cases r1 with
    | lst n d l => exact ⟨_, _, rfl, .inl d, fun p hp => post_lst (post_ext q x1) g1 hp l.reverse⟩
  · exact q.elim
end
end TL
end
section
set_option Elab.async false
set_option linter.all false
set_option maxRecDepth 100000
/-! TL6: calls of built-ins. -/
namespace TL
open PySem PySem.Spec PyProof.Rows L2

/-- the built-ins' names are not hidden -/
structure Blt (mg : Str → Option Value) : Prop where
  len : mg "len" = none
  isinstance : mg "isinstance" = none
  all : mg "all" = none
  any : mg "any" = none
  sorted : mg "sorted" = none
  list : mg "list" = none
  tuple : mg "tuple" = none
  dict : mg "dict" = none
  set : mg "set" = none
  range : mg "range" = none
  zip : mg "zip" = none
  enumerate : mg "enumerate" = none
  max : mg "max" = none
  min : mg "min" = none
  sum : mg "sum" = none
  abs : mg "abs" = none
  int : mg "int" = none
  str : mg "str" = none
  bool : mg "bool" = none

def eA (k : List T → Sto → Res T) (f : Ev (List T)) : Ev T := fun τ M => (f τ M).bind k
section
variable {X : Cx} {F : Bool} {fs : Ev (List T)} {e : Expr} {es : List Expr} {p pos : Pos} {x : Str}
theorem args_imp {mg : Str → Option Value} {k : List T → Sto → Res T} {r : List V → Hp → VK → Prop} (hr : ∀ w vs ts Q, Good mg w → RepL w vs ts → post mg F Q w (k ts w.M) → r vs w.H Q) {σ : L2.St} {H : Hp} {Q : VK}
    (h : tE mg F (eA k fs) σ H Q) : tCB r (tA mg fs) σ H Q := by
  obtain ⟨w, τ, rfl, g, n, q⟩ := h
  refine ⟨w, τ, rfl, g, n, Res.all_mono (fun ts M1 q w1 vs x1 g1 e1 r1 => ?_) (Res.all_bind q)⟩
  subst e1
  exact hr w1 vs ts Q g1 r1 (post_ext q x1)
theorem se_callB {id : String} {k : List T → Sto → Res T} {r : List V → Hp → VK → Prop} (hc : CallR X (.builtin id) r) (hr : ∀ w vs ts Q, Good X.mg w → RepL w vs ts → post X.mg F Q w (k ts w.M) → r vs w.H Q)
    (hg : Gl X x) (hm : X.mg x = none) (hv : bootBuiltins x = some (.builtin id)) (hn : x ≠ "__name__") (hdb : (x == ("__debug__" : Str)) = false) (ha : SA X (e :: es) fs)
    (he : starEach (e :: es) X.env = (false, eval e X.env) :: starEach es X.env) (hpl : (backTo pos (starEach es X.env)).any (·.1) = false) : SE F X (.Call (.Name x p) (e :: es) [] pos) (eA k fs) :=
  pe_imp (pe_callB hc hg hm hv ha hn hdb he hpl) fun σ H Q h => args_imp hr h
theorem se_callTy {T' : String} {k : List T → Sto → Res T} {r : List V → Hp → VK → Prop} (hc : CallR X (.type T') r) (hr : ∀ w vs ts Q, Good X.mg w → RepL w vs ts → post X.mg F Q w (k ts w.M) → r vs w.H Q)
    (hg : Gl X x) (hm : X.mg x = none) (hv : bootBuiltins x = some (.type T')) (hn : x ≠ "__name__") (hdb : (x == ("__debug__" : Str)) = false) (ha : SA X (e :: es) fs)
    (he : starEach (e :: es) X.env = (false, eval e X.env) :: starEach es X.env) (hpl : (backTo pos (starEach es X.env)).any (·.1) = false) : SE F X (.Call (.Name x p) (e :: es) [] pos) (eA k fs) :=
  pe_imp (pe_callTy hc hg hm hv ha hn hdb he hpl) fun σ H Q h => args_imp hr h

/-! ### len -/
theorem call_lenDR : CallR X (.builtin "len") (fun xs H Q => ∃ a kvs, xs = [V.ref a] ∧ Rd H a (.dK kvs) ∧ Q (.int kvs.length) H) := by
  intro pins s σ H xs us Q I r h
  obtain ⟨a, kvs, rfl, ha, q⟩ := h
  obtain ⟨u, rfl, ru⟩ := vals1 r
  cases ru
  exact d_len I ha fun t s' I' => ⟨.int kvs.length, H, I', ⟨t, rfl⟩, q⟩
def kLen : List T → Sto → Res T
  | [.lst xs], M => .ok (.int xs.length) M
  | [.tup xs], M => .ok (.int xs.length) M
  | [.dic ks _], M => .ok (.int ks.length) M
  | [.str x], M => if x.length ≤ 16777216 then .ok (.int x.length) M else .stuck
  | [.ref n], M => match M.get n with
    | some (.lst xs) => .ok (.int xs.length) M
    | some (.dic ks _) => .ok (.int ks.length) M
    | _ => .stuck
  | _, _ => .stuck
theorem CallR.or {f : Value} {r r' : List V → Hp → VK → Prop} (h : CallR X f r) (h' : CallR X f r') : CallR X f (fun xs H Q => r xs H Q ∨ r' xs H Q) := by
  intro pins s σ H xs us Q I rr q
  rcases q with q | q
  · exact h pins s σ H xs us Q I rr q
  · exact h' pins s σ H xs us Q I rr q
theorem repL1 {w : Wd} {vs : List V} {t : T} (r : RepL w vs [t]) : ∃ v, vs = [v] ∧ Rep w v t := by
  cases r with
  | cons a b => cases b; exact ⟨_, rfl, a⟩
theorem repL2 {w : Wd} {vs : List V} {t u : T} (r : RepL w vs [t, u]) : ∃ v z, vs = [v, z] ∧ Rep w v t ∧ Rep w z u := by
  cases r with
  | cons a b =>
    obtain ⟨z, rfl, c⟩ := repL1 b
    exact ⟨_, z, rfl, a, c⟩
theorem se_len (B : Blt X.mg) (ha : SA X (e :: es) fs) (hg : Gl X "len" := by rfl)
    (he : starEach (e :: es) X.env = (false, eval e X.env) :: starEach es X.env := by rfl) (hpl : (backTo pos (starEach es X.env)).any (·.1) = false := by rfl) : SE false X (.Call (.Name "len" p) (e :: es) [] pos) (eA kLen fs) := by
  refine se_callB (CallR.or call_len call_lenDR) (fun w vs ts Q g r q => ?_) hg B.len PySem.boot_len (by decide) (by decide) ha he hpl
  unfold kLen at q
  split at q
  · obtain ⟨v, rfl, r1⟩ := repL1 r
    cases r1 with
    | lst n d l => exact .inl ⟨_, _, rfl, .inl ⟨_, .inl d, rfl⟩, by rw [l.length]; exact post_ok q g (.int _)⟩
  · obtain ⟨v, rfl, r1⟩ := repL1 r
    cases r1 with
    | tup n d l => exact .inl ⟨_, _, rfl, .inr ⟨_, .inl d, rfl⟩, by rw [l.length]; exact post_ok q g (.int _)⟩
  · obtain ⟨v, rfl, r1⟩ := repL1 r
    cases r1 with
    | dic n d e nd l =>
      subst e
      rw [List.length_map] at q
      exact .inr ⟨_, _, rfl, d, post_ok q g (.int _)⟩
  · obtain ⟨v, rfl, r1⟩ := repL1 r
    split at q
    · cases r1
      exact .inl ⟨_, _, rfl, ⟨by rw [line_eq]; assumption, rfl⟩, post_ok q g (.int _)⟩
    · exact q.elim
  · obtain ⟨v, rfl, r1⟩ := repL1 r
    split at q
    · rename_i hm
      cases r1 with
      | ref n hn =>
        obtain ⟨_, _, vs, e, l⟩ := g.own _ _ hm
        exact .inl ⟨_, _, rfl, .inl ⟨_, .of e, rfl⟩, by rw [l.length]; exact post_ok q g (.int _)⟩
    · rename_i hm
      cases r1 with
      | ref n hn =>
        obtain ⟨_, _, kvs, e, e2, nd, l⟩ := g.own _ _ hm
        subst e2
        rw [List.length_map] at q
        exact .inr ⟨_, _, rfl, .inl e, post_ok q g (.int _)⟩
    · exact q.elim
  · exact q.elim

/-! ### all, any, sum -/
def blT : T → Option Bool
  | .bl b => some b
  | _ => none
def blTs : List T → Option (List Bool)
  | [] => some []
  | x :: xs => match x, blTs xs with
    | .bl b, some bs => some (b :: bs)
    | _, _ => none
def inTs : List T → Option (List Int)
  | [] => some []
  | x :: xs => match x, inTs xs with
    | .int b, some bs => some (b :: bs)
    | _, _ => none
theorem blTs_rep {w : Wd} : ∀ {vs : List V} {ts : List T} {bs : List Bool}, RepL w vs ts → blTs ts = some bs → vs = bs.map V.bl
  | _, _, _, .nil, h => by simp only [blTs, Option.some.injEq] at h; subst h; rfl
  | _, _, _, .cons r l, h => by
    simp only [blTs] at h
    split at h
    · rename_i b bs h2
      cases h
      cases r
      rw [List.map_cons, blTs_rep l h2]
    · cases h
theorem inTs_rep {w : Wd} : ∀ {vs : List V} {ts : List T} {bs : List Int}, RepL w vs ts → inTs ts = some bs → vs = bs.map V.int
  | _, _, _, .nil, h => by simp only [inTs, Option.some.injEq] at h; subst h; rfl
  | _, _, _, .cons r l, h => by
    simp only [inTs] at h
    split at h
    · rename_i b bs h2
      cases h
      cases r
      rw [List.map_cons, inTs_rep l h2]
    · cases h
theorem inTs_map : ∀ ns : List Int, inTs (ns.map T.int) = some ns
  | [] => rfl
  | n :: r => by rw [List.map_cons]; simp only [inTs]; rw [inTs_map r]
theorem blTs_map : ∀ ns : List Bool, blTs (ns.map T.bl) = some ns
  | [] => rfl
  | n :: r => by rw [List.map_cons]; simp only [blTs]; rw [blTs_map r]
def kAll : List T → Sto → Res T
  | [.lst xs], M => match blTs xs with
    | some bs => .ok (.bl (bs.all id)) M
    | none => .stuck
  | _, _ => .stuck
def kAny : List T → Sto → Res T
  | [.lst xs], M => match blTs xs with
    | some bs => .ok (.bl (bs.any id)) M
    | none => .stuck
  | _, _ => .stuck
def kSum : List T → Sto → Res T
  | [.lst xs], M => match inTs xs with
    | some bs => .ok (.int bs.sum) M
    | none => .stuck
  | _, _ => .stuck
theorem se_all (B : Blt X.mg) (ha : SA X (e :: es) fs) (hc : X.calm = true := by rfl) (hg : Gl X "all" := by rfl)
    (he : starEach (e :: es) X.env = (false, eval e X.env) :: starEach es X.env := by rfl) (hpl : (backTo pos (starEach es X.env)).any (·.1) = false := by rfl) : SE false X (.Call (.Name "all" p) (e :: es) [] pos) (eA kAll fs) := by
  refine se_callB (cr_all hc) (fun w vs ts Q g r q => ?_) hg B.all PyProof.Rows.boot_all (by decide) (by decide) ha he hpl
  unfold kAll at q
  split at q
  · obtain ⟨v, rfl, r1⟩ := repL1 r
    split at q
    · rename_i bs hb
      cases r1 with
      | lst n d l => rw [blTs_rep l hb] at d; exact ⟨_, bs, rfl, .inl d, post_ok q g (.bl _)⟩
    · exact q.elim
  · exact q.elim
theorem se_any (B : Blt X.mg) (ha : SA X (e :: es) fs) (hc : X.calm = true := by rfl) (hg : Gl X "any" := by rfl)
    (he : starEach (e :: es) X.env = (false, eval e X.env) :: starEach es X.env := by rfl) (hpl : (backTo pos (starEach es X.env)).any (·.1) = false := by rfl) : SE false X (.Call (.Name "any" p) (e :: es) [] pos) (eA kAny fs) := by
  refine se_callB (cr_any hc) (fun w vs ts Q g r q => ?_) hg B.any PyProof.Rows.boot_any (by decide) (by decide) ha he hpl
  unfold kAny at q
  split at q
  · obtain ⟨v, rfl, r1⟩ := repL1 r
    split at q
    · rename_i bs hb
      cases r1 with
      | lst n d l => rw [blTs_rep l hb] at d; exact ⟨_, bs, rfl, .inl d, post_ok q g (.bl _)⟩
    · exact q.elim
  · exact q.elim
theorem se_sum (B : Blt X.mg) (ha : SA X (e :: es) fs) (hc : X.calm = true := by rfl) (hg : Gl X "sum" := by rfl)
    (he : starEach (e :: es) X.env = (false, eval e X.env) :: starEach es X.env := by rfl) (hpl : (backTo pos (starEach es X.env)).any (·.1) = false := by rfl) : SE false X (.Call (.Name "sum" p) (e :: es) [] pos) (eA kSum fs) := by
  refine se_callB (cr_sum hc) (fun w vs ts Q g r q => ?_) hg B.sum PyProof.Rows.boot_sum (by decide) (by decide) ha he hpl
  unfold kSum at q
  split at q
  · obtain ⟨v, rfl, r1⟩ := repL1 r
    split at q
    · rename_i bs hb
      cases r1 with
      | lst n d l => rw [inTs_rep l hb] at d; exact ⟨_, bs, rfl, .inl d, post_ok q g (.int _)⟩
    · exact q.elim
  · exact q.elim

/-! ### max, min, abs, int -/
def kMax : List T → Sto → Res T
  | [.int i, .int j], M => .ok (.int (if j > i then j else i)) M
  | _, _ => .stuck
def kMin : List T → Sto → Res T
  | [.int i, .int j], M => .ok (.int (if j < i then j else i)) M
  | _, _ => .stuck
def kAbs : List T → Sto → Res T
  | [.int i], M => .ok (.int (if i < 0 then -i else i)) M
  | _, _ => .stuck
def kInt : List T → Sto → Res T
  | [.int i], M => .ok (.int i) M
  | _, _ => .stuck
theorem se_max (B : Blt X.mg) (ha : SA X (e :: es) fs) (hc : X.calm = true := by rfl) (hg : Gl X "max" := by rfl)
    (he : starEach (e :: es) X.env = (false, eval e X.env) :: starEach es X.env := by rfl) (hpl : (backTo pos (starEach es X.env)).any (·.1) = false := by rfl) : SE false X (.Call (.Name "max" p) (e :: es) [] pos) (eA kMax fs) := by
  refine se_callB (call_max2 hc) (fun w vs ts Q g r q => ?_) hg B.max PyProof.Rows.boot_max (by decide) (by decide) ha he hpl
  unfold kMax at q
  split at q
  · obtain ⟨v, z, rfl, r1, r2⟩ := repL2 r
    cases r1; cases r2
    exact ⟨_, _, rfl, post_ok q g (.int _)⟩
  · exact q.elim
theorem se_min (B : Blt X.mg) (ha : SA X (e :: es) fs) (hc : X.calm = true := by rfl) (hg : Gl X "min" := by rfl)
    (he : starEach (e :: es) X.env = (false, eval e X.env) :: starEach es X.env := by rfl) (hpl : (backTo pos (starEach es X.env)).any (·.1) = false := by rfl) : SE false X (.Call (.Name "min" p) (e :: es) [] pos) (eA kMin fs) := by
  refine se_callB (call_min2 hc) (fun w vs ts Q g r q => ?_) hg B.min PyProof.Rows.boot_min (by decide) (by decide) ha he hpl
  unfold kMin at q
  split at q
  · obtain ⟨v, z, rfl, r1, r2⟩ := repL2 r
    cases r1; cases r2
    exact ⟨_, _, rfl, post_ok q g (.int _)⟩
  · exact q.elim
theorem se_abs (B : Blt X.mg) (ha : SA X (e :: es) fs) (hg : Gl X "abs" := by rfl)
    (he : starEach (e :: es) X.env = (false, eval e X.env) :: starEach es X.env := by rfl) (hpl : (backTo pos (starEach es X.env)).any (·.1) = false := by rfl) : SE false X (.Call (.Name "abs" p) (e :: es) [] pos) (eA kAbs fs) := by
  refine se_callB call_abs (fun w vs ts Q g r q => ?_) hg B.abs PyProof.Rows.boot_abs (by decide) (by decide) ha he hpl
  unfold kAbs at q
  split at q
  · obtain ⟨v, rfl, r1⟩ := repL1 r
    cases r1
    exact ⟨_, rfl, post_ok q g (.int _)⟩
  · exact q.elim
theorem se_intC (B : Blt X.mg) (ha : SA X (e :: es) fs) (hg : Gl X "int" := by rfl)
    (he : starEach (e :: es) X.env = (false, eval e X.env) :: starEach es X.env := by rfl) (hpl : (backTo pos (starEach es X.env)).any (·.1) = false := by rfl) : SE false X (.Call (.Name "int" p) (e :: es) [] pos) (eA kInt fs) := by
  refine se_callTy call_int1 (fun w vs ts Q g r q => ?_) hg B.int PyProof.Rows.boot_int (by decide) (by decide) ha he hpl
  unfold kInt at q
  split at q
  · obtain ⟨v, rfl, r1⟩ := repL1 r
    cases r1
    exact .inl ⟨_, rfl, post_ok q g (.int _)⟩
  · exact q.elim

/-! ### list, tuple -/
def kList : List T → Sto → Res T
  | [.lst xs], M => .ok (.lst xs) M
  | [.tup xs], M => .ok (.lst xs) M
  | [.dic ks _], M => .ok (.lst (ks.map ofK)) M
  | [.ref n], M => match M.get n with
    | some (.lst xs) => .ok (.lst xs) M
    | _ => .stuck
  | _, _ => .stuck
theorem RepL.keys {w : Wd} : ∀ kvs : List (Key × V), RepL w (kvs.map fun kv => kV kv.1) ((kvs.map Prod.fst).map ofK)
  | [] => .nil
  | p :: r => .cons (ofK_rep p.1) (RepL.keys r)
theorem se_listC (B : Blt X.mg) (ha : SA X (e :: es) fs) (hc : X.calm = true := by rfl) (hg : Gl X "list" := by rfl)
    (he : starEach (e :: es) X.env = (false, eval e X.env) :: starEach es X.env := by rfl) (hpl : (backTo pos (starEach es X.env)).any (·.1) = false := by rfl) : SE true X (.Call (.Name "list" p) (e :: es) [] pos) (eA kList fs) := by
  refine se_callTy (CallR.or call_list_of (call_listD hc)) (fun w vs ts Q g r q => ?_) hg B.list PyProof.Rows.boot_list (by decide) (by decide) ha he hpl
  unfold kList at q
  split at q
  · obtain ⟨v, rfl, r1⟩ := repL1 r
    cases r1 with
    | lst n d l => exact .inl ⟨_, _, rfl, .inl (.inl d), fun p hp => post_lst q g hp l⟩
  · obtain ⟨v, rfl, r1⟩ := repL1 r
    cases r1 with
    | tup n d l => exact .inl ⟨_, _, rfl, .inr (.inl d), fun p hp => post_lst q g hp l⟩
  · obtain ⟨v, rfl, r1⟩ := repL1 r
    cases r1 with
    | dic n d e nd l =>
      subst e
      exact .inr ⟨_, _, rfl, d, fun p hp => post_lst q g hp (RepL.keys _)⟩
  · obtain ⟨v, rfl, r1⟩ := repL1 r
    split at q
    · rename_i hm
      cases r1 with
      | ref n hn =>
        obtain ⟨_, _, vs, e, l⟩ := g.own _ _ hm
        exact .inl ⟨_, _, rfl, .inl (.of e), fun p hp => post_lst q g hp l⟩
    · exact q.elim
  · exact q.elim
def kTupC : List T → Sto → Res T
  | [.lst xs], M => .ok (.tup xs) M
  | _, _ => .stuck
theorem se_tupC (B : Blt X.mg) (ha : SA X (e :: es) fs) (hg : Gl X "tuple" := by rfl)
    (he : starEach (e :: es) X.env = (false, eval e X.env) :: starEach es X.env := by rfl) (hpl : (backTo pos (starEach es X.env)).any (·.1) = false := by rfl) : SE false X (.Call (.Name "tuple" p) (e :: es) [] pos) (eA kTupC fs) := by
  refine se_callTy call_tuple_of (fun w vs ts Q g r q => ?_) hg B.tuple PyProof.Rows.boot_tuple (by decide) (by decide) ha he hpl
  unfold kTupC at q
  split at q
  · obtain ⟨v, rfl, r1⟩ := repL1 r
    cases r1 with
    | lst n d l => exact ⟨_, _, rfl, .inl ⟨.inl d, fun p hp => post_tup q g hp l⟩⟩
  · exact q.elim

/-! ### sorted, of ints -/
def insI (n : Int) : List Int → List Int
  | [] => [n]
  | m :: r => if n ≤ m then n :: m :: r else m :: insI n r
def srtI : List Int → List Int
  | [] => []
  | n :: r => insI n (srtI r)
theorem insI_perm (n : Int) : ∀ l : List Int, (insI n l).Perm (n :: l)
  | [] => .refl _
  | m :: r => by
    unfold insI
    split
    · exact .refl _
    · exact ((insI_perm n r).cons m).trans (.swap n m r)
theorem srtI_perm : ∀ l : List Int, (srtI l).Perm l
  | [] => .refl _
  | n :: r => (insI_perm n _).trans ((srtI_perm r).cons n)
theorem insI_sorted (n : Int) : ∀ l : List Int, l.Pairwise (· ≤ ·) → (insI n l).Pairwise (· ≤ ·)
  | [], _ => by simp [insI]
  | m :: r, h => by
    unfold insI
    rw [List.pairwise_cons] at h
    split
    · rename_i hn
      rw [List.pairwise_cons]
      refine ⟨fun a ha => ?_, List.pairwise_cons.mpr h⟩
      rcases List.mem_cons.mp ha with rfl | ha
      · exact hn
      · exact Int.le_trans hn (h.1 a ha)
    · rename_i hn
      rw [List.pairwise_cons]
      refine ⟨fun a ha => ?_, insI_sorted n r h.2⟩
      rcases List.mem_cons.mp ((insI_perm n r).mem_iff.mp ha) with rfl | ha
      · omega
      · exact h.1 a ha
theorem srtI_sorted : ∀ l : List Int, (srtI l).Pairwise (· ≤ ·)
  | [] => .nil
  | n :: r => insI_sorted n _ (srtI_sorted r)
theorem srtI_eq {a b : List Int} (p : a.Perm b) (h : a.Pairwise (· ≤ ·)) : a = srtI b := PySem.W.ksm_same (p.trans (srtI_perm b).symm) h (srtI_sorted b)
def intKs : List Key → Option (List Int)
  | [] => some []
  | .inl i :: r => match intKs r with
    | some l => some (i :: l)
    | none => none
  | .inr _ :: _ => none
theorem intKs_eq : ∀ {ks : List Key} {l : List Int}, intKs ks = some l → ks = l.map Sum.inl
  | [], _, h => by cases h; rfl
  | .inl i :: r, l, h => by
    simp only [intKs] at h
    split at h
    · rename_i l' h'
      cases h
      rw [List.map_cons, intKs_eq h']
    · cases h
  | .inr _ :: _, _, h => by cases h
def kSorted : List T → Sto → Res T
  | [.lst xs], M => match inTs xs with
    | some ns => .ok (.lst ((srtI ns).map T.int)) M
    | none => .stuck
  | [.dic ks _], M => match intKs ks with
    | some ns => if ns.length < 64 then .ok (.lst ((srtI ns).map T.int)) M else .stuck
    | none => .stuck
  | [.ref n], M => match M.get n with
    | some (.lst xs) => match inTs xs with
      | some ns => .ok (.lst ((srtI ns).map T.int)) M
      | none => .stuck
    | some (.dic ks _) => match intKs ks with
      | some ns => if ns.length < 64 then .ok (.lst ((srtI ns).map T.int)) M else .stuck
      | none => .stuck
    | _ => .stuck
  | _, _ => .stuck
theorem se_sorted (B : Blt X.mg) (ha : SA X (e :: es) fs) (hc : X.calm = true := by rfl) (hg : Gl X "sorted" := by rfl)
    (he : starEach (e :: es) X.env = (false, eval e X.env) :: starEach es X.env := by rfl) (hpl : (backTo pos (starEach es X.env)).any (·.1) = false := by rfl) : SE true X (.Call (.Name "sorted" p) (e :: es) [] pos) (eA kSorted fs) := by
  refine se_callB (CallR.or cr_sortedI (call_sortedDI hc)) (fun w vs ts Q g r q => ?_) hg B.sorted PyProof.Rows.boot_sorted (by decide) (by decide) ha he hpl
  unfold kSorted at q
  split at q
  · obtain ⟨v, rfl, r1⟩ := repL1 r
    split at q
    · rename_i ns hb
      cases r1 with
      | lst n d l =>
        rw [inTs_rep l hb] at d
        exact .inl ⟨_, ns, rfl, .inl d, fun ns' p h1 h2 hp => by rw [srtI_eq h1 h2]; exact post_lst q g hp (RepL.ints _)⟩
    · exact q.elim
  · obtain ⟨v, rfl, r1⟩ := repL1 r
    split at q
    · rename_i ns hb
      split at q
      · cases r1 with
        | dic n d e nd l =>
          subst e
          exact .inr ⟨_, _, ns, rfl, d, intKs_eq hb, by assumption, fun ns' p h1 h2 hp => by rw [srtI_eq h1 h2]; exact post_lst q g hp (RepL.ints _)⟩
      · exact q.elim
    · exact q.elim
  · obtain ⟨v, rfl, r1⟩ := repL1 r
    split at q
    · rename_i hm
      split at q
      · rename_i ns hb
        cases r1 with
        | ref n hn =>
          obtain ⟨_, _, vs, e, l⟩ := g.own _ _ hm
          rw [inTs_rep l hb] at e
          exact .inl ⟨_, ns, rfl, .of e, fun ns' p h1 h2 hp => by rw [srtI_eq h1 h2]; exact post_lst q g hp (RepL.ints _)⟩
      · exact q.elim
    · rename_i hm
      split at q
      · rename_i ns hb
        split at q
        · cases r1 with
          | ref n hn =>
            obtain ⟨_, _, kvs, e, e2, nd, l⟩ := g.own _ _ hm
            subst e2
            exact .inr ⟨_, _, ns, rfl, .inl e, intKs_eq hb, by assumption, fun ns' p h1 h2 hp => by rw [srtI_eq h1 h2]; exact post_lst q g hp (RepL.ints _)⟩
        · exact q.elim
      · exact q.elim
    · exact q.elim
  · exact q.elim
end
end TL
end
section
set_option Elab.async false
set_option linter.all false
set_option maxRecDepth 100000
/-! TL7: new objects of the store, freezing; targets; statements; loops. -/
namespace TL
open PySem PySem.Spec PyProof.Rows L2

/-! ### new, frozen -/
def eNew (f : Ev T) : Ev T := fun τ M => (f τ M).bind fun t M' => match t with
  | .lst ts => .ok (.ref M'.nx) (M'.add (.lst ts))
  | .dic ks ts => .ok (.ref M'.nx) (M'.add (.dic ks ts))
  | _ => .stuck
theorem SE.new {X : Cx} {e : Expr} {f : Ev T} (h : SE true X e f) : SE false X e (eNew f) := by
  refine pe_imp h fun σ H Q ⟨w, τ, e, g, n, q⟩ => ?_
  subst e
  refine ⟨w, τ, rfl, g, n, Res.all_mono (fun t M' q w1 v x g1 e1 r1 f => ?_) (Res.all_bind q)⟩
  obtain ⟨w2, p, rfl, y, g2, hp, h | h⟩ := f rfl
  · obtain ⟨vs, ts, rfl, r, rfl⟩ := h
    subst e1
    exact q (w2.new p (.lst vs) (.lst ts)) (.ref p) (y.trans (Ext.new g2 hp)) (g2.new hp ⟨vs, rfl, r⟩) rfl new_ref fun z => nomatch z
  · obtain ⟨kvs, ks, ts, rfl, e, nd, r, rfl⟩ := h
    subst e1
    exact q (w2.new p (.dK kvs) (.dic ks ts)) (.ref p) (y.trans (Ext.new g2 hp)) (g2.new hp ⟨kvs, rfl, e, nd, r⟩) rfl new_ref fun z => nomatch z

def frzM (f : T → Sto → Option (T × Sto)) : List T → Sto → Option (List T × Sto)
  | [], M => some ([], M)
  | t :: ts, M => match f t M with
    | some (u, M1) => match frzM f ts M1 with
      | some (us, M2) => some (u :: us, M2)
      | none => none
    | none => none
def frzD : Nat → T → Sto → Option (T × Sto)
  | 0 => fun _ _ => none
  | d + 1 => fun t M => match t with
    | .lst ts => match frzM (frzD d) ts M with
      | some (us, M') => some (.lst us, M')
      | none => none
    | .tup ts => match frzM (frzD d) ts M with
      | some (us, M') => some (.tup us, M')
      | none => none
    | .dic ks ts => match frzM (frzD d) ts M with
      | some (us, M') => some (.dic ks us, M')
      | none => none
    | .ref n => match M.get n with
      | some (.lst ts) => match frzM (frzD d) ts (M.del n) with
        | some (us, M') => some (.lst us, M')
        | none => none
      | some (.dic ks ts) => match frzM (frzD d) ts (M.del n) with
        | some (us, M') => some (.dic ks us, M')
        | none => none
      | _ => none
    | t => some (t, M)
section
variable {mg : Str → Option Value}
abbrev FrzOk (mg : Str → Option Value) (f : T → Sto → Option (T × Sto)) : Prop := ∀ (t : T) (w : Wd) (v : V) (t' : T) (M' : Sto), f t w.M = some (t', M') → Good mg w → Rep w v t → ∃ w', w'.H = w.H ∧ Ext w w' ∧ Good mg w' ∧ w'.M = M' ∧ Rep w' v t'
theorem frzM_ok {f : T → Sto → Option (T × Sto)} (F : FrzOk mg f) : ∀ {ts : List T} {w : Wd} {vs : List V} {ts' : List T} {M' : Sto}, frzM f ts w.M = some (ts', M') → Good mg w → RepL w vs ts → ∃ w', w'.H = w.H ∧ Ext w w' ∧ Good mg w' ∧ w'.M = M' ∧ RepL w' vs ts'
  | [], w, vs, ts', M', h, g, r => by
    cases h
    cases r
    exact ⟨w, rfl, .refl w, g, rfl, .nil⟩
  | t :: ts, w, vs, ts', M', h, g, r => by
    unfold frzM at h
    split at h
    · rename_i u M1 h1
      split at h
      · rename_i us M2 h2
        cases h
        cases r with
        | cons a b =>
          obtain ⟨w1, e1, x1, g1, m1, r1⟩ := F _ _ _ _ _ h1 g a
          subst m1
          obtain ⟨w2, e2, x2, g2, m2, r2⟩ := frzM_ok F h2 g1 (b.mono x1)
          exact ⟨w2, e2.trans e1, x1.trans x2, g2, m2, .cons (r1.mono x2) r2⟩
      · cases h
    · cases h
theorem frzD_ok : ∀ (d : Nat), FrzOk mg (frzD d)
  | 0 => fun _ _ _ _ _ h _ _ => nomatch h
  | d + 1 => fun t w v t' M' h g r => by
    have IH := frzD_ok d
    unfold frzD at h
    cases t with
    | lst ts =>
      dsimp only at h
      split at h
      · rename_i us M1 h1
        cases h
        cases r with
        | lst n e l =>
          obtain ⟨w', a, x, g', b, l'⟩ := frzM_ok IH h1 g l
          obtain ⟨e', n'⟩ := x.rd (u := .lst _) True.intro e n
          exact ⟨w', a, x, g', b, .lst n' e' l'⟩
      · cases h
    | tup ts =>
      dsimp only at h
      split at h
      · rename_i us M1 h1
        cases h
        cases r with
        | tup n e l =>
          obtain ⟨w', a, x, g', b, l'⟩ := frzM_ok IH h1 g l
          obtain ⟨e', n'⟩ := x.rd (u := .tup _) True.intro e n
          exact ⟨w', a, x, g', b, .tup n' e' l'⟩
      · cases h
    | dic ks ts =>
      dsimp only at h
      split at h
      · rename_i us M1 h1
        cases h
        cases r with
        | dic n e e2 nd l =>
          obtain ⟨w', a, x, g', b, l'⟩ := frzM_ok IH h1 g l
          obtain ⟨e', n'⟩ := x.keepD _ _ e n
          exact ⟨w', a, x, g', b, .dic n' e' e2 nd l'⟩
      · cases h
    | ref m =>
      dsimp only at h
      split at h
      · rename_i ts hm
        split at h
        · rename_i us M1 h1
          cases h
          cases r with
          | ref _ hn =>
            obtain ⟨_, _, vs0, e, l⟩ := g.own _ _ hm
            have n := drop_notEx g hm
            obtain ⟨w', a, x, g', b, l'⟩ := frzM_ok IH (w := w.drop m) h1 (g.drop (n := m)) (l.mono Ext.drop)
            obtain ⟨e', n'⟩ := x.keep _ (.lst _) True.intro e n
            exact ⟨w', a, Ext.drop.trans x, g', b, .lst n' (.inl e') l'⟩
        · cases h
      · rename_i ks ts hm
        split at h
        · rename_i us M1 h1
          cases h
          cases r with
          | ref _ hn =>
            obtain ⟨_, _, kvs0, e, e2, nd, l⟩ := g.own _ _ hm
            have n := drop_notEx g hm
            obtain ⟨w', a, x, g', b, l'⟩ := frzM_ok IH (w := w.drop m) h1 (g.drop (n := m)) (l.mono Ext.drop)
            obtain ⟨e', n'⟩ := x.keepD _ _ (.inl e) n
            exact ⟨w', a, Ext.drop.trans x, g', b, .dic n' e' e2 nd l'⟩
        · cases h
      · cases h
    | non => cases h; exact ⟨w, rfl, .refl w, g, rfl, r⟩
    | bl _ => cases h; exact ⟨w, rfl, .refl w, g, rfl, r⟩
    | int _ => cases h; exact ⟨w, rfl, .refl w, g, rfl, r⟩
    | str _ => cases h; exact ⟨w, rfl, .refl w, g, rfl, r⟩
    | scr _ => cases h; exact ⟨w, rfl, .refl w, g, rfl, r⟩
end
def eFrz (f : Ev T) : Ev T := fun τ M => (f τ M).bind fun t M' => match frzD 6 t M' with
  | some (t', M2) => .ok t' M2
  | none => .stuck
theorem SE.frz {X : Cx} {e : Expr} {f : Ev T} (h : SE false X e f) : SE false X e (eFrz f) := by
  refine pe_imp h fun σ H Q ⟨w, τ, e, g, n, q⟩ => ?_
  subst e
  refine ⟨w, τ, rfl, g, n, Res.all_mono (fun t M' q w1 v x g1 e1 r1 _ => ?_) (Res.all_bind q)⟩
  subst e1
  split at q
  · rename_i t' M2 hf
    obtain ⟨w2, e2, x2, g2, m2, r2⟩ := frzD_ok 6 _ _ _ _ _ hf g1 r1
    rw [← e2]
    exact q w2 v (x.trans x2) g2 m2 r2 fun z => nomatch z
  · exact q.elim

/-! ### targets -/
abbrev Tg := T → Tau → Sto → Res Tau
def tG (mg : Str → Option Value) (sl : List Nat) (g : Tg) : TG := fun v σ H Q => ∃ w τ t, w.H = H ∧ Good mg w ∧ Nm w σ τ ∧ Rep w v t ∧
  (g t τ w.M).all fun τ' M' => ∀ w1 σ', Ext w w1 → Good mg w1 → w1.M = M' → Nm w1 σ' τ' → (σ'.length = σ.length ∧ ∀ j, j ∉ sl → σ'[j]? = σ[j]?) → Q σ' w1.H
def SG (sl : List Nat) (X : Cx) (tg : Expr) (g : Tg) : Prop := PG X tg (tG X.mg sl g)
theorem pg_imp {X : Cx} {e : Expr} {t t' : TG} (h : PG X e t') (i : ∀ v σ H Q, t v σ H Q → t' v σ H Q) : PG X e t := ⟨fun v u p s σ H Q I r q => h.run v u p s σ H Q I r (i _ _ _ _ q)⟩
def gN (i : Nat) : Tg := fun t τ M => .ok (τ.set i (some t)) M
section
variable {X : Cx} {pos : Pos}
theorem sg_name {i : Nat} {x : Str} (hN : X.N.Nodup) (hi : X.N[i]? = some x := by rfl) (hx : Loc X.env.scope x := by first | exact .inl rfl | exact .inr rfl) (hf : X.fn x = true ∨ X.env.scope.names.lookup x = some .local := by first | exact .inl rfl | exact .inr rfl) : SG [i] X (.Name x pos) (gN i) := by
  refine pg_imp (pg_name hN hi hx hf) fun v σ H Q ⟨w, τ, t, e, g, n, r, q⟩ => ?_
  subst e
  exact q w _ (.refl w) g rfl (n.set r i) ⟨List.length_set, fun j hj => List.getElem?_set_ne (fun z => hj (by rw [z]; exact List.mem_singleton_self _))⟩
def gT1 (g : Tg) : List T → Tau → Sto → Res Tau := fun ts τ M => match ts with
  | [t] => g t τ M
  | _ => .stuck
def tGs (mg : Str → Option Value) (sl : List Nat) (g : List T → Tau → Sto → Res Tau) : TGs := fun vs σ H Q => ∃ w τ ts, w.H = H ∧ Good mg w ∧ Nm w σ τ ∧ RepL w vs ts ∧
  (g ts τ w.M).all fun τ' M' => ∀ w1 σ', Ext w w1 → Good mg w1 → w1.M = M' → Nm w1 σ' τ' → (σ'.length = σ.length ∧ ∀ j, j ∉ sl → σ'[j]? = σ[j]?) → Q σ' w1.H
def SGs (sl : List Nat) (X : Cx) (tgs : List Expr) (g : List T → Tau → Sto → Res Tau) : Prop := PGs X tgs (tGs X.mg sl g)
def gNil : List T → Tau → Sto → Res Tau := fun ts τ M => match ts with
  | [] => .ok τ M
  | _ => .stuck
def gCons (g : Tg) (gs : List T → Tau → Sto → Res Tau) : List T → Tau → Sto → Res Tau := fun ts τ M => match ts with
  | t :: ts => (g t τ M).bind fun τ' M' => gs ts τ' M'
  | _ => .stuck
theorem pgs_imp {es : List Expr} {t t' : TGs} (h : PGs X es t') (i : ∀ v σ H Q, t v σ H Q → t' v σ H Q) : PGs X es t := ⟨fun v u p s σ H Q I r q => h.run v u p s σ H Q I r (i _ _ _ _ q)⟩
theorem sgs_nil : SGs [] X [] gNil := by
  refine pgs_imp pgs_nil fun vs σ H Q ⟨w, τ, ts, e, g, n, r, q⟩ => ?_
  subst e
  cases r with
  | nil => exact ⟨rfl, q w σ (.refl w) g rfl n ⟨rfl, fun _ _ => rfl⟩⟩
  | cons _ _ => exact q.elim
theorem sgs_cons {sl sl' : List Nat} {e : Expr} {es : List Expr} {g : Tg} {gs : List T → Tau → Sto → Res Tau} (h1 : SG sl X e g) (h2 : SGs sl' X es gs) (hs : (assignEach (e :: es) X.env).map (·.2) = assign e X.env :: (assignEach es X.env).map (·.2) := by rfl) : SGs (sl ++ sl') X (e :: es) (gCons g gs) := by
  refine pgs_imp (pgs_cons h1 h2 hs) fun vs σ H Q ⟨w, τ, ts, e, g0, n, r, q⟩ => ?_
  subst e
  cases r with
  | nil => exact q.elim
  | cons a b =>
    refine ⟨_, _, rfl, w, τ, _, rfl, g0, n, a, Res.all_mono (fun τ1 M1 q w1 σ1 x1 g1 e1 n1 k1 => ?_) (Res.all_bind q)⟩
    subst e1
    refine ⟨w1, τ1, _, rfl, g1, n1, b.mono x1, Res.all_mono (fun τ2 M2 q w2 σ2 x2 g2 e2 n2 k2 => ?_) q⟩
    exact q w2 σ2 (x1.trans x2) g2 e2 n2 ⟨k2.1.trans k1.1, fun j hj => (k2.2 j fun z => hj (List.mem_append_right _ z)).trans (k1.2 j fun z => hj (List.mem_append_left _ z))⟩
def gTup (k : Nat) (gs : List T → Tau → Sto → Res Tau) : Tg := fun t τ M => match t with
  | .tup ts => if ts.length = k then gs ts τ M else .stuck
  | _ => .stuck
theorem sg_tup {sl : List Nat} {es : List Expr} {k : Nat} {gs : List T → Tau → Sto → Res Tau} {n : Nat} (h : SGs sl X es gs) (hc : X.calm = true := by rfl) (hn : (assignEach es X.env).length = n := by rfl) (hst : (assignEach es X.env).findIdx? (·.1) = none := by rfl) : SG sl X (.Tuple es k pos) (gTup n gs) := by
  refine pg_imp (pg_tup hc h hn hst) fun v σ H Q ⟨w, τ, t, e, g0, nm, r, q⟩ => ?_
  subst e
  unfold gTup at q
  split at q
  · split at q
    · rename_i hl
      cases r with
      | tup n0 d l => exact ⟨_, _, rfl, .inl d, by rw [l.length]; exact hl, w, τ, _, rfl, g0, nm, l, q⟩
    · exact q.elim
  · exact q.elim
end
end TL
end
section
set_option Elab.async false
set_option linter.all false
set_option maxRecDepth 100000
/-! TL8: statements, blocks, what a loop walks, for, while. -/
namespace TL
open PySem PySem.Spec PyProof.Rows L2

inductive Fl where
  | nx (τ : Tau) | rt (t : T) | bk (τ : Tau) | ct (τ : Tau)
def ends (mg : Str → Option Value) (F : Bool) (D : Ends) (w w1 : Wd) : Fl → Prop
  | .nx τ => ∀ σ, Nm w1 σ τ → D.nx σ w1.H
  | .rt t => ∀ v, Rep w1 v t → (F = true → Fr mg w w1 v t) → D.rt v w1.H
  | .bk τ => ∀ σ, Nm w1 σ τ → D.bk σ w1.H
  | .ct τ => ∀ σ, Nm w1 σ τ → D.ct σ w1.H
def postS (mg : Str → Option Value) (F : Bool) (D : Ends) (w : Wd) (a : Res Fl) : Prop := a.all fun fl M' => ∀ w1, Ext w w1 → Good mg w1 → w1.M = M' → ends mg F D w w1 fl
def tS (mg : Str → Option Value) (F : Bool) (f : Ev Fl) : TS := fun D σ H => ∃ w τ, w.H = H ∧ Good mg w ∧ Nm w σ τ ∧ postS mg F D w (f τ w.M)
def SS (F : Bool) (X : Cx) (st : Stmt) (f : Ev Fl) : Prop := PS X st (tS X.mg F f)
def SB (F : Bool) (X : Cx) (sts : List Stmt) (f : Ev Fl) : Prop := PSs X sts (tS X.mg F f)
theorem ps_imp {X : Cx} {st : Stmt} {t t' : TS} (h : PS X st t') (i : ∀ D σ H, t D σ H → t' D σ H) : PS X st t := ⟨fun p s σ H D I q => h.run p s σ H D I (i _ _ _ q)⟩
theorem pss_imp {X : Cx} {sts : List Stmt} {t t' : TS} (h : PSs X sts t') (i : ∀ D σ H, t D σ H → t' D σ H) : PSs X sts t := ⟨fun p s σ H D I q => h.run p s σ H D I (i _ _ _ q)⟩
theorem ends.ext {mg : Str → Option Value} {F : Bool} {D : Ends} {w w' w1 : Wd} {fl : Fl} (x : Ext w w') (h : ends mg F D w w1 fl) : ends mg F D w' w1 fl := by
  cases fl with
  | nx τ => exact h
  | rt t => exact fun v r f => h v r fun z => (f z).ext x
  | bk τ => exact h
  | ct τ => exact h
theorem postS_ext {mg : Str → Option Value} {F : Bool} {D : Ends} {w w1 : Wd} {a : Res Fl} (h : postS mg F D w a) (x : Ext w w1) : postS mg F D w1 a :=
  Res.all_mono (fun _ _ q w2 y g e => (q w2 (x.trans y) g e).ext x) h
section
variable {X : Cx} {F : Bool} {pos : Pos} {st : Stmt} {sts : List Stmt} {e a b c : Expr} {f g : Ev Fl} {fe : Ev T}

def sNil : Ev Fl := fun τ M => .ok (.nx τ) M
def sSeq (f g : Ev Fl) : Ev Fl := fun τ M => (f τ M).bind fun fl M' => match fl with
  | .nx τ' => g τ' M'
  | fl => .ok fl M'
theorem sb_nil : SB F X [] sNil := pss_imp pss_nil fun D σ H ⟨w, τ, e, g, n, q⟩ => by subst e; exact q w (.refl w) g rfl σ n
theorem sb_cons (h1 : SS F X st f) (h2 : SB F X sts g) : SB F X (st :: sts) (sSeq f g) := by
  refine pss_imp (pss_cons h1 h2) fun D σ H ⟨w, τ, e, g0, n, q⟩ => ?_
  subst e
  refine ⟨w, τ, rfl, g0, n, Res.all_mono (fun fl M' q w1 x1 g1 e1 => ?_) (Res.all_bind q)⟩
  subst e1
  cases fl with
  | nx τ' => exact fun σ' n' => ⟨w1, τ', rfl, g1, n', postS_ext q x1⟩
  | rt t => exact q w1 x1 g1 rfl
  | bk τ' => exact q w1 x1 g1 rfl
  | ct τ' => exact q w1 x1 g1 rfl
theorem sb_one (h1 : SS F X st f) : SB F X [st] f := pss_one h1
theorem ss_never : SS F X st eStuck := ps_imp ps_never fun D σ H ⟨_, _, _, _, _, q⟩ => q
theorem sb_never : SB F X sts eStuck := pss_imp pss_never fun D σ H ⟨_, _, _, _, _, q⟩ => q

def sPass : Ev Fl := fun τ M => .ok (.nx τ) M
theorem ss_pass : SS F X (.Pass pos) sPass := ps_imp ps_pass fun D σ H ⟨w, τ, e, g, n, q⟩ => by subst e; exact q w (.refl w) g rfl σ n
def sBrk : Ev Fl := fun τ M => .ok (.bk τ) M
theorem ss_break : SS F X (.Break pos) sBrk := ps_imp ps_break fun D σ H ⟨w, τ, e, g, n, q⟩ => by subst e; exact q w (.refl w) g rfl σ n
def sCt : Ev Fl := fun τ M => .ok (.ct τ) M
theorem ss_continue : SS F X (.Continue pos) sCt := ps_imp ps_continue fun D σ H ⟨w, τ, e, g, n, q⟩ => by subst e; exact q w (.refl w) g rfl σ n
def sExpr (f : Ev T) : Ev Fl := fun τ M => (f τ M).bind fun _ M' => .ok (.nx τ) M'
theorem ss_expr (he : SE false X e fe) (hs : swapsWith e none pos.line X.env = pure false := by rfl) : SS F X (.Expr e pos) (sExpr fe) := by
  refine ps_imp (ps_expr he hs) fun D σ H ⟨w, τ, e, g, n, q⟩ => ?_
  subst e
  refine ⟨w, τ, rfl, g, n, Res.all_mono (fun t M' q w1 v x1 g1 e1 r1 _ => ?_) (Res.all_bind q)⟩
  exact q w1 x1 g1 e1 σ (n.mono x1)
def sRet (f : Ev T) : Ev Fl := fun τ M => (f τ M).bind fun t M' => .ok (.rt t) M'
theorem ss_ret (he : SE F X e fe) : SS F X (.Return (some e) pos) (sRet fe) := by
  refine ps_imp (ps_ret he) fun D σ H ⟨w, τ, e, g, n, q⟩ => ?_
  subst e
  refine ⟨w, τ, rfl, g, n, Res.all_mono (fun t M' q w1 v x1 g1 e1 r1 f1 => ?_) (Res.all_bind q)⟩
  exact q w1 x1 g1 e1 v r1 f1
def sRetN : Ev Fl := fun τ M => .ok (.rt .non) M
theorem ss_retN : SS false X (.Return none pos) sRetN := ps_imp ps_retN fun D σ H ⟨w, τ, e, g, n, q⟩ => by subst e; exact q w (.refl w) g rfl .non .non fun z => nomatch z
def sIf (c : Ev Bool) (f g : Ev Fl) : Ev Fl := fun τ M => (c τ M).bind fun b M' => if b then f τ M' else g τ M'
theorem ss_if {as bs : List Stmt} {fc : Ev Bool} (hc : ST X c fc) (ha : SB F X as f) (hb : SB F X bs g) : SS F X (.If c as bs pos) (sIf fc f g) := by
  refine ps_imp (ps_if hc ha hb) fun D σ H ⟨w, τ, e, g0, n, q⟩ => ?_
  subst e
  refine ⟨w, τ, rfl, g0, n, Res.all_mono (fun b M' q w1 x1 g1 e1 => ?_) (Res.all_bind q)⟩
  subst e1
  cases b with
  | true => exact ⟨w1, τ, rfl, g1, n.mono x1, postS_ext q x1⟩
  | false => exact ⟨w1, τ, rfl, g1, n.mono x1, postS_ext q x1⟩
/-! assignments -/
def sAsg (f : Ev T) (g : Tg) : Ev Fl := fun τ M => (f τ M).bind fun t M1 => (g t τ M1).bind fun τ' M2 => .ok (.nx τ') M2
theorem asg_imp {mg : Str → Option Value} {sl : List Nat} {g : Tg} {D : Ends} {σ : L2.St} {H : Hp} (h : tS mg F (sAsg fe g) D σ H) : tAsg (tE mg false fe) (tG mg sl g) D σ H := by
  obtain ⟨w, τ, rfl, g0, n, q⟩ := h
  refine ⟨w, τ, rfl, g0, n, Res.all_mono (fun t M' q w1 v x1 g1 e1 r1 _ => ?_) (Res.all_bind q)⟩
  subst e1
  refine ⟨w1, τ, t, rfl, g1, n.mono x1, r1, Res.all_mono (fun τ' M2 q w2 σ' x2 g2 e2 n2 _ => ?_) (Res.all_bind q)⟩
  exact q w2 (x1.trans x2) g2 e2 σ' n2
theorem ss_asg {sl : List Nat} {tg : Expr} {g : Tg} (he : SE false X e fe) (hg : SG sl X tg g) (hs : swapsWithSole [tg] e pos.line X.env = pure false := by rfl) (hw : swappedStores [tg] e X.env = pure none := by rfl) (h1 : (assignEach [tg] X.env).map (·.2) = [assign tg X.env] := by rfl) : SS F X (.Assign [tg] e pos) (sAsg fe g) :=
  ps_imp (ps_asg he hg hs hw h1) fun D σ H h => asg_imp h
theorem gName_imp {mg : Str → Option Value} {i : Nat} {v : V} {σ : L2.St} {H : Hp} {Q : L2.St → Hp → Prop} (h : tG mg [i] (gN i) v σ H Q) : L2.gName i v σ H Q := by
  obtain ⟨w, τ, t, rfl, g, n, r, q⟩ := h
  exact q w _ (.refl w) g rfl (n.set r i) ⟨List.length_set, fun j hj => List.getElem?_set_ne (fun z => hj (by rw [z]; exact List.mem_singleton_self _))⟩
theorem ss_set {i : Nat} {x : Str} {pos' : Pos} (hN : X.N.Nodup) (he : SE false X e fe) (hi : X.N[i]? = some x := by rfl) (hx : Loc X.env.scope x := by first | exact .inl rfl | exact .inr rfl) (hs : swapsWith e (some (.Name x pos')) pos.line X.env = pure false := by rfl)
    (hf : X.fn x = true ∨ X.env.scope.names.lookup x = some .local := by first | exact .inl rfl | exact .inr rfl) : SS F X (.Assign [.Name x pos'] e pos) (sAsg fe (gN i)) :=
  ps_imp (ps_set hN hi hx he hs hf) fun D σ H h => by
    have q := asg_imp (sl := [i]) h
    obtain ⟨w, τ, rfl, g, n, q⟩ := q
    exact ⟨w, τ, rfl, g, n, Res.all_mono (fun t M' q w1 v x1 g1 e1 r1 f1 => gName_imp (q w1 v x1 g1 e1 r1 f1)) q⟩

/-! ### what a loop walks -/
/-- what stood stands, whatever is done with reserved ones -/
structure KF (w w' : Wd) : Prop extends Keep w w' where
  frz : ∀ a o u, w.H a = some (.frz o u) → w'.H a = some (.frz o u)
theorem Ext.toKF {w w' : Wd} (x : Ext w w') : KF w w' := ⟨x.toKeep, x.frz⟩
theorem KF.trans {a b c : Wd} (x : KF a b) (y : KF b c) : KF a c :=
  ⟨⟨fun p u hp h n => let ⟨h1, n1⟩ := x.keep p u hp h n; y.keep p u hp h1 n1, fun p o u hu h n => let ⟨h1, n1⟩ := x.keepF p o u hu h n; y.keepF p o u hu h1 n1, fun p u h n => let ⟨h1, n1⟩ := x.keepD p u h n; y.keepD p u h1 n1, Nat.le_trans x.nx y.nx,
   fun n h => (y.rho n (Nat.lt_of_lt_of_le h x.nx)).trans (x.rho n h)⟩, fun p o u h => y.frz p o u (x.frz p o u h)⟩
theorem KF.refl (w : Wd) : KF w w := (Ext.refl w).toKF
theorem KF.wrR {w : Wd} {D : Addr} {ho : HO} (hD : w.R D) (h : ∀ o u, w.H D ≠ some (.frz o u)) : KF w (w.wrR D ho) :=
  ⟨Keep.wrR hD, fun a o u e => by
    show upd w.H D ho a = _
    rw [upd_ne fun z => h o u (by rw [← z]; exact e)]
    exact e⟩
theorem Nm.kept {w w' : Wd} {σ : L2.St} {τ : Tau} (x : Keep w w') (e : Nm w σ τ) : Nm w' σ τ := ⟨e.len, fun i t h => let ⟨v, a, b⟩ := e.at_ i t h; ⟨v, a, b.kept x⟩⟩
structure Yld (mg : Str → Option Value) (J : It) (w0 : Wd) (ts : List T) : Prop where
  go : ∀ i w, KF w0 w → Good mg w → i < ts.length → J.go i w.H
  yl : ∀ i w x H', KF w0 w → Good mg w → J.yld i w.H x H' → ∀ t, ts[i]? = some t → ∃ w', w'.H = H' ∧ Ext w w' ∧ Good mg w' ∧ w'.M = w.M ∧ Rep w' x t
  stop : ∀ i w, KF w0 w → Good mg w → ts.length ≤ i → J.stop i w.H
def tI (mg : Str → Option Value) (f : Ev (List T)) : TI := fun σ H R => ∃ w τ, w.H = H ∧ Good mg w ∧ Nm w σ τ ∧ (f τ w.M).all fun ts M' => ∀ w1 J, Ext w w1 → Good mg w1 → w1.M = M' → Yld mg J w1 ts → R J w1.H
def SI (X : Cx) (tg e : Expr) (f : Ev (List T)) : Prop := PI X tg e (tI X.mg f)
theorem pi_imp {tg : Expr} {t t' : TI} (h : PI X tg e t') (i : ∀ σ H R, t σ H R → t' σ H R) : PI X tg e t := ⟨fun p s σ H R I q => h.run p s σ H R I (i _ _ _ q)⟩
def iLst (f : Ev T) : Ev (List T) := fun τ M => (f τ M).bind fun t M' => match t with
  | .lst ts => .ok ts M'
  | _ => .stuck
def iTpl (f : Ev T) : Ev (List T) := fun τ M => (f τ M).bind fun t M' => match t with
  | .tup ts => .ok ts M'
  | _ => .stuck
theorem sqL_fun {K : PySem.W.Frag} {w : Wd} {a : Addr} {xs : List V} {i : Nat} {x : V} (d : Rd w.H a (.lst xs)) (h : ∀ xs, SqL K w.H a xs → xs[i]? = some x) : xs[i]? = some x := h xs (.inl d)
theorem yld_list {K : PySem.W.Frag} {mg : Str → Option Value} {w : Wd} {a : Addr} {xs : List V} {ts : List T} (n : ¬ Ex w a) (d : Rd w.H a (.lst xs)) (l : RepL w xs ts) : Yld mg (Itl K a) w ts where
  go := fun i w1 x1 g1 hi => by
    obtain ⟨v, hv, _⟩ := l.get (List.getElem?_eq_getElem hi)
    exact ⟨xs, v, .inl (x1.rd (u := .lst _) True.intro d n).1, hv⟩
  yl := fun i w1 x H' x1 g1 hy t ht => by
    obtain ⟨rfl, h⟩ := hy
    obtain ⟨v, hv, r⟩ := l.get ht
    have e := (sqL_fun (x1.rd (u := .lst _) True.intro d n).1 h).symm.trans hv
    cases e
    exact ⟨w1, rfl, .refl w1, g1, rfl, r.kept x1.toKeep⟩
  stop := fun i w1 x1 g1 hi => ⟨xs, .inl (x1.rd (u := .lst _) True.intro d n).1, by rw [l.length]; exact hi⟩
theorem yld_tup {K : PySem.W.Frag} {mg : Str → Option Value} {w : Wd} {a : Addr} {xs : List V} {ts : List T} (n : ¬ Ex w a) (d : Rd w.H a (.tup xs)) (l : RepL w xs ts) : Yld mg (Itt K a) w ts where
  go := fun i w1 x1 g1 hi => by
    obtain ⟨v, hv, _⟩ := l.get (List.getElem?_eq_getElem hi)
    exact ⟨xs, v, .inl (x1.rd (u := .tup _) True.intro d n).1, hv⟩
  yl := fun i w1 x H' x1 g1 hy t ht => by
    obtain ⟨rfl, h⟩ := hy
    obtain ⟨v, hv, r⟩ := l.get ht
    have e := (h xs (.inl (x1.rd (u := .tup _) True.intro d n).1)).symm.trans hv
    cases e
    exact ⟨w1, rfl, .refl w1, g1, rfl, r.kept x1.toKeep⟩
  stop := fun i w1 x1 g1 hi => ⟨xs, .inl (x1.rd (u := .tup _) True.intro d n).1, by rw [l.length]; exact hi⟩
theorem si_list {tg : Expr} (he : SE false X e fe) : SI X tg e (iLst fe) := by
  refine pi_imp (pi_list he) fun σ H R ⟨w, τ, e, g, n, q⟩ => ?_
  subst e
  refine ⟨w, τ, rfl, g, n, Res.all_mono (fun t M' q w1 v x1 g1 e1 r1 _ => ?_) (Res.all_bind q)⟩
  subst e1
  split at q
  · cases r1 with
    | lst n d l => exact ⟨_, rfl, ⟨_, .inl d⟩, q w1 _ x1 g1 rfl (yld_list n d l)⟩
  · exact q.elim
theorem si_tup {tg : Expr} (he : SE false X e fe) : SI X tg e (iTpl fe) := by
  refine pi_imp (pi_tup he) fun σ H R ⟨w, τ, e, g, n, q⟩ => ?_
  subst e
  refine ⟨w, τ, rfl, g, n, Res.all_mono (fun t M' q w1 v x1 g1 e1 r1 _ => ?_) (Res.all_bind q)⟩
  subst e1
  split at q
  · cases r1 with
    | tup n d l => exact ⟨_, rfl, ⟨_, .inl d⟩, q w1 _ x1 g1 rfl (yld_tup n d l)⟩
  · exact q.elim
/-- lo, lo + 1, .. -/
def rgT (lo : Int) (n : Nat) : List T := (List.range n).map fun i => T.int (lo + (i : Nat))
theorem rgT_length (lo : Int) (n : Nat) : (rgT lo n).length = n := by unfold rgT; rw [List.length_map, List.length_range]
theorem yld_rng {mg : Str → Option Value} {w : Wd} (lo : Int) (n : Nat) : Yld mg (Itr lo n) w (rgT lo n) where
  go := fun i w1 x1 g1 hi => by rw [rgT_length] at hi; exact hi
  yl := fun i w1 x H' x1 g1 hy t ht => by
    obtain ⟨rfl, rfl⟩ := hy
    unfold rgT at ht
    rw [List.getElem?_map] at ht
    by_cases hi : i < n
    · rw [List.getElem?_range hi] at ht
      cases ht
      exact ⟨w1, rfl, .refl w1, g1, rfl, .int _⟩
    · rw [List.getElem?_eq_none (by simpa using hi)] at ht; cases ht
  stop := fun i w1 x1 g1 hi => by rw [rgT_length] at hi; exact hi
def iRg1 (f : Ev T) : Ev (List T) := fun τ M => (f τ M).bind fun t M' => match t with
  | .int j => if j < 4611686018427387904 ∧ -4611686018427387904 ≤ j then .ok (rgT 0 j.toNat) M' else .stuck
  | _ => .stuck
def iRg2 (f g : Ev T) : Ev (List T) := fun τ M => (f τ M).bind fun t M1 => (g τ M1).bind fun u M2 => match t, u with
  | .int i, .int j => if j < 4611686018427387904 ∧ -4611686018427387904 ≤ j ∧ i < 4611686018427387904 ∧ -4611686018427387904 ≤ i then .ok (rgT i (j - i).toNat) M2 else .stuck
  | _, _ => .stuck
theorem si_range1 {tg : Expr} {p : Pos} (B : Blt X.mg) (ha : SE false X a fe) (hg : Gl X "range" := by rfl) (hs : starEach [a] X.env = [(false, eval a X.env)] := by rfl) : SI X tg (.Call (.Name "range" p) [a] [] pos) (iRg1 fe) := by
  refine pi_imp (pi_range1 hg B.range (pa_cons ha pa_nil hs) hs) fun σ H R ⟨w, τ, e, g, n, q⟩ => ?_
  subst e
  refine ⟨w, τ, rfl, g, n, Res.all_mono (fun t M' q w1 v x1 g1 e1 r1 _ => ?_) (Res.all_bind q)⟩
  subst e1
  split at q
  · split at q
    · rename_i hj
      cases r1
      exact ⟨_, rfl, by omega, by omega, q w1 _ x1 g1 rfl (yld_rng _ _)⟩
    · exact q.elim
  · exact q.elim
theorem si_range2 {tg : Expr} {fb : Ev T} {p : Pos} (B : Blt X.mg) (ha : SE false X a fe) (hb : SE false X b fb) (hg : Gl X "range" := by rfl) (hs : starEach [a, b] X.env = [(false, eval a X.env), (false, eval b X.env)] := by rfl) (hs2 : starEach [b] X.env = [(false, eval b X.env)] := by rfl) :
    SI X tg (.Call (.Name "range" p) [a, b] [] pos) (iRg2 fe fb) := by
  refine pi_imp (pi_range2 hg B.range (pa_cons ha (pa_cons hb pa_nil hs2) (by rw [hs, hs2])) hs hs2) fun σ H R ⟨w, τ, e, g, n, q⟩ => ?_
  subst e
  refine ⟨w, τ, rfl, g, n, Res.all_mono (fun t M' q w1 v x1 g1 e1 r1 _ => ?_) (Res.all_bind q)⟩
  subst e1
  refine ⟨w1, τ, rfl, g1, n.mono x1, Res.all_mono (fun u M2 q w2 z x2 g2 e2 r2 _ => ?_) (Res.all_bind q)⟩
  subst e2
  split at q
  · split at q
    · rename_i hj
      cases r1.mono x2
      cases r2
      exact ⟨_, _, rfl, ⟨by omega, by omega, by omega, by omega⟩, q w2 _ (x1.trans x2) g2 rfl (yld_rng _ _)⟩
    · exact q.elim
  · exact q.elim
/-- a pair is laid at each turn -/
theorem yld_pair {mg : Str → Option Value} {w w1 : Wd} {T0 : Addr} {a b : V} {s t : T} (g : Good mg w) (hp : w.H T0 = none) (ra : Rep w a s) (rb : Rep w b t) :
    ∃ w', w'.H = upd w.H T0 (.tup [a, b]) ∧ Ext w w' ∧ Good mg w' ∧ w'.M = w.M ∧ Rep w' (.ref T0) (.tup [s, t]) :=
  ⟨w.put T0 (.tup [a, b]), rfl, Ext.put g hp, g.put hp, rfl, put_tup g hp (.cons ra (.cons rb .nil))⟩
def enT (ts : List T) : List T := (List.zip (rgT 0 ts.length) ts).map fun p => T.tup [p.1, p.2]
def zpT (ts us : List T) : List T := (List.zip ts us).map fun p => T.tup [p.1, p.2]
def enFrom : Nat → List T → List T
  | _, [] => []
  | i, t :: ts => .tup [.int (i : Nat), t] :: enFrom (i + 1) ts
theorem enFrom_length : ∀ (i : Nat) (ts : List T), (enFrom i ts).length = ts.length
  | _, [] => rfl
  | i, t :: ts => by show (enFrom (i + 1) ts).length + 1 = ts.length + 1; rw [enFrom_length]
theorem enFrom_get : ∀ (i : Nat) (ts : List T) (j : Nat), (enFrom i ts)[j]? = (ts[j]?).map fun t => T.tup [.int ((i + j : Nat) : Int), t]
  | _, [], _ => rfl
  | i, t :: ts, 0 => rfl
  | i, t :: ts, j + 1 => by
    show (enFrom (i + 1) ts)[j]? = _
    rw [enFrom_get (i + 1) ts j, show i + 1 + j = i + (j + 1) by omega]
    rfl
theorem yld_enum {K : PySem.W.Frag} {mg : Str → Option Value} {w : Wd} {a : Addr} {xs : List V} {ts : List T} (n : ¬ Ex w a) (d : Rd w.H a (.lst xs)) (l : RepL w xs ts) : Yld mg (Ite K a) w (enFrom 0 ts) where
  go := fun i w1 x1 g1 hi => by
    rw [enFrom_length] at hi
    obtain ⟨v, hv, _⟩ := l.get (List.getElem?_eq_getElem hi)
    exact ⟨xs, v, .inl (x1.rd (u := .lst _) True.intro d n).1, hv⟩
  yl := fun i w1 x H' x1 g1 hy t ht => by
    obtain ⟨T0, y, rfl, hp, rfl, h⟩ := hy
    rw [enFrom_get] at ht
    cases ht0 : ts[i]? with
    | none => rw [ht0] at ht; cases ht
    | some u =>
      rw [ht0] at ht
      cases ht
      obtain ⟨v, hv, r⟩ := l.get ht0
      have e := (sqL_fun (x1.rd (u := .lst _) True.intro d n).1 h).symm.trans hv
      cases e
      rw [Nat.zero_add]
      exact yld_pair (w1 := w1) g1 hp (.int _) (r.kept x1.toKeep)
  stop := fun i w1 x1 g1 hi => by
    rw [enFrom_length] at hi
    exact ⟨xs, .inl (x1.rd (u := .lst _) True.intro d n).1, by rw [l.length]; exact hi⟩
def iEn (f : Ev T) : Ev (List T) := fun τ M => (f τ M).bind fun t M' => match t with
  | .lst ts => .ok (enFrom 0 ts) M'
  | _ => .stuck
theorem si_enum {elts : List Expr} {kk : Nat} {tpos p : Pos} (B : Blt X.mg) (ha : SE false X a fe) (hg : Gl X "enumerate" := by rfl) (hs : starEach [a] X.env = [(false, eval a X.env)] := by rfl) : SI X (.Tuple elts kk tpos) (.Call (.Name "enumerate" p) [a] [] pos) (iEn fe) := by
  refine pi_imp (pi_enum hg B.enumerate (pa_cons ha pa_nil hs) hs) fun σ H R ⟨w, τ, e, g, n, q⟩ => ?_
  subst e
  refine ⟨w, τ, rfl, g, n, Res.all_mono (fun t M' q w1 v x1 g1 e1 r1 _ => ?_) (Res.all_bind q)⟩
  subst e1
  split at q
  · cases r1 with
    | lst n d l => exact ⟨_, _, rfl, .inl d, q w1 _ x1 g1 rfl (yld_enum n d l)⟩
  · exact q.elim
def zpL : List T → List T → List T
  | t :: ts, u :: us => .tup [t, u] :: zpL ts us
  | _, _ => []
theorem zpL_get : ∀ (ts us : List T) (j : Nat), (zpL ts us)[j]? = (match ts[j]?, us[j]? with | some t, some u => some (T.tup [t, u]) | _, _ => none)
  | [], us, j => by simp [zpL]
  | t :: ts, [], j => by simp [zpL]
  | t :: ts, u :: us, 0 => rfl
  | t :: ts, u :: us, j + 1 => by show (zpL ts us)[j]? = _; rw [zpL_get ts us j]; rfl
theorem zpL_length : ∀ (ts us : List T), (zpL ts us).length = min ts.length us.length
  | [], us => by simp [zpL]
  | t :: ts, [] => by simp [zpL]
  | t :: ts, u :: us => by show (zpL ts us).length + 1 = min (ts.length + 1) (us.length + 1); rw [zpL_length]; omega
theorem yld_zip {K : PySem.W.Frag} {mg : Str → Option Value} {w : Wd} {a b : Addr} {xs ys : List V} {ts us : List T} (n : ¬ Ex w a) (d : Rd w.H a (.lst xs)) (l : RepL w xs ts) (n' : ¬ Ex w b) (d' : Rd w.H b (.lst ys)) (l' : RepL w ys us) : Yld mg (Itz K a b) w (zpL ts us) where
  go := fun i w1 x1 g1 hi => by
    rw [zpL_length] at hi
    obtain ⟨v, hv, _⟩ := l.get (List.getElem?_eq_getElem (show i < ts.length by omega))
    obtain ⟨v', hv', _⟩ := l'.get (List.getElem?_eq_getElem (show i < us.length by omega))
    exact ⟨xs, ys, v, v', .inl (x1.rd (u := .lst _) True.intro d n).1, .inl (x1.rd (u := .lst _) True.intro d' n').1, hv, hv'⟩
  yl := fun i w1 x H' x1 g1 hy t ht => by
    obtain ⟨T0, y, z, rfl, hp, rfl, h, h'⟩ := hy
    rw [zpL_get] at ht
    cases ht0 : ts[i]? with
    | none => rw [ht0] at ht; cases ht
    | some s =>
      cases ht1 : us[i]? with
      | none => rw [ht0, ht1] at ht; cases ht
      | some u =>
        rw [ht0, ht1] at ht
        cases ht
        obtain ⟨v, hv, r⟩ := l.get ht0
        obtain ⟨v', hv', r'⟩ := l'.get ht1
        have e := (sqL_fun (x1.rd (u := .lst _) True.intro d n).1 h).symm.trans hv
        have e' := (sqL_fun (x1.rd (u := .lst _) True.intro d' n').1 h').symm.trans hv'
        cases e
        cases e'
        exact yld_pair (w1 := w1) g1 hp (r.kept x1.toKeep) (r'.kept x1.toKeep)
  stop := fun i w1 x1 g1 hi => by
    rw [zpL_length] at hi
    refine ⟨xs, ys, .inl (x1.rd (u := .lst _) True.intro d n).1, .inl (x1.rd (u := .lst _) True.intro d' n').1, ?_⟩
    rw [l.length, l'.length]
    omega
theorem yld_zipT {K : PySem.W.Frag} {mg : Str → Option Value} {w : Wd} {a b : Addr} {xs ys : List V} {ts us : List T} (n : ¬ Ex w a) (d : Rd w.H a (.tup xs)) (l : RepL w xs ts) (n' : ¬ Ex w b) (d' : Rd w.H b (.tup ys)) (l' : RepL w ys us) : Yld mg (RZ.ItzT K a b) w (zpL ts us) where
  go := fun i w1 x1 g1 hi => by
    rw [zpL_length] at hi
    obtain ⟨v, hv, _⟩ := l.get (List.getElem?_eq_getElem (show i < ts.length by omega))
    obtain ⟨v', hv', _⟩ := l'.get (List.getElem?_eq_getElem (show i < us.length by omega))
    exact ⟨xs, ys, v, v', .inl (x1.rd (u := .tup _) True.intro d n).1, .inl (x1.rd (u := .tup _) True.intro d' n').1, hv, hv'⟩
  yl := fun i w1 x H' x1 g1 hy t ht => by
    obtain ⟨T0, y, z, rfl, hp, rfl, h, h'⟩ := hy
    rw [zpL_get] at ht
    cases ht0 : ts[i]? with
    | none => rw [ht0] at ht; cases ht
    | some s =>
      cases ht1 : us[i]? with
      | none => rw [ht0, ht1] at ht; cases ht
      | some u =>
        rw [ht0, ht1] at ht
        cases ht
        obtain ⟨v, hv, r⟩ := l.get ht0
        obtain ⟨v', hv', r'⟩ := l'.get ht1
        have e := (h xs (.inl (x1.rd (u := .tup _) True.intro d n).1)).symm.trans hv
        have e' := (h' ys (.inl (x1.rd (u := .tup _) True.intro d' n').1)).symm.trans hv'
        cases e
        cases e'
        exact yld_pair (w1 := w1) g1 hp (r.kept x1.toKeep) (r'.kept x1.toKeep)
  stop := fun i w1 x1 g1 hi => by
    rw [zpL_length] at hi
    refine ⟨xs, ys, .inl (x1.rd (u := .tup _) True.intro d n).1, .inl (x1.rd (u := .tup _) True.intro d' n').1, ?_⟩
    rw [l.length, l'.length]
    omega
def iZp (f g : Ev T) : Ev (List T) := fun τ M => (f τ M).bind fun t M1 => (g τ M1).bind fun u M2 => match t, u with
  | .lst ts, .lst us => .ok (zpL ts us) M2
  | .tup ts, .tup us => .ok (zpL ts us) M2
  | _, _ => .stuck
theorem si_zip {elts : List Expr} {kk : Nat} {tpos p : Pos} {fb : Ev T} (B : Blt X.mg) (ha : SE false X a fe) (hb : SE false X b fb) (hg : Gl X "zip" := by rfl) (hs : starEach [a, b] X.env = (false, eval a X.env) :: starEach [b] X.env := by rfl) (hs2 : starEach [b] X.env = [(false, eval b X.env)] := by rfl)
    (hpl : (backTo pos (starEach [b] X.env)).any (·.1) = false := by rfl) : SI X (.Tuple elts kk tpos) (.Call (.Name "zip" p) [a, b] [] pos) (iZp fe fb) := by
  refine pi_imp (RZ.pi_zipA hg B.zip (pa_cons ha (pa_cons hb pa_nil hs2) hs) hs hpl) fun σ H R ⟨w, τ, e, g, n, q⟩ => ?_
  subst e
  refine ⟨w, τ, rfl, g, n, Res.all_mono (fun t M' q w1 v x1 g1 e1 r1 _ => ?_) (Res.all_bind q)⟩
  subst e1
  refine ⟨w1, τ, rfl, g1, n.mono x1, Res.all_mono (fun u M2 q w2 z x2 g2 e2 r2 _ => ?_) (Res.all_bind q)⟩
  subst e2
  split at q
  · cases r1.mono x2 with
    | lst n d l =>
      cases r2 with
      | lst n' d' l' => exact ⟨_, _, _, _, rfl, .inl ⟨.inl d, .inl d', q w2 _ (x1.trans x2) g2 rfl (yld_zip n d l n' d' l')⟩⟩
  · cases r1.mono x2 with
    | tup n d l =>
      cases r2 with
      | tup n' d' l' => exact ⟨_, _, _, _, rfl, .inr ⟨.inl d, .inl d', q w2 _ (x1.trans x2) g2 rfl (yld_zipT n d l n' d' l')⟩⟩
  · exact q.elim

/-! ### for -/
def forL (g : Tg) (f : Ev Fl) : List T → Ev Fl
  | [], τ, M => .ok (.nx τ) M
  | t :: ts, τ, M => (g t τ M).bind fun τ1 M1 => (f τ1 M1).bind fun fl M2 => match fl with
    | .nx τ' => forL g f ts τ' M2
    | .ct τ' => forL g f ts τ' M2
    | .bk τ' => .ok (.nx τ') M2
    | .rt t => .ok (.rt t) M2
def sFor (fi : Ev (List T)) (g : Tg) (f : Ev Fl) : Ev Fl := fun τ M => (fi τ M).bind fun ts M' => forL g f ts τ M'
theorem for_imp {mg : Str → Option Value} {sl : List Nat} {gt : Tg} {D : Ends} {w : Wd} {σ : L2.St} {τ : Tau} {J : It} {ts : List T} (g : Good mg w) (n : Nm w σ τ) (y : Yld mg J w ts) (q : postS mg F D w (forL gt f ts τ w.M)) :
    ∃ W : Nat → Nat → L2.St → Hp → Prop, (∃ m, W 0 m σ w.H) ∧ ∀ i m σ H, W i m σ H → (J.stop i H ∧ D.nx σ H) ∨ (J.go i H ∧ ∃ N : L2.St → Hp → Prop, (∀ σ' H', N σ' H' → ∃ m', m' < m ∧ W (i + 1) m' σ' H') ∧
      ∀ x H', J.yld i H x H' → tG mg sl gt x σ H' fun σ2 H2 => tS mg F f { D with nx := N, ct := N, bk := D.nx } σ2 H2) := by
  refine ⟨fun i m σ H => m = ts.length - i ∧ i ≤ ts.length ∧ ∃ w' τ', w'.H = H ∧ Good mg w' ∧ Ext w w' ∧ Nm w' σ τ' ∧ postS mg F D w' (forL gt f (ts.drop i) τ' w'.M),
    ⟨ts.length, by simp, Nat.zero_le _, w, τ, rfl, g, .refl w, n, by rw [List.drop_zero]; exact q⟩, ?_⟩
  rintro i m σ1 H ⟨rfl, hi, w', τ', rfl, g', x, n', q'⟩
  by_cases hl : i < ts.length
  · refine .inr ⟨y.go i w' x.toKF g' hl, fun σ2 H2 => i + 1 ≤ ts.length ∧ ∃ w' τ', w'.H = H2 ∧ Good mg w' ∧ Ext w w' ∧ Nm w' σ2 τ' ∧ postS mg F D w' (forL gt f (ts.drop (i + 1)) τ' w'.M), fun σ2 H2 ⟨h, r⟩ => ⟨ts.length - (i + 1), by omega, rfl, h, r⟩, fun v H' hy => ?_⟩
    rw [List.drop_eq_getElem_cons hl] at q'
    obtain ⟨w1, rfl, x1, g1, m1, r1⟩ := y.yl i w' v H' x.toKF g' hy _ (List.getElem?_eq_getElem hl)
    rw [← m1] at q'
    refine ⟨w1, τ', _, rfl, g1, n'.mono x1, r1, Res.all_mono (fun τ1 M1 q w2 σ2 x2 g2 e2 n2 _ => ?_) (Res.all_bind q')⟩
    subst e2
    refine ⟨w2, τ1, rfl, g2, n2, Res.all_mono (fun fl M2 q w3 x3 g3 e3 => ?_) (Res.all_bind q)⟩
    subst e3
    have xx := (x1.trans x2).trans x3
    cases fl with
    | nx τ2 => exact fun σ3 n3 => ⟨hl, w3, τ2, rfl, g3, x.trans xx, n3, postS_ext q xx⟩
    | ct τ2 => exact fun σ3 n3 => ⟨hl, w3, τ2, rfl, g3, x.trans xx, n3, postS_ext q xx⟩
    | bk τ2 => exact fun σ3 n3 => q w3 xx g3 rfl σ3 n3
    | rt t => exact (q w3 xx g3 rfl).ext (x1.trans x2)
  · have e : ts.drop i = [] := List.drop_of_length_le (by omega)
    rw [e] at q'
    exact .inl ⟨y.stop i w' x.toKF g' (by omega), q' w' (.refl w') g' rfl σ1 n'⟩
theorem ss_for {sl : List Nat} {tg : Expr} {gt : Tg} {fi : Ev (List T)} (hi : SI X tg e fi) (hg : SG sl X tg gt) (hb : SB F X sts f) (hp : PassesOwn (model X.prog X.w) X.A X.env X.xe := by exact PassesOwn.never) (hc : X.calm = true := by rfl)
    (hs : ∀ x, foldedSetIterable e X.env x = pure x := by intro _; rfl) : SS F X (.For tg e sts [] pos) (sFor fi gt f) := by
  refine ps_imp (ps_for hp hc hi hg hb hs) fun D σ H ⟨w, τ, e, g, n, q⟩ => ?_
  subst e
  refine ⟨w, τ, rfl, g, n, Res.all_mono (fun ts M' q w1 J x1 g1 e1 y => ?_) (Res.all_bind q)⟩
  subst e1
  exact for_imp g1 (n.mono x1) y (postS_ext q x1)

/-! ### while -/
def sWhile (c : Ev Bool) (f : Ev Fl) : Nat → Ev Fl
  | 0, _, _ => .stuck
  | k + 1, τ, M => (c τ M).bind fun b M1 => if b then (f τ M1).bind fun fl M2 => match fl with
      | .nx τ' => sWhile c f k τ' M2
      | .ct τ' => sWhile c f k τ' M2
      | .bk τ' => .ok (.nx τ') M2
      | .rt t => .ok (.rt t) M2
    else .ok (.nx τ) M1
theorem ss_while (k : Nat) {fc : Ev Bool} (hc : ST X c fc) (hb : SB F X sts f) (hp : PassesOwn (model X.prog X.w) X.A X.env X.xe := by exact PassesOwn.never) : SS F X (.While c sts [] pos) (sWhile fc f k) := by
  refine ps_imp (ps_while hp hc hb) fun D σ H ⟨w, τ, e, g, n, q⟩ => ?_
  subst e
  refine ⟨fun m σ H => ∃ w' τ', w'.H = H ∧ Good X.mg w' ∧ Ext w w' ∧ Nm w' σ τ' ∧ postS X.mg F D w' (sWhile fc f m τ' w'.M), ⟨k, w, τ, rfl, g, .refl w, n, q⟩, ?_⟩
  rintro m σ1 H ⟨w', τ', rfl, g', x, n', q'⟩
  cases m with
  | zero => exact q'.elim
  | succ m =>
    refine ⟨w', τ', rfl, g', n', Res.all_mono (fun b M1 q w1 x1 g1 e1 => ?_) (Res.all_bind q')⟩
    subst e1
    cases b with
    | false => exact q w1 x1 g1 rfl σ1 (n'.mono x1)
    | true =>
      refine ⟨fun σ2 H2 => ∃ w' τ', w'.H = H2 ∧ Good X.mg w' ∧ Ext w w' ∧ Nm w' σ2 τ' ∧ postS X.mg F D w' (sWhile fc f m τ' w'.M), fun σ2 H2 r => ⟨m, Nat.lt_succ_self m, r⟩, ?_⟩
      refine ⟨w1, τ', rfl, g1, n'.mono x1, Res.all_mono (fun fl M2 q w3 x3 g3 e3 => ?_) (Res.all_bind q)⟩
      subst e3
      have xx := x1.trans x3
      cases fl with
      | nx τ2 => exact fun σ3 n3 => ⟨w3, τ2, rfl, g3, x.trans xx, n3, postS_ext q xx⟩
      | ct τ2 => exact fun σ3 n3 => ⟨w3, τ2, rfl, g3, x.trans xx, n3, postS_ext q xx⟩
      | bk τ2 => exact fun σ3 n3 => q w3 xx g3 rfl σ3 n3
      | rt t => exact (q w3 xx g3 rfl).ext x1
end
end TL
end
section
set_option Elab.async false
set_option linter.all false
set_option maxRecDepth 100000
/-! TL9: comprehensions. -/
namespace TL
open PySem PySem.Spec PyProof.Rows L2

theorem wipe_get {σ : L2.St} {j : Nat} : ∀ {vs : List Nat}, (L2.wipe σ vs)[j]? = if j ∈ vs then (if j < σ.length then some none else none) else σ[j]?
  | [] => by simp [L2.wipe]
  | v :: vs => by
    show ((L2.wipe σ vs).set v none)[j]? = _
    by_cases e : v = j
    · subst e
      rw [if_pos List.mem_cons_self]
      by_cases h : v < σ.length
      · rw [if_pos h, List.getElem?_set_self (by rw [L2.wipe_length]; exact h)]
      · rw [if_neg h, List.getElem?_eq_none (by rw [List.length_set, L2.wipe_length]; omega)]
    · rw [List.getElem?_set_ne e, wipe_get]
      by_cases h : j ∈ vs
      · rw [if_pos h, if_pos (List.mem_cons_of_mem _ h)]
      · rw [if_neg h, if_neg (fun z => (List.mem_cons.mp z).elim (fun q => e q.symm) h)]
theorem wipe_eq {σ σ2 : L2.St} {vs sl : List Nat} (hs : ∀ j ∈ sl, j ∈ vs) (k : σ2.length = (L2.wipe σ vs).length ∧ ∀ j, j ∉ sl → σ2[j]? = (L2.wipe σ vs)[j]?) : L2.wipe σ2 vs = L2.wipe σ vs := by
  obtain ⟨hl, k⟩ := k
  rw [L2.wipe_length] at hl
  apply List.ext_getElem?
  intro j
  rw [wipe_get, wipe_get, hl]
  by_cases h : j ∈ vs
  · rw [if_pos h, if_pos h]
  · rw [if_neg h, if_neg h, k j fun z => h (hs j z), wipe_get, if_neg h]

def STs (X : Cx) (ifs : List Expr) (f : Ev Bool) : Prop := PTs X ifs (tT X.mg f)
def cYes : Ev Bool := fun _ M => .ok true M
theorem pts_imp {X : Cx} {ifs : List Expr} {t t' : TT} (h : PTs X ifs t') (i : ∀ σ H Q, t σ H Q → t' σ H Q) : PTs X ifs t := ⟨fun p s σ H Q I q => h.run p s σ H Q I (i _ _ _ q)⟩
theorem sts_nil {X : Cx} : STs X [] cYes := pts_imp pts_nil fun σ H Q ⟨w, τ, e, g, n, q⟩ => by subst e; exact q w (.refl w) g rfl
theorem sts_one {X : Cx} {c : Expr} {f : Ev Bool} (h : ST X c f) : STs X [c] f := pts_one h

def compL (g : Tg) (c : Ev Bool) (f : Ev T) (τ : Tau) : List T → Sto → Res (List T)
  | [], M => .ok [] M
  | t :: ts, M => (g t τ M).bind fun τ1 M1 => (c τ1 M1).bind fun b M2 => if b then (f τ1 M2).bind fun y M3 => (compL g c f τ ts M3).bind fun ys M4 => .ok (y :: ys) M4 else compL g c f τ ts M2
def eComp (fi : Ev (List T)) (g : Tg) (c : Ev Bool) (f : Ev T) (vs : List Nat) : Ev T := fun τ M => (fi τ M).bind fun ts M1 => if ts.length ≤ 16777216 then (compL g c f (wipeT τ vs) ts M1).bind fun ys M2 => .ok (.lst ys) M2 else .stuck
section
variable {mg : Str → Option Value} {fi : Ev (List T)} {gt : Tg} {fc : Ev Bool} {fe : Ev T} {vs sl : List Nat}
theorem lc_turns {Q : VK} {w1 : Wd} {σ : L2.St} {τ : Tau} {J : It} {ts : List T} {D : Addr} (hs : ∀ j ∈ sl, j ∈ vs) (g1 : Good mg w1) (n : Nm w1 σ τ) (y : Yld mg J w1 ts) (hl : ts.length ≤ 16777216) (hD : w1.H D = none)
    (q : (compL gt fc fe (wipeT τ vs) ts w1.M).all fun ys M' => ∀ w2 v, Ext w1 w2 → Good mg w2 → w2.M = M' → Rep w2 v (.lst ys) → Fr mg w1 w2 v (.lst ys) → Q v w2.H) :
    ∃ W : Nat → Nat → Hp → Prop, (∃ m, W 0 m (upd w1.H D (.lst []))) ∧ ∀ i m H, W i m H →
      (J.stop i H ∧ Q (.ref D) H) ∨ (J.go i H ∧ ∃ Nx : Hp → Prop, (∀ H', Nx H' → ∃ m', m' < m ∧ W (i + 1) m' H') ∧ ∀ x H', J.yld i H x H' → tG mg sl gt x (L2.wipe σ vs) H' fun σ2 H2 => L2.wipe σ2 vs = L2.wipe σ vs ∧ tT mg fc σ2 H2 fun b H3 =>
        if b = true then tE mg false fe σ2 H3 fun y H4 => ∃ acc, H4 D = some (.lst acc) ∧ acc.length < sizeLine ∧ Nx (upd H4 D (.lst (acc ++ [y]))) else Nx H3) := by
  refine ⟨fun i m H => m = ts.length - i ∧ i ≤ ts.length ∧ ∃ wi accV accT, wi.H = H ∧ Good mg wi ∧ Ext w1 wi ∧ wi.R D ∧ wi.H D = some (.lst accV) ∧ RepL wi accV accT ∧ accV.length ≤ i ∧
      ((compL gt fc fe (wipeT τ vs) (ts.drop i) wi.M).all fun ys M' => ∀ w2 v, Ext w1 w2 → Good mg w2 → w2.M = M' → Rep w2 v (.lst (accT ++ ys)) → Fr mg w1 w2 v (.lst (accT ++ ys)) → Q v w2.H),
    ⟨ts.length, by simp, Nat.zero_le _, w1.hold D (.lst []), [], [], rfl, g1.hold hD, Ext.hold g1 hD, .inr rfl, upd_same, .nil, Nat.le_refl _, by rw [List.drop_zero]; exact q⟩, ?_⟩
  rintro i m H ⟨rfl, hi, wi, accV, accT, rfl, gi, xi, RD, eD, rl, hacc, q'⟩
  by_cases hlt : i < ts.length
  · refine .inr ⟨y.go i wi xi.toKF gi hlt, fun H' => i + 1 ≤ ts.length ∧ ∃ wi accV accT, wi.H = H' ∧ Good mg wi ∧ Ext w1 wi ∧ wi.R D ∧ wi.H D = some (.lst accV) ∧ RepL wi accV accT ∧ accV.length ≤ i + 1 ∧
      ((compL gt fc fe (wipeT τ vs) (ts.drop (i + 1)) wi.M).all fun ys M' => ∀ w2 v, Ext w1 w2 → Good mg w2 → w2.M = M' → Rep w2 v (.lst (accT ++ ys)) → Fr mg w1 w2 v (.lst (accT ++ ys)) → Q v w2.H), fun H' ⟨h, r⟩ => ⟨ts.length - (i + 1), by omega, rfl, h, r⟩, fun x H' hy => ?_⟩
    rw [List.drop_eq_getElem_cons hlt] at q'
    obtain ⟨w2, rfl, x2, g2, m2, r2⟩ := y.yl i wi x H' xi.toKF gi hy _ (List.getElem?_eq_getElem hlt)
    rw [← m2] at q'
    refine ⟨w2, wipeT τ vs, _, rfl, g2, (n.wipe vs).mono (xi.trans x2), r2, Res.all_mono (fun τ1 M1 q w3 σ2 x3 g3 e3 n3 k3 => ?_) (Res.all_bind q')⟩
    subst e3
    refine ⟨wipe_eq hs k3, w3, τ1, rfl, g3, n3, Res.all_mono (fun b M2 q w4 x4 g4 e4 => ?_) (Res.all_bind q)⟩
    subst e4
    cases b with
    | false =>
      have xx := (x2.trans x3).trans x4
      exact ⟨hlt, w4, accV, accT, rfl, g4, xi.trans xx, xx.R D RD, (xx.Rk D RD).trans eD, rl.mono xx, by omega, q⟩
    | true =>
      refine ⟨w4, τ1, rfl, g4, n3.mono x4, Res.all_mono (fun t M3 q w5 v x5 g5 e5 r5 _ => ?_) (Res.all_bind q)⟩
      subst e5
      have xx := ((x2.trans x3).trans x4).trans x5
      have RD5 := xx.R D RD
      refine ⟨accV, (xx.Rk D RD).trans eD, by rw [line_eq]; omega, hlt, w5.wrR D (.lst (accV ++ [v])), accV ++ [v], accT ++ [t], rfl, g5.wrR RD5, Ext.wrR (xi.trans xx) g5 g1 hD RD5, RD5, upd_same, ?_, ?_, ?_⟩
      · exact ((rl.mono xx).append (.cons r5 .nil)).kept (Keep.wrR RD5)
      · rw [List.length_append]; show accV.length + 1 ≤ _; omega
      · refine Res.all_mono (fun ys M' h w6 v6 => ?_) (Res.all_bind q)
        rw [List.append_assoc]
        exact h w6 v6
  · have e : ts.drop i = [] := List.drop_of_length_le (by omega)
    rw [e] at q'
    refine .inl ⟨y.stop i wi xi.toKF gi (by omega), ?_⟩
    have q' := q' ((wi.cut D w1.R).put D (.lst accV)) (.ref D)
    rw [List.append_nil] at q'
    have hn : (wi.cut D w1.R).H D = none := if_pos rfl
    have gc := gi.cut xi g1 hD RD
    have rc : RepL (wi.cut D w1.R) accV accT := rl.kept (Keep.cut RD xi.R)
    have q' := q' ((Ext.cut xi g1 hD RD).trans (Ext.put gc hn)) (gc.put hn) rfl (put_lst gc hn rc) ⟨wi.cut D w1.R, D, rfl, Ext.cut xi g1 hD RD, gc, hn, .inl ⟨accV, accT, rfl, rc, rfl⟩⟩
    rw [cut_put eD] at q'
    exact q'
theorem lc_imp {Q : VK} {σ : L2.St} {H : Hp} (hs : ∀ j ∈ sl, j ∈ vs) (h : tE mg true (eComp fi gt fc fe vs) σ H Q) : tLc (tI mg fi) (tG mg sl gt) (tT mg fc) (tE mg false fe) vs σ H Q := by
  obtain ⟨w, τ, rfl, g, n, q⟩ := h
  refine ⟨w, τ, rfl, g, n, Res.all_mono (fun ts M' q w1 J x1 g1 e1 y D hD => ?_) (Res.all_bind q)⟩
  subst e1
  split at q
  · rename_i hl
    refine lc_turns hs g1 (n.mono x1) y hl hD (Res.all_mono (fun ys M2 q w2 v x2 g2 e2 r2 f2 => ?_) (Res.all_bind q))
    exact q w2 v (x1.trans x2) g2 e2 r2 fun _ => f2.ext x1
  · exact q.elim
end
section
variable {X : Cx} {elt tg iter : Expr} {ifs : List Expr} {scope : Scope} {pos : Pos} {fi : Ev (List T)} {gt : Tg} {fc : Ev Bool} {fe : Ev T} {sl : List Nat} {F : Bool}
theorem se_comp (own : List (Str × Nat)) (hN : X.N.Nodup) (hi : SI X tg iter fi) (hg : ∀ (s : Shared) (H : Hp) (C : Addr) (cl : List (Str × Addr)) (fp : List Addr), SG sl (X.blk s H scope (compEnvC scope cl C X.env) fp) tg gt)
    (ht : ∀ (s : Shared) (H : Hp) (C : Addr) (cl : List (Str × Addr)) (fp : List Addr), STs (X.blk s H scope (compEnvC scope cl C X.env) fp) ifs fc) (he : ∀ (s : Shared) (H : Hp) (C : Addr) (cl : List (Str × Addr)) (fp : List Addr), SE false (X.blk s H scope (compEnvC scope cl C X.env) fp) elt fe)
    (ok : blkC X.N X.env.scope scope own = true := by decide +kernel) (hsl : ∀ j ∈ sl, j ∈ own.map (·.2) := by decide) (hc : X.calm = true := by rfl) (hs : ∀ x, foldedSetIterable iter X.env x = pure x := by intro _; rfl) :
    SE true X (.ListComp elt [⟨tg, iter, ifs, 0⟩] scope pos) (eComp fi gt fc fe (own.map (·.2))) :=
  pe_imp (pe_lc (g := tG X.mg sl gt) (tt := tT X.mg fc) (te := tE X.mg false fe) hc hN hi (blkOk_by ok) hg ht he hs) fun σ H Q h => lc_imp hsl h
/-- y = [..] on one line -/
theorem ss_setLc {i : Nat} {y : Str} {py spos : Pos} (own : List (Str × Nat)) (hN : X.N.Nodup) (hi : SI X tg iter fi) (hg : ∀ (s : Shared) (H : Hp) (C : Addr) (cl : List (Str × Addr)) (fp : List Addr), SG sl (X.blk s H scope (compEnvC scope cl C X.env) fp) tg gt)
    (ht : ∀ (s : Shared) (H : Hp) (C : Addr) (cl : List (Str × Addr)) (fp : List Addr), STs (X.blk s H scope (compEnvC scope cl C X.env) fp) ifs fc) (he : ∀ (s : Shared) (H : Hp) (C : Addr) (cl : List (Str × Addr)) (fp : List Addr), SE false (X.blk s H scope (compEnvC scope cl C X.env) fp) elt fe)
    (hsw : swapsWith (.ListComp elt [⟨tg, iter, ifs, 0⟩] scope pos) (some (.Name y py)) spos.line X.env = pure true := by exact sw_true rfl rfl rfl (by decide +kernel))
    (ok : blkC X.N X.env.scope scope own = true := by decide +kernel) (hsl : ∀ j ∈ sl, j ∈ own.map (·.2) := by decide) (hy : X.N[i]? = some y := by rfl) (hyl : X.env.scope.names.lookup y = some .local := by rfl) (hc : X.calm = true := by rfl) (hs : ∀ x, foldedSetIterable iter X.env x = pure x := by intro _; rfl) :
    SS F X (.Assign [.Name y py] (.ListComp elt [⟨tg, iter, ifs, 0⟩] scope pos) spos) (sAsg (eComp fi gt fc fe (own.map (·.2))) (gN i)) := by
  refine ps_imp (ps_setLc (g := tG X.mg sl gt) (tt := tT X.mg fc) (te := tE X.mg false fe) hc hN hy hyl hsw hi (blkOk_by ok) hg ht he hs) fun D σ H ⟨w, τ, e, g, n, q⟩ => ?_
  subst e
  refine lc_imp hsl ⟨w, τ, rfl, g, n, Res.all_mono (fun t M' q w1 v x1 g1 e1 r1 _ => ?_) (Res.all_bind q)⟩
  subst e1
  refine gName_imp ⟨w1, τ, t, rfl, g1, n.mono x1, r1, Res.all_mono (fun τ' M2 q w2 σ' x2 g2 e2 n2 _ => ?_) (Res.all_bind q)⟩
  exact q w2 (x1.trans x2) g2 e2 σ' n2
end
end TL
end
section
set_option Elab.async false
set_option linter.all false
set_option maxRecDepth 100000
/-! TL10: defs, methods, instances, attributes, methods of lists, isinstance, ranges. -/
namespace TL
open PySem PySem.Spec PyProof.Rows L2

/-! ### defs -/
def spRun (mg : Str → Option Value) (F : Bool) (n : Nat) (g : List T → Sto → Res T) : Sp := fun vs H Q _ => vs.length = n ∧ ∃ w ts, w.H = H ∧ Good mg w ∧ RepL w vs ts ∧ post mg F Q w (g ts w.M)
def fnRun (F : Bool) (N : Nat) (body : Ev Fl) : List T → Sto → Res T := fun ts M => (body (ts.map some ++ List.replicate (N - ts.length) none) M).bind fun fl M' => match fl with
  | .nx _ => match F with
    | true => .stuck
    | false => .ok .non M'
  | .rt t => .ok t M'
  | _ => .stuck
theorem nm_start {w : Wd} {N : List Str} {vs : List V} {ts : List T} (r : RepL w vs ts) : Nm w (L2.start N vs) (ts.map some ++ List.replicate (N.length - ts.length) none) := by
  refine ⟨by unfold L2.start; simp [r.length], fun i t h => ?_⟩
  unfold L2.start
  by_cases hi : i < ts.length
  · rw [List.getElem?_append_left (by simpa using hi), List.getElem?_map] at h
    cases ht : ts[i]? with
    | none => rw [ht] at h; cases h
    | some u =>
      rw [ht] at h
      cases h
      obtain ⟨v, h1, h2⟩ := r.get ht
      exact ⟨v, by rw [List.getElem?_append_left (by rw [List.length_map, r.length]; exact hi), List.getElem?_map, h1]; rfl, h2⟩
  · rw [List.getElem?_append_right (by simpa using hi)] at h
    have : ∀ x ∈ List.replicate (N.length - ts.length) (none : Option T), x = none := fun x hx => (List.mem_replicate.mp hx).2
    have h2 := this _ (List.mem_of_getElem? h)
    cases h2
section
variable {P : Program} {w : World} {K : PySem.W.Frag} {mg : Str → Option Value} {base : Heap}
theorem fn_ok {x qual : Str} {params : Arguments} {body : List Stmt} {scope : Scope} {dvs : List V} {kws : List (Str × V)} {f : Addr} {fd : FuncData} {N ps : List Str} {k : Nat} {F : Bool} {fb : Ev Fl}
    (F0 : FunD K x qual params body scope dvs kws f fd) (S : FnScope N ps scope)
    (hb : ∀ (cdv : Value) (A : Around) (outer : List PySem.Env) (s : Shared) (H : Hp) (E : XK), Room k (A.deeper (envOfC qual scope s.heap.objs.size f cdv)) → SB F (cxOf CX0 P w K mg base N qual scope f cdv A outer s H E).nox body fb) :
    FnOk P w K mg base CX0 (k + 1) f fd ps (spRun mg F ps.length (fnRun F N.length fb)) := by
  refine F0.ok S (fun vs H Q E h => h.1) fun cdv A outer s H vs Q E hr h => ?_
  obtain ⟨hl, w0, ts, rfl, g, r, q⟩ := h
  refine ⟨_, PSs.nox (hb cdv A outer s w0.H E hr), w0, _, rfl, g, nm_start r, Res.all_mono (fun fl M' q w1 x1 g1 e1 => ?_) (Res.all_bind q)⟩
  subst e1
  cases fl with
  | nx τ =>
    cases F with
    | true => exact q.elim
    | false => exact fun σ' n' => q w1 .non x1 g1 rfl .non fun z => nomatch z
  | rt t => exact fun v r1 f1 => q w1 v x1 g1 rfl r1 f1
  | bk τ => exact q.elim
  | ct τ => exact q.elim
end

/-- a def is there, and keeps its promise -/
def CallF (P : Program) (w : World) (K : PySem.W.Frag) (mg : Str → Option Value) (base : Heap) (k : Nat) (x : Str) (F : Bool) (n : Nat) (dvs : List V) (g : List T → Sto → Res T) : Prop :=
  ∃ (f : Addr) (fd : FuncData) (ps : List Str) (ds : List Value), mg x = some (.ref f) ∧ PySem.W.keepIn K (.ref f) = true ∧ ps.length = n ∧ Binds K fd ps ds ∧ Vals dvs ds ∧ FnOk P w K mg base CX0 k f fd ps (spRun mg F n g)
def eCall (n : Nat) (dts : List T) (g : List T → Sto → Res T) (fs : Ev (List T)) : Ev T := fun τ M => (fs τ M).bind fun ts M' => if ts.length + dts.length = n then g (ts ++ dts) M' else .stuck
section
variable {X : Cx} {F : Bool} {fs : Ev (List T)} {e o : Expr} {es : List Expr} {p pos apos : Pos} {x m c : Str} {k n : Nat} {g : List T → Sto → Res T} {fe fo : Ev T} {dvs : List V} {dts : List T}
theorem se_call (C : CallF X.prog X.w X.K X.mg X.base k x F n dvs g) (hr : Room k X.A) (ha : SA X (e :: es) fs) (hdt : ∀ w, RepL w dvs dts := by exact fun _ => .nil) (hg : Gl X x := by rfl) (hdb : (x == ("__debug__" : Str)) = false := by decide)
    (he : starEach (e :: es) X.env = (false, eval e X.env) :: starEach es X.env := by rfl) (hpl : (backTo pos (starEach es X.env)).any (·.1) = false := by rfl) : SE F X (.Call (.Name x p) (e :: es) [] pos) (eCall n dts g fs) := by
  obtain ⟨f, fd, ps, ds, hm, hk, hn, hb, hd, Fn⟩ := C
  refine pe_imp (pe_call Fn hr hg hm hk hb hd pass0 ha hdb he hpl) fun σ H Q ⟨w, τ, e, g0, nm, q⟩ => ?_
  subst e
  refine ⟨w, τ, rfl, g0, nm, Res.all_mono (fun ts M' q w1 vs x1 g1 e1 r1 => ?_) (Res.all_bind q)⟩
  subst e1
  split at q
  · rename_i hl
    exact ⟨by rw [List.length_append, r1.length, (hdt w1).length]; exact hl, w1, ts ++ dts, rfl, g1, r1.append (hdt w1), post_ext q x1⟩
  · exact q.elim
theorem se_call0 (C : CallF X.prog X.w X.K X.mg X.base k x F n dvs g) (hr : Room k X.A) (hdt : ∀ w, RepL w dvs dts := by exact fun _ => .nil) (hg : Gl X x := by rfl) (hdb : (x == ("__debug__" : Str)) = false := by decide) : SE F X (.Call (.Name x p) [] [] pos) (eCall n dts g eNil) := by
  obtain ⟨f, fd, ps, ds, hm, hk, hn, hb, hd, Fn⟩ := C
  refine pe_imp (pe_call0 Fn hr hg hm hk hb hd pass0 hdb) fun σ H Q ⟨w, τ, e, g0, nm, q⟩ => ?_
  subst e
  have q : (if ([] : List T).length + dts.length = n then g ([] ++ dts) w.M else .stuck).all _ := q
  show spRun X.mg F n g ([] ++ dvs) w.H Q E0
  split at q
  · rename_i hl
    exact ⟨by rw [List.nil_append, (hdt w).length]; simpa using hl, w, dts, rfl, g0, hdt w, q⟩
  · exact q.elim

/-! ### instances -/
def lkF (f : Str) : List Str → List T → Option T
  | h :: fs, t :: ts => if h = f then some t else lkF f fs ts
  | _, _ => none
def putFs (f : Str) : List Str → List Str
  | [] => [f]
  | h :: fs => if h = f then h :: fs else h :: putFs f fs
def putFt (f : Str) (t : T) : List Str → List T → List T
  | h :: fs, u :: ts => if h = f then t :: ts else u :: putFt f t fs ts
  | _, _ => [t]
theorem lookup_cons' {f g : Str} {v : V} {fs : List (Str × V)} : ((g, v) :: fs).lookup f = if g = f then some v else fs.lookup f := by
  rw [List.lookup_cons]
  by_cases h : g = f
  · subst h; simp
  · have : (f == g) = false := by simpa using fun z => h z.symm
    rw [this, if_neg h]
theorem lkF_val {w : Wd} {f : Str} : ∀ {kvs : List (Str × V)} {ts : List T}, RepL w (kvs.map Prod.snd) ts →
    (∃ v t, kvs.lookup f = some v ∧ lkF f (kvs.map Prod.fst) ts = some t ∧ Rep w v t) ∨ (kvs.lookup f = none ∧ lkF f (kvs.map Prod.fst) ts = none)
  | [], _, .nil => .inr ⟨rfl, rfl⟩
  | (h, u) :: r, t :: ts, .cons q l => by
    rw [lookup_cons']
    show (∃ v t', _ ∧ (if h = f then some t else lkF f (r.map Prod.fst) ts) = some t' ∧ _) ∨ (_ ∧ (if h = f then some t else lkF f (r.map Prod.fst) ts) = none)
    by_cases e : h = f
    · rw [if_pos e, if_pos e]
      exact .inl ⟨u, t, rfl, rfl, q⟩
    · rw [if_neg e, if_neg e]
      exact lkF_val l
theorem putF_rep {w : Wd} {f : Str} {v : V} {t : T} (q : Rep w v t) : ∀ {kvs : List (Str × V)} {ts : List T}, RepL w (kvs.map Prod.snd) ts →
    (L2.putF f v kvs).map Prod.fst = putFs f (kvs.map Prod.fst) ∧ RepL w ((L2.putF f v kvs).map Prod.snd) (putFt f t (kvs.map Prod.fst) ts)
  | [], _, .nil => ⟨rfl, .cons q .nil⟩
  | (h, u) :: r, t' :: ts, .cons q' l => by
    obtain ⟨i1, i2⟩ := putF_rep (f := f) q l
    show (if h = f then (h, v) :: r else (h, u) :: L2.putF f v r).map Prod.fst = (if h = f then h :: r.map Prod.fst else h :: putFs f (r.map Prod.fst)) ∧ RepL w ((if h = f then (h, v) :: r else (h, u) :: L2.putF f v r).map Prod.snd) (if h = f then t :: ts else t' :: putFt f t (r.map Prod.fst) ts)
    by_cases e : h = f
    · rw [if_pos e, if_pos e, if_pos e]; exact ⟨rfl, .cons q l⟩
    · rw [if_neg e, if_neg e, if_neg e]; exact ⟨by rw [List.map_cons, i1], .cons q' i2⟩
/-- what is known of a class -/
def ClsF (K : PySem.W.Frag) (mg : Str → Option Value) (c : Str) (at_ : List Str) : Prop := ∃ C : Addr, mg c = some (.ref C) ∧ Cls K C ∧ (∀ f ∈ at_, NoAttr K C f) ∧
  PySem.W.findIn K (.ref C) "__class__" = some (some (.builtin "object.__class__")) ∧ PySem.W.specialIn K (.builtin "object.__class__") "__get__" = some (some (.builtin "getset_descriptor.__get__")) ∧
  PySem.W.takesIn K (.builtin "object.__class__") = some true ∧ PySem.W.mroIn K C (.type "object") = some true ∧ PySem.W.keepIn K (.ref C) = true
def kFld (c f : Str) : T → Sto → Res T
  | .ref n, M => match M.get n with
    | some (.ins c' fs ts) => if c' = c then match lkF f fs ts with
        | some t => .ok t M
        | none => .stuck
      else .stuck
    | _ => .stuck
  | _, _ => .stuck
theorem se_attr {at_ : List Str} {f : Str} (C : ClsF X.K X.mg c at_) (ho : SE false X o fo) (hf : f ∈ at_ := by decide) (hb : attributeBase o f X.env (eval o X.env) = eval o X.env := by rfl) : SE false X (.Attribute o f pos) (e1 (kFld c f) fo) := by
  obtain ⟨C0, hC, cl, na, _⟩ := C
  refine pe_imp (pe_fld ho hb) fun σ H Q ⟨w, τ, e, g, n, q⟩ => ?_
  subst e
  refine ⟨w, τ, rfl, g, n, Res.all_mono (fun t M' q w1 v x1 g1 e1 r1 _ => ?_) (Res.all_bind q)⟩
  subst e1
  unfold kFld at q
  split at q
  · split at q
    · rename_i hm
      split at q
      · rename_i ec
        rw [ec] at hm
        split at q
        · rename_i t ht
          cases r1 with
          | ref n hn =>
            obtain ⟨_, _, C1, dx, kvs, h1, h2, h3, h4⟩ := g1.own _ _ hm
            rw [hC] at h1
            cases h1
            subst h3
            rcases lkF_val (f := f) h4 with ⟨v, t', a1, a2, a3⟩ | ⟨a1, a2⟩
            · rw [ht] at a2
              cases a2
              exact ⟨_, _, dx, kvs, v, rfl, h2, cl, na f hf, a1, post_ok (post_ext q x1) g1 a3⟩
            · rw [ht] at a2; cases a2
        · exact q.elim
      · exact q.elim
    · exact q.elim
  · exact q.elim
def sFld (c f : Str) (fo fv : Ev T) : Ev Fl := fun τ M => (fv τ M).bind fun t M1 => (fo τ M1).bind fun u M2 => match u with
  | .ref n => match M2.get n with
    | some (.ins c' fs ts) => if c' = c ∧ fs.length < 1000 then .ok (.nx τ) (M2.set n (.ins c (putFs f fs) (putFt f t fs ts))) else .stuck
    | _ => .stuck
  | _ => .stuck
theorem ss_fld {at_ : List Str} {f : Str} {pos' : Pos} (C : ClsF X.K X.mg c at_) (ho : SE false X o fo) (hv : SE false X e fe) (hf : f ∈ at_ := by decide) (hs : swapsWith e (some (.Attribute o f pos')) pos.line X.env = pure false := by rfl) : SS F X (.Assign [.Attribute o f pos'] e pos) (sFld c f fo fe) := by
  obtain ⟨C0, hC, cl, na, _⟩ := C
  refine ps_imp (ps_fld ho hv hs) fun D σ H ⟨w, τ, e, g, n, q⟩ => ?_
  subst e
  refine ⟨w, τ, rfl, g, n, Res.all_mono (fun t M' q w1 v x1 g1 e1 r1 _ => ?_) (Res.all_bind q)⟩
  subst e1
  refine ⟨w1, τ, rfl, g1, n.mono x1, Res.all_mono (fun u M2 q w2 z x2 g2 e2 r2 _ => ?_) (Res.all_bind q)⟩
  subst e2
  split at q
  · split at q
    · rename_i c0 fs0 ts0 hm
      split at q
      · rename_i ec
        obtain ⟨ec, hl⟩ := ec
        rw [ec] at hm
        cases r2 with
        | ref n0 hn =>
          obtain ⟨_, _, C1, dx, kvs, h1, h2, h3, h4⟩ := g2.own _ _ hm
          rw [hC] at h1
          cases h1
          subst h3
          have x3 := Ext.wr (ho := .ins C0 dx (L2.putF f v kvs)) (o := .ins c (putFs f (kvs.map Prod.fst)) (putFt f t (kvs.map Prod.fst) ts0)) g2 hm
          obtain ⟨i1, i2⟩ := putF_rep (f := f) ((r1.mono x2).mono x3) (h4.mono x3)
          have g3 := g2.wr hm (ho := .ins C0 dx (L2.putF f v kvs)) (o := .ins c (putFs f (kvs.map Prod.fst)) (putFt f t (kvs.map Prod.fst) ts0)) ⟨C0, dx, _, hC, rfl, i1, i2⟩
          exact ⟨_, _, dx, kvs, rfl, h2, cl, na f hf, by simpa using hl, q _ ((x1.trans x2).trans x3) g3 rfl σ (((n.mono x1).mono x2).mono x3)⟩
      · exact q.elim
    · exact q.elim
  · exact q.elim
/-- a method is there, and keeps its promise -/
def MethF (P : Program) (w : World) (K : PySem.W.Frag) (mg : Str → Option Value) (base : Heap) (k : Nat) (c m : Str) (F : Bool) (n : Nat) (dvs : List V) (g : List T → Sto → Res T) : Prop :=
  ∃ (C f : Addr) (fd : FuncData) (ps : List Str) (ds : List Value), mg c = some (.ref C) ∧ Cls K C ∧ Meth K C m f ∧ ps.length = n ∧ Binds K fd ps ds ∧ Vals dvs ds ∧ FnOk P w K mg base CX0 k f fd ps (spRun mg F n g)
def eMeth (c m : Str) (n : Nat) (dts : List T) (g : List T → Sto → Res T) (fo : Ev T) (fs : Ev (List T)) : Ev T := fun τ M => (fo τ M).bind fun t M1 => match t with
  | .ref k => match M1.get k with
    | some (.ins c' fls us) => if c' = c then match lkF m fls us with
        | none => (fs τ M1).bind fun ts M2 => if ts.length + dts.length + 1 = n then g (.ref k :: (ts ++ dts)) M2 else .stuck
        | some _ => .stuck
      else .stuck
    | _ => .stuck
  | _ => .stuck
theorem meth_imp {C0 : Addr} {fs : Ev (List T)} (hC : X.mg c = some (.ref C0)) (hdt : ∀ w, RepL w dvs dts) {σ : L2.St} {H : Hp} {Q : VK} {E : XK} (h : tE X.mg F (eMeth c m n dts g fo fs) σ H Q) :
    tMeth C0 m (spRun X.mg F n g) dvs E (tE X.mg false fo) (tA X.mg fs) σ H Q := by
  obtain ⟨w, τ, rfl, g0, nm, q⟩ := h
  refine ⟨w, τ, rfl, g0, nm, Res.all_mono (fun t M' q w1 v x1 g1 e1 r1 _ => ?_) (Res.all_bind q)⟩
  subst e1
  split at q
  · split at q
    · rename_i hm
      split at q
      · rename_i ec
        rw [ec] at hm
        split at q
        · rename_i hn
          have rk := r1
          cases r1 with
          | ref k0 hk =>
            obtain ⟨_, _, C1, dx, kvs, h1, h2, h3, h4⟩ := g1.own _ _ hm
            rw [hC] at h1
            cases h1
            subst h3
            have hl : kvs.lookup m = none := by
              rcases lkF_val (f := m) h4 with ⟨v, t', a1, a2, a3⟩ | ⟨a1, a2⟩
              · rw [hn] at a2; cases a2
              · exact a1
            refine ⟨_, dx, kvs, rfl, h2, hl, w1, τ, rfl, g1, nm.mono x1, Res.all_mono (fun ts M2 q w2 vs x2 g2 e2 r2 => ?_) (Res.all_bind q)⟩
            subst e2
            split at q
            · rename_i hl
              exact ⟨by rw [List.length_cons, List.length_append, r2.length, (hdt w2).length]; exact hl, w2, _, rfl, g2, .cons (rk.mono x2) (r2.append (hdt w2)), post_ext q (x1.trans x2)⟩
            · exact q.elim
        · exact q.elim
      · exact q.elim
    · exact q.elim
  · exact q.elim
theorem se_meth {pl : Sem Bool} (C : MethF X.prog X.w X.K X.mg X.base k c m F n dvs g) (hr : Room k X.A) (ho : SE false X o fo) (ha : SA X (e :: es) fs) (hdt : ∀ w, RepL w dvs dts := by exact fun _ => .nil)
    (hst : starEach (e :: es) X.env = (false, eval e X.env) :: starEach es X.env := by rfl) (hpl : (backTo pos (starEach es X.env)).any (·.1) = false := by rfl)
    (ht : eval (.Call (.Attribute o m apos) (e :: es) [] pos) X.env = (do
      let ov ← eval o X.env
      standAt apos.atName
      let (f, first) ← holding [ov] (getMethod ov m pl)
      callWith pos f first (backTo pos (starEach (e :: es) X.env)) (backToKw pos (keywordEach [] X.env))) := by rfl) : SE F X (.Call (.Attribute o m apos) (e :: es) [] pos) (eMeth c m n dts g fo fs) := by
  obtain ⟨C0, f, fd, ps, ds, hC, cl, hm, hn, hb, hd, Fn⟩ := C
  exact pe_imp (pe_meth ho cl hm Fn hr hb hd pass0 ha hst hpl ht) fun σ H Q h => meth_imp hC hdt h
theorem se_meth0 {pl : Sem Bool} (C : MethF X.prog X.w X.K X.mg X.base k c m F n dvs g) (hr : Room k X.A) (ho : SE false X o fo) (hdt : ∀ w, RepL w dvs dts := by exact fun _ => .nil)
    (ht : eval (.Call (.Attribute o m apos) [] [] pos) X.env = (do
      let ov ← eval o X.env
      standAt apos.atName
      let (f, first) ← holding [ov] (getMethod ov m pl)
      callWith pos f first (backTo pos (starEach [] X.env)) (backToKw pos (keywordEach [] X.env))) := by rfl) : SE F X (.Call (.Attribute o m apos) [] [] pos) (eMeth c m n dts g fo eNil) := by
  obtain ⟨C0, f, fd, ps, ds, hC, cl, hm, hn, hb, hd, Fn⟩ := C
  refine pe_imp (pe_meth0 ho cl hm Fn hr hb hd pass0 ht) fun σ H Q h => ?_
  obtain ⟨w, τ, rfl, g0, nm, q⟩ := meth_imp (E := E0) hC hdt h
  refine ⟨w, τ, rfl, g0, nm, Res.all_mono (fun t M' q w1 v x1 g1 e1 r1 f1 => ?_) q⟩
  obtain ⟨a, dx, fs, h1, h2, h3, w2, τ2, e2, g2, n2, q2⟩ := q w1 v x1 g1 e1 r1 f1
  refine ⟨a, dx, fs, h1, h2, h3, ?_⟩
  show spRun _ _ _ _ _ w1.H Q E0
  rw [← e2]
  exact q2 w2 [] (.refl w2) g2 rfl .nil
/-- a class makes instances -/
def MakeF (P : Program) (w : World) (K : PySem.W.Frag) (mg : Str → Option Value) (base : Heap) (k : Nat) (c : Str) (n : Nat) (dvs : List V) (g : List T → Sto → Res T) : Prop :=
  ∃ (C f : Addr) (fd : FuncData) (ps : List Str) (ds : List Value), mg c = some (.ref C) ∧ Mk K C f ∧ ps.length = n ∧ Binds K fd ps ds ∧ Vals dvs ds ∧ FnOk P w K mg base CX0 k f fd ps (spRun mg false n g)
def eMake (c : Str) (n : Nat) (dts : List T) (g : List T → Sto → Res T) (fs : Ev (List T)) : Ev T := fun τ M => (fs τ M).bind fun ts M1 => if ts.length + dts.length + 1 = n then (g (.ref M1.nx :: (ts ++ dts)) (M1.add (.ins c [] []))).bind fun t M2 => match t with
    | .non => .ok (.ref M1.nx) M2
    | _ => .stuck
  else .stuck
theorem se_make (C : MakeF X.prog X.w X.K X.mg X.base k c n dvs g) (hr : Room (k + 1) X.A) (ha : SA X (e :: es) fs) (hdt : ∀ w, RepL w dvs dts := by exact fun _ => .nil) (hg : Gl X c := by rfl) (hdb : (c == ("__debug__" : Str)) = false := by decide)
    (he : starEach (e :: es) X.env = (false, eval e X.env) :: starEach es X.env := by rfl) (hpl : (backTo pos (starEach es X.env)).any (·.1) = false := by rfl) : SE false X (.Call (.Name c p) (e :: es) [] pos) (eMake c n dts g fs) := by
  obtain ⟨C0, f, fd, ps, ds, hC, mk, hn, hb, hd, Fn⟩ := C
  refine pe_imp (pe_make mk Fn hr hg hC hb hd pass0 ha hdb he hpl) fun σ H Q ⟨w, τ, e, g0, nm, q⟩ => ?_
  subst e
  refine ⟨w, τ, rfl, g0, nm, Res.all_mono (fun ts M' q w1 vs x1 g1 e1 r1 x dx hx hdx hne => ?_) (Res.all_bind q)⟩
  subst e1
  split at q
  · rename_i hl
    have gd := g1.put (o := .own x) hdx
    have xd := Ext.put (o := .own x) g1 hdx
    have hx' : (w1.put dx (.own x)).H x = none := by
      show upd w1.H dx (.own x) x = none
      rw [upd_ne hne.symm]; exact hx
    have gn := gd.new (ho := .ins C0 dx []) (o := .ins c [] []) hx' ⟨C0, dx, [], hC, rfl, rfl, .nil⟩
    have xn : Ext (w1.put dx (.own x)) ((w1.put dx (.own x)).new x (.ins C0 dx []) (.ins c [] [])) := Ext.new gd hx'
    have rr : Rep ((w1.put dx (.own x)).new x (.ins C0 dx []) (.ins c [] [])) (.ref x) (.ref w1.M.nx) := new_ref
    refine ⟨by rw [List.length_cons, List.length_append, r1.length, (hdt w1).length]; exact hl, (w1.put dx (.own x)).new x (.ins C0 dx []) (.ins c [] []), .ref w1.M.nx :: (ts ++ dts), rfl, gn, .cons rr (((r1.mono xd).mono xn).append (hdt _)), Res.all_mono (fun t M2 q w2 v x2 g2 e2 r2 _ => ?_) (Res.all_bind q)⟩
    subst e2
    split at q
    · cases r2
      exact ⟨rfl, q w2 (.ref x) (((x1.trans xd).trans xn).trans x2) g2 rfl (rr.mono x2) fun z => nomatch z⟩
    · exact q.elim
  · exact q.elim

end
end TL
end
section
set_option Elab.async false
set_option linter.all false
set_option maxRecDepth 100000
/-! TL11: methods of lists and dicts, stores at a place, isinstance, ranges, sets' sizes. -/
namespace TL
open PySem PySem.Spec PyProof.Rows L2
section
variable {mg : Str → Option Value} {w : Wd} {n : Nat}
theorem wr_lst {ts ts' : List T} {vs' : List V} {u : MO} (g : Good mg w) (h : w.M.get n = some u) (r : RepL w vs' ts') :
    Ext w (w.wr n (.lst vs') (.lst ts')) ∧ Good mg (w.wr n (.lst vs') (.lst ts')) :=
  ⟨Ext.wr g h, g.wr h ⟨vs', rfl, r.mono (Ext.wr g h)⟩⟩
theorem wr_dic {kvs : List (Key × V)} {ks : List Key} {ts' : List T} {u : MO} (g : Good mg w) (h : w.M.get n = some u) (e : kvs.map Prod.fst = ks) (d : ks.Nodup) (r : RepL w (kvs.map Prod.snd) ts') :
    Ext w (w.wr n (.dK kvs) (.dic ks ts')) ∧ Good mg (w.wr n (.dK kvs) (.dic ks ts')) :=
  ⟨Ext.wr g h, g.wr h ⟨kvs, rfl, e, d, r.mono (Ext.wr g h)⟩⟩
end
def isL : T → Sto → Bool
  | .lst _, _ => true
  | .ref n, M => match M.get n with
    | some (.lst _) => true
    | _ => false
  | _, _ => false
theorem isL_ty {K : PySem.W.Frag} {mg : Str → Option Value} {w : Wd} {v : V} {t : T} (g : Good mg w) (r : Rep w v t) (h : isL t w.M = true) : tyV K "list" v w.H := by
  cases r with
  | lst n d l => exact .inl ⟨rfl, _, .inl d⟩
  | ref n hn =>
    simp only [isL] at h
    split at h
    · rename_i ts hm
      obtain ⟨_, _, vs, e, l⟩ := g.own _ _ hm
      exact .inl ⟨rfl, _, .of e⟩
    · cases h
  | _ => simp [isL] at h
def eBm (k : T → List T → Sto → Res T) (fo : Ev T) (fs : Ev (List T)) : Ev T := fun τ M => (fo τ M).bind fun o M1 => if isL o M1 then (fs τ M1).bind fun ts M2 => k o ts M2 else .stuck
section
variable {X : Cx} {F : Bool} {fs : Ev (List T)} {e o a b : Expr} {es : List Expr} {p pos apos cpos : Pos} {fe fo fa fb : Ev T}
theorem se_bmL {name : Str} {id : String} {k : T → List T → Sto → Res T} {r : V → List V → Hp → VK → Prop} (slot : Slot "list" name id) (hty : typeOf (.builtin id) = pure (.type "method_descriptor")) (hm : MtR X id r)
    (hr : ∀ w x vs o ts Q, Good X.mg w → Rep w x o → RepL w vs ts → post X.mg F Q w (k o ts w.M) → r x vs w.H Q) (ho : SE false X o fo) (ha : SA X (e :: es) fs) (hbase : attributeBase o name X.env (eval o X.env) = eval o X.env)
    (hfew : ((backTo cpos (starEach (e :: es) X.env)).all (fun x => !x.1) && (backToKw cpos (keywordEach [] X.env)).all (fun x => x.1.isSome)
      && decide ((e :: es).length + ([] : List Keyword).length + (if ([] : List Keyword).isEmpty then 0 else 1) < 30)) = true)
    (hline : (apos.endLine == cpos.line) = true) (hs : starEach (e :: es) X.env = (false, eval e X.env) :: starEach es X.env) (hplain : (backTo cpos (starEach es X.env)).any (·.1) = false) :
    SE F X (.Call (.Attribute o name apos) (e :: es) [] cpos) (eBm k fo fs) := by
  refine pe_imp (pe_bm PySem.F.plainAttrs_list slot hty hm ho ha hbase hfew hline hs hplain) fun σ H Q ⟨w, τ, e, g, n, q⟩ => ?_
  subst e
  refine ⟨w, τ, rfl, g, n, Res.all_mono (fun t M' q w1 v x1 g1 e1 r1 _ => ?_) (Res.all_bind q)⟩
  subst e1
  split at q
  · rename_i hL
    refine ⟨isL_ty g1 r1 hL, w1, τ, rfl, g1, n.mono x1, Res.all_mono (fun ts M2 q w2 vs x2 g2 e2 r2 => ?_) (Res.all_bind q)⟩
    subst e2
    exact hr w2 v vs t ts Q g2 (r1.mono x2) r2 (post_ext q (x1.trans x2))
  · exact q.elim
def kApp : T → List T → Sto → Res T
  | .ref n, [t], M => match M.get n with
    | some (.lst ts) => if ts.length < 16777216 then .ok .non (M.set n (.lst (ts ++ [t]))) else .stuck
    | _ => .stuck
  | _, _, _ => .stuck
def kExt : T → List T → Sto → Res T
  | .ref n, [.lst us], M => match M.get n with
    | some (.lst ts) => if ts.length + us.length ≤ 16777216 then .ok .non (M.set n (.lst (ts ++ us))) else .stuck
    | _ => .stuck
  | _, _, _ => .stuck
def kIns : T → List T → Sto → Res T
  | .ref n, [.int i, t], M => match M.get n with
    | some (.lst ts) => if ts.length < 16777216 ∧ 0 ≤ i ∧ i < 9223372036854775808 then .ok .non (M.set n (.lst (ts.take i.toNat ++ [t] ++ ts.drop i.toNat))) else .stuck
    | _ => .stuck
  | _, _, _ => .stuck
def ixV (y : V) : List V → Option Nat
  | [] => none
  | v :: vs => if eqV v y then some 0 else match ixV y vs with
    | some j => some (j + 1)
    | none => none
theorem ixV_ok {y : V} : ∀ {vs : List V} {j : Nat}, ixV y vs = some j → (∃ z, vs[j]? = some z ∧ eqV z y = true) ∧ ∀ (m : Nat) (z' : V), m < j → vs[m]? = some z' → eqV z' y = false
  | [], _, h => by cases h
  | v :: vs, j, h => by
    unfold ixV at h
    split at h
    · rename_i hv
      cases h
      exact ⟨⟨v, rfl, hv⟩, fun m z hm => absurd hm (Nat.not_lt_zero m)⟩
    · rename_i hv
      split at h
      · rename_i j' hj
        cases h
        obtain ⟨h1, h2⟩ := ixV_ok hj
        refine ⟨h1, fun m z hm hz => ?_⟩
        cases m with
        | zero =>
          have e : v = z := by simpa using hz
          rw [← e]
          simpa using hv
        | succ m => exact h2 m z (by omega) (by simpa using hz)
      · cases h
def kIdx : T → List T → Sto → Res T
  | .lst ts, [t], M => match flT t, flTs ts with
    | some v, some vs => match ixV v vs with
      | some j => .ok (.int (j : Nat)) M
      | none => .stuck
    | _, _ => .stuck
  | _, _, _ => .stuck
theorem se_append (ho : SE false X o fo) (ha : SA X (e :: es) fs) (hbase : attributeBase o "append" X.env (eval o X.env) = eval o X.env := by rfl)
    (hfew : ((backTo cpos (starEach (e :: es) X.env)).all (fun x => !x.1) && (backToKw cpos (keywordEach [] X.env)).all (fun x => x.1.isSome) && decide ((e :: es).length + ([] : List Keyword).length + (if ([] : List Keyword).isEmpty then 0 else 1) < 30)) = true := by rfl)
    (hline : (apos.endLine == cpos.line) = true := by rfl) (hs : starEach (e :: es) X.env = (false, eval e X.env) :: starEach es X.env := by rfl) (hplain : (backTo cpos (starEach es X.env)).any (·.1) = false := by rfl) :
    SE false X (.Call (.Attribute o "append" apos) (e :: es) [] cpos) (eBm kApp fo fs) := by
  refine se_bmL PySem.F.slot_list_append PySem.F.type_list_append mt_append (fun w x vs o ts Q g r rs q => ?_) ho ha hbase hfew hline hs hplain
  unfold kApp at q
  split at q
  · obtain ⟨v, rfl, r1⟩ := repL1 rs
    split at q
    · rename_i us hm
      split at q
      · rename_i hl
        cases r with
        | ref n hn =>
          obtain ⟨_, _, ws, e, l⟩ := g.own _ _ hm
          obtain ⟨x2, g2⟩ := wr_lst (ts := us) g hm (l.append (.cons r1 .nil))
          exact ⟨_, ws, v, rfl, rfl, e, by rw [line_eq, l.length]; exact hl, q _ .non x2 g2 rfl .non fun z => nomatch z⟩
      · exact q.elim
    · exact q.elim
  · exact q.elim
/-- the other list may be a frozen one -/
def rExtR : V → List V → Hp → VK → Prop := fun x vs H Q => ∃ (a b : Addr) (xs ys : List V), x = .ref a ∧ vs = [.ref b] ∧ H a = some (.lst xs) ∧ Rd H b (.lst ys) ∧ xs.length + ys.length ≤ sizeLine ∧ Q .non (upd H a (.lst (xs ++ ys)))
theorem mt_extendR : MtM X "list.extend" rExtR := fun pins s σ H x vs v us Q I rx rv ⟨a, b, xs, ys, ex, ev, ha, hb, hl, q⟩ => by
  subst ex ev
  cases rx
  obtain ⟨u, rfl, ru⟩ := rv.one
  cases ru
  obtain ⟨ws, n, vx, lx, gx⟩ := Rd.seq I (.inl ha)
  obtain ⟨zs, m, vy, ly, gy⟩ := Rd.seq I hb
  have sz : ws.toArray.size + zs.toArray.size ≤ sizeLine := by simpa [lx, ly] using hl
  have ok : (!ws.toArray.isEmpty && Builtin.List.listTooLong (ws.toArray.size + zs.toArray.size)) = false := by
    rw [notLongL sz]; exact Bool.and_false _
  have call := AutoSeq1.list_extend_list_list_0 a ws.toArray n b zs.toArray m (by rw [ok]; exact Bool.false_ne_true) (by omega) (by omega)
  refine call_meets PySem.F.slot_list_extend ⟨_, gx, rfl⟩ PySem.F.entry_list_extend (PySem.F.args_list_extend_2 _ _) call ⟨gx, gy, ?_⟩
  exact ⟨.non, upd H a (.lst (xs ++ ys)), I.lset (its' := ws ++ zs) ha gx (by simp) (vx.append vy) (by simpa using hl), rfl, q⟩
theorem se_extend (ho : SE false X o fo) (ha : SA X (e :: es) fs) (hbase : attributeBase o "extend" X.env (eval o X.env) = eval o X.env := by rfl)
    (hfew : ((backTo cpos (starEach (e :: es) X.env)).all (fun x => !x.1) && (backToKw cpos (keywordEach [] X.env)).all (fun x => x.1.isSome) && decide ((e :: es).length + ([] : List Keyword).length + (if ([] : List Keyword).isEmpty then 0 else 1) < 30)) = true := by rfl)
    (hline : (apos.endLine == cpos.line) = true := by rfl) (hs : starEach (e :: es) X.env = (false, eval e X.env) :: starEach es X.env := by rfl) (hplain : (backTo cpos (starEach es X.env)).any (·.1) = false := by rfl) :
    SE false X (.Call (.Attribute o "extend" apos) (e :: es) [] cpos) (eBm kExt fo fs) := by
  refine se_bmL PySem.F.slot_list_extend PySem.F.type_list_extend mt_extendR (fun w x vs o ts Q g r rs q => ?_) ho ha hbase hfew hline hs hplain
  unfold kExt at q
  split at q
  · obtain ⟨v, rfl, r1⟩ := repL1 rs
    split at q
    · rename_i us hm
      split at q
      · rename_i hl
        cases r with
        | ref n hn =>
          obtain ⟨_, _, ws, e, l⟩ := g.own _ _ hm
          cases r1 with
          | lst n1 d1 l1 =>
            obtain ⟨x2, g2⟩ := wr_lst (ts := us) g hm (l.append l1)
            exact ⟨_, _, ws, _, rfl, rfl, e, d1, by rw [line_eq, l.length, l1.length]; exact hl, q _ .non x2 g2 rfl .non fun z => nomatch z⟩
      · exact q.elim
    · exact q.elim
  · exact q.elim
theorem se_insert (ho : SE false X o fo) (ha : SA X (e :: es) fs) (hbase : attributeBase o "insert" X.env (eval o X.env) = eval o X.env := by rfl)
    (hfew : ((backTo cpos (starEach (e :: es) X.env)).all (fun x => !x.1) && (backToKw cpos (keywordEach [] X.env)).all (fun x => x.1.isSome) && decide ((e :: es).length + ([] : List Keyword).length + (if ([] : List Keyword).isEmpty then 0 else 1) < 30)) = true := by rfl)
    (hline : (apos.endLine == cpos.line) = true := by rfl) (hs : starEach (e :: es) X.env = (false, eval e X.env) :: starEach es X.env := by rfl) (hplain : (backTo cpos (starEach es X.env)).any (·.1) = false := by rfl) :
    SE false X (.Call (.Attribute o "insert" apos) (e :: es) [] cpos) (eBm kIns fo fs) := by
  refine se_bmL PySem.F.slot_list_insert PySem.F.type_list_insert mt_insert (fun w x vs o ts Q g r rs q => ?_) ho ha hbase hfew hline hs hplain
  unfold kIns at q
  split at q
  · obtain ⟨v, z, rfl, r1, r2⟩ := repL2 rs
    split at q
    · rename_i us hm
      split at q
      · rename_i hl
        cases r with
        | ref n hn =>
          obtain ⟨_, _, ws, e, l⟩ := g.own _ _ hm
          cases r1
          obtain ⟨x2, g2⟩ := wr_lst (ts := us) g hm (((l.take _).append (.cons r2 .nil)).append (l.drop _))
          exact ⟨_, ws, _, z, rfl, rfl, e, by rw [line_eq, l.length]; exact hl.1, hl.2.1, by omega, q _ .non x2 g2 rfl .non fun z => nomatch z⟩
      · exact q.elim
    · exact q.elim
  · exact q.elim
theorem se_index (ho : SE false X o fo) (ha : SA X (e :: es) fs) (hbase : attributeBase o "index" X.env (eval o X.env) = eval o X.env := by rfl)
    (hfew : ((backTo cpos (starEach (e :: es) X.env)).all (fun x => !x.1) && (backToKw cpos (keywordEach [] X.env)).all (fun x => x.1.isSome) && decide ((e :: es).length + ([] : List Keyword).length + (if ([] : List Keyword).isEmpty then 0 else 1) < 30)) = true := by rfl)
    (hline : (apos.endLine == cpos.line) = true := by rfl) (hs : starEach (e :: es) X.env = (false, eval e X.env) :: starEach es X.env := by rfl) (hplain : (backTo cpos (starEach es X.env)).any (·.1) = false := by rfl) :
    SE false X (.Call (.Attribute o "index" apos) (e :: es) [] cpos) (eBm kIdx fo fs) := by
  refine se_bmL PySem.F.slot_list_index PySem.F.type_list_index mt_index (fun w x vs o ts Q g r rs q => ?_) ho ha hbase hfew hline hs hplain
  unfold kIdx at q
  split at q
  · obtain ⟨v, rfl, r1⟩ := repL1 rs
    split at q
    · rename_i v' vs' h1 h2
      split at q
      · rename_i j hj
        cases r with
        | lst n d l =>
          obtain ⟨e1, f1⟩ := flT_rep r1 h1
          obtain ⟨e2, f2⟩ := flTs_rep l h2
          subst e1 e2
          obtain ⟨⟨z, hz, hzz⟩, hno⟩ := ixV_ok hj
          exact ⟨_, _, v, j, z, rfl, rfl, .inl d, f1, f2, hz, hzz, hno, post_ok q g (.int _)⟩
      · exact q.elim
    · exact q.elim
  · exact q.elim

/-! ### d.get -/
def eGet (fo fe : Ev T) : Ev T := fun τ M => (fo τ M).bind fun o M1 => match o with
  | .dic ks xs => (fe τ M1).bind fun u M2 => match toK u with
    | some k => .ok (match lkT k ks xs with
      | some t => t
      | none => .non) M2
    | none => .stuck
  | _ => .stuck
theorem se_get1 {k : Nat} (hr : Room k X.A) (ho : SE false X o fo) (he : SE false X e fe) (m : M1 X o "get" apos e cpos := by exact ⟨rfl, rfl, rfl, rfl⟩) : SE false X (.Call (.Attribute o "get" apos) [e] [] cpos) (eGet fo fe) := by
  refine pe_imp (pe_dget1 (by have := hr.un; omega) ho he m) fun σ H Q ⟨w, τ, e, g, n, q⟩ => ?_
  subst e
  refine ⟨w, τ, rfl, g, n, Res.all_mono (fun t M' q w1 v x1 g1 e1 r1 _ => ?_) (Res.all_bind q)⟩
  subst e1
  split at q
  · cases r1 with
    | dic n0 d e nd l =>
      subst e
      refine ⟨_, rfl, .inl ⟨_, d⟩, w1, τ, rfl, g1, n.mono x1, Res.all_mono (fun u M2 q w2 z x2 g2 e2 r2 _ => ?_) (Res.all_bind q)⟩
      subst e2
      obtain ⟨d', n'⟩ := x2.keepD _ _ d n0
      have q := post_ext q (x1.trans x2)
      split at q
      · rename_i kk hk
        rcases lk_val (k := kk) (l.mono x2) with ⟨v, t', h1, h2, h3⟩ | ⟨h1, h2⟩
        · rw [h2] at q
          exact ⟨some v, .inl ⟨_, kk, d', toK_rep r2 hk, h1.symm⟩, post_ok q g2 h3⟩
        · rw [h2] at q
          exact ⟨none, .inl ⟨_, kk, d', toK_rep r2 hk, h1.symm⟩, post_ok q g2 .non⟩
      · exact q.elim
  · exact q.elim

/-! ### a store at a place -/
def gAt (fo fi : Ev T) : Tg := fun t τ M => (fo τ M).bind fun o M1 => (fi τ M1).bind fun i M2 => match o with
  | .ref n => match M2.get n, i with
    | some (.lst ts), .int i => match ixN ts.length i with
      | some j => .ok τ (M2.set n (.lst (ts.set j t)))
      | none => .stuck
    | some (.dic ks ts), i => match toK i with
      | some k => if ks.length < 16777216 then .ok τ (M2.set n (.dic (putKs k ks) (putTs k t ks ts))) else .stuck
      | none => .stuck
    | _, _ => .stuck
  | _ => .stuck
theorem PSet.or {t t' : TSet} (h : PSet X t) (h' : PSet X t') : PSet X (fun o i v H Q => t o i v H Q ∨ t' o i v H Q) := by
  intro pins s σ H o i v ov iv u Q I ro ri rv q
  rcases q with q | q
  · exact h pins s σ H o i v ov iv u Q I ro ri rv q
  · exact h' pins s σ H o i v ov iv u Q I ro ri rv q
theorem sg_at {k : Nat} (hr : Room k X.A) (ho : SE false X a fa) (hi : SE false X b fb) (hw : ∀ v, assign (.Subscript a b pos) X.env v = (do
      let ov ← holding [v] (eval a X.env)
      let iv ← holding [v, ov] (eval b X.env)
      standAt pos
      holding [v, ov, iv] (setItem ov iv v)
      release [v, ov, iv] []) := by intro _; rfl) : SG [] X (.Subscript a b pos) (gAt fa fb) := by
  refine pg_imp (pg_sub ho hi (PSet.or set_list (set_dict (by have := hr.un; omega))) hw) fun v σ H Q ⟨w, τ, t, e, g, n, r, q⟩ => ?_
  subst e
  refine ⟨w, τ, rfl, g, n, Res.all_mono (fun o M1 q w1 x x1 g1 e1 r1 _ => ?_) (Res.all_bind q)⟩
  subst e1
  refine ⟨w1, τ, rfl, g1, n.mono x1, Res.all_mono (fun i M2 q w2 y x2 g2 e2 r2 f2 => ?_) (Res.all_bind q)⟩
  subst e2
  clear f2
  have xx := x1.trans x2
  split at q
  · split at q
    · rename_i ts i hm
      split at q
      · rename_i j hj
        have r1 := r1.mono x2
        cases r1 with
        | ref n0 hn =>
          cases r2
          obtain ⟨_, _, ws, e, l⟩ := g2.own _ _ hm
          obtain ⟨x3, g3⟩ := wr_lst (ts := ts) g2 hm (RepL.set (r.mono xx) j l)
          exact .inl ⟨_, ws, _, j, rfl, rfl, e, by rw [l.length]; exact hj, q _ σ (xx.trans x3) g3 rfl ((n.mono xx).mono x3) ⟨rfl, fun _ _ => rfl⟩⟩
      · exact q.elim
    · rename_i ks ts hm
      split at q
      · rename_i kk hk
        split at q
        · rename_i hl
          have r1 := r1.mono x2
          cases r1 with
          | ref n0 hn =>
            obtain ⟨_, _, kvs, e, e2, nd, l⟩ := g2.own _ _ hm
            obtain ⟨p1, p2, p3⟩ := put_rep (k := kk) (r.mono xx) e2 nd l
            obtain ⟨x3, g3⟩ := wr_dic g2 hm p1 p2 p3
            subst e2
            rw [List.length_map] at hl
            exact .inr ⟨_, _, rfl, .inl ⟨kvs, kk, e, toK_rep r2 hk, by rw [line_eq]; exact hl, rfl⟩, q _ σ (xx.trans x3) g3 rfl ((n.mono xx).mono x3) ⟨rfl, fun _ _ => rfl⟩⟩
        · exact q.elim
      · exact q.elim
    · exact q.elim
  · exact q.elim

/-! ### isinstance -/
inductive Cl where
  | int | bool | str | list | tuple | dict
  deriving DecidableEq
def Cl.nm : Cl → String
  | .int => "int" | .bool => "bool" | .str => "str" | .list => "list" | .tuple => "tuple" | .dict => "dict"
def Cl.sr : Cl → Str
  | .int => "int" | .bool => "bool" | .str => "str" | .list => "list" | .tuple => "tuple" | .dict => "dict"
def isC : T → Sto → Cl → Option Bool
  | .non, _, _ => some false
  | .bl _, _, c => some (match c with | .bool => true | .int => true | _ => false)
  | .int _, _, c => some (match c with | .int => true | _ => false)
  | .str _, _, c => some (match c with | .str => true | _ => false)
  | .lst _, _, c => some (match c with | .list => true | _ => false)
  | .tup _, _, c => some (match c with | .tuple => true | _ => false)
  | .dic _ _, _, c => some (match c with | .dict => true | _ => false)
  | .ref n, M, c => match M.get n with
    | some (.lst _) => some (match c with | .list => true | _ => false)
    | some (.dic _ _) => some (match c with | .dict => true | _ => false)
    | _ => none
  | .scr _, _, _ => none
theorem kitN (c : Cl) : kitB "NoneType" c.nm = some false := by cases c <;> decide +kernel
theorem kitBl (c : Cl) : kitB "bool" c.nm = some (match c with | .bool => true | .int => true | _ => false) := by cases c <;> decide +kernel
theorem kitI (c : Cl) : kitB "int" c.nm = some (match c with | .int => true | _ => false) := by cases c <;> decide +kernel
theorem kitS (c : Cl) : kitB "str" c.nm = some (match c with | .str => true | _ => false) := by cases c <;> decide +kernel
theorem kitL (c : Cl) : kitB "list" c.nm = some (match c with | .list => true | _ => false) := by cases c <;> decide +kernel
theorem kitT (c : Cl) : kitB "tuple" c.nm = some (match c with | .tuple => true | _ => false) := by cases c <;> decide +kernel
theorem kitD (c : Cl) : kitB "dict" c.nm = some (match c with | .dict => true | _ => false) := by cases c <;> decide +kernel
theorem isC_ok {K : PySem.W.Frag} {mg : Str → Option Value} {w : Wd} {v : V} {t : T} (g : Good mg w) (r : Rep w v t) {c0 : Cl} {b0 : Bool} (h0 : isC t w.M c0 = some b0) :
    ∃ ty, TyX K w.H v (.type ty) ∧ ∀ c, ∃ b, isC t w.M c = some b ∧ kitB ty c.nm = some b := by
  cases r with
  | non => exact ⟨_, .base .non, fun c => ⟨_, rfl, kitN c⟩⟩
  | bl b => exact ⟨_, .base (.bl b), fun c => ⟨_, rfl, kitBl c⟩⟩
  | int i => exact ⟨_, .base (.int i), fun c => ⟨_, rfl, kitI c⟩⟩
  | str x => exact ⟨_, .base (.str x), fun c => ⟨_, rfl, kitS c⟩⟩
  | lst n d l =>
    rcases d with d | ⟨o, d⟩
    · exact ⟨_, .base (.lst d), fun c => ⟨_, rfl, kitL c⟩⟩
    · exact ⟨_, .base (.frz d), fun c => ⟨_, rfl, kitL c⟩⟩
  | tup n d l =>
    rcases d with d | ⟨o, d⟩
    · exact ⟨_, .base (.tup d), fun c => ⟨_, rfl, kitT c⟩⟩
    · exact ⟨_, .fTuple d, fun c => ⟨_, rfl, kitT c⟩⟩
  | dic n d e nd l =>
    rcases d with d | ⟨o, d⟩
    · exact ⟨_, .base (.dK d), fun c => ⟨_, rfl, kitD c⟩⟩
    · exact ⟨_, .fDict d, fun c => ⟨_, rfl, kitD c⟩⟩
  | scr a => cases h0
  | ref n hn =>
    simp only [isC] at h0 ⊢
    split at h0
    · rename_i ts hm
      obtain ⟨_, _, vs, e, l⟩ := g.own _ _ hm
      exact ⟨_, .base (.lst e), fun c => ⟨_, rfl, kitL c⟩⟩
    · rename_i ks ts hm
      obtain ⟨_, _, kvs, e, _⟩ := g.own _ _ hm
      exact ⟨_, .base (.dK e), fun c => ⟨_, rfl, kitD c⟩⟩
    · cases h0
def kIsi (c : Cl) : T → Sto → Res T := fun t M => match isC t M c with
  | some b => .ok (.bl b) M
  | none => .stuck
def isAny (t : T) (M : Sto) : List Cl → Option Bool
  | [] => some false
  | c :: cs => match isC t M c with
    | some true => some true
    | some false => isAny t M cs
    | none => none
def kIsiT (cs : List Cl) : T → Sto → Res T := fun t M => match isC t M .int, isAny t M cs with
  | some _, some b => .ok (.bl b) M
  | _, _ => .stuck
theorem boot_cl (c : Cl) : bootBuiltins c.sr = some (.type c.nm) := by cases c <;> decide +kernel
theorem mg_cl {mg : Str → Option Value} (B : Blt mg) (c : Cl) : mg c.sr = none := by
  cases c
  · exact B.int
  · exact B.bool
  · exact B.str
  · exact B.list
  · exact B.tuple
  · exact B.dict
theorem pe_cl (B : Blt X.mg) (c : Cl) {q : Pos} (hg : Gl X c.sr) : PE X (.Name c.sr q) (tC (.ty c.nm)) :=
  pe_bltn hg (mg_cl B c) (boot_cl c) rfl (by cases c <;> decide) (by cases c <;> decide)
theorem se_isi (B : Blt X.mg) (c : Cl) {x : Str} {q : Pos} (ha : SE false X a fa) (hx : x = c.sr := by rfl) (hg : Gl X "isinstance" := by rfl) (hgc : Gl X x := by rfl)
    (hs : starEach [a, .Name x q] X.env = (false, eval a X.env) :: starEach [.Name x q] X.env := by rfl) (hpl : (backTo pos (starEach [.Name x q] X.env)).any (·.1) = false := by rfl) : SE false X (.Call (.Name "isinstance" p) [a, .Name x q] [] pos) (e1 (kIsi c) fa) := by
  subst hx
  refine pe_imp (pe_callB call_isi hg B.isinstance PyProof.Rows.boot_isinstance (pa_cons ha (pa_cons (pe_cl B c hgc) pa_nil) hs) (by decide) (by decide) hs hpl) fun σ H Q ⟨w, τ, e, g, n, q⟩ => ?_
  subst e
  refine ⟨w, τ, rfl, g, n, Res.all_mono (fun t M1 q w1 v x1 g1 e1 r1 _ => ?_) (Res.all_bind q)⟩
  subst e1
  unfold kIsi at q
  split at q
  · rename_i b hb
    obtain ⟨ty, h1, h2⟩ := isC_ok (K := X.K) g1 r1 hb
    obtain ⟨b', h3, h4⟩ := h2 c
    rw [hb] at h3
    cases h3
    exact ⟨v, _, _, _, b, rfl, .ty _, h1, kit_ty h4, post_ok (post_ext q x1) g1 (.bl _)⟩
  · exact q.elim
/-- the names of the classes, from the left -/
def ClNames (X : Cx) : List Expr → List Cl → Prop
  | [], [] => True
  | .Name x q :: es, c :: cs => x = c.sr ∧ Gl X x ∧ ClNames X es cs
  | _, _ => False
theorem pa_cls (B : Blt X.mg) : ∀ {es : List Expr} {cs : List Cl}, ClNames X es cs → PA X es (fun _ H Q => Q (cs.map fun c => V.ty c.nm) H)
  | [], [], _ => pa_imp pa_nil fun _ _ _ h => h
  | .Name x q :: es, c :: cs, ⟨h1, h2, h3⟩ => by
    subst h1
    exact pa_imp (pa_cons (pe_cl B c h2) (pa_cls B h3) rfl) fun _ _ _ h => h
  | [], _ :: _, h => h.elim
  | .Name _ _ :: _, [], h => h.elim
theorem cls_paired : ∀ cs : List Cl, Paired ClsV (cs.map fun c => V.ty c.nm) (cs.map fun c => Value.type c.nm)
  | [] => .nil
  | c :: cs => .cons (.ty _) (cls_paired cs)
theorem kitAny_of {K : PySem.W.Frag} {t : T} {M : Sto} {ty : String} (h : ∀ c, ∃ b, isC t M c = some b ∧ kitB ty c.nm = some b) : ∀ {cs : List Cl} {b : Bool}, isAny t M cs = some b → PySem.W.kitAny K (.type ty) (cs.map fun c => Value.type c.nm) = some b
  | [], b, e => by cases e; rfl
  | c :: cs, b, e => by
    obtain ⟨b', h1, h2⟩ := h c
    unfold isAny at e
    rw [h1] at e
    refine kitAny_cons (b := b') (kit_ty h2) (fun hb => ?_) fun hb => ?_
    · rw [hb] at e; exact kitAny_of h e
    · rw [hb] at e; cases e; rfl
theorem se_isiT (B : Blt X.mg) (cs : List Cl) {k0 : Nat} {q : Pos} (ha : SE false X a fa) (hn : ClNames X es cs := by exact ⟨rfl, rfl, rfl, rfl, trivial⟩) (hl : cs.length ≤ 10 := by decide) (hg : Gl X "isinstance" := by rfl)
    (hs : starEach [a, .Tuple es k0 q] X.env = (false, eval a X.env) :: starEach [.Tuple es k0 q] X.env := by rfl) (hpl : (backTo pos (starEach [.Tuple es k0 q] X.env)).any (·.1) = false := by rfl) : SE false X (.Call (.Name "isinstance" p) [a, .Tuple es k0 q] [] pos) (e1 (kIsiT cs) fa) := by
  refine pe_imp (pe_callB call_isiT hg B.isinstance PyProof.Rows.boot_isinstance (pa_cons ha (pa_cons (pe_tup (pa_cls B hn)) pa_nil rfl) hs) (by decide) (by decide) hs hpl) fun σ H Q ⟨w, τ, e, g, n, q⟩ => ?_
  subst e
  refine ⟨w, τ, rfl, g, n, Res.all_mono (fun t M1 q w1 v x1 g1 e1 r1 _ => ?_) (Res.all_bind q)⟩
  subst e1
  refine ⟨by rw [List.length_map, line_eq]; omega, fun p hp => ?_⟩
  have x2 := Ext.put (o := .tup (cs.map fun c => V.ty c.nm)) g1 hp
  have g2 := g1.put (o := .tup (cs.map fun c => V.ty c.nm)) hp
  unfold kIsiT at q
  split at q
  · rename_i b0 b hb0 hb
    obtain ⟨ty, h1, h2⟩ := isC_ok (K := X.K) (w := w1.put p _) g2 (r1.mono x2) (show isC t (w1.put p _).M .int = some b0 from hb0)
    exact ⟨v, p, _, _, _, b, rfl, upd_same, cls_paired cs, h1, kitAny_of h2 hb, post_ok (w := w1.put p _) (post_ext q (x1.trans x2)) g2 (.bl _)⟩
  · exact q.elim
end
end TL
end
section
set_option Elab.async false
set_option linter.all false
set_option maxRecDepth 100000
/-! TL12: ranges as lists, len(set(..)), stars, pairs at once, compares of what stands in the store, dict displays. -/
namespace TL
open PySem PySem.Spec PyProof.Rows L2

section
variable {X : Cx} {F : Bool} {fa fb : Ev T} {a b e : Expr} {es : List Expr} {p q pos : Pos}
/-! ### list(range(..)) -/
theorem rgV_rep {w : Wd} (a b : Int) : RepL w (rgV a b) (rgT a (b - a).toNat) := by
  have e1 : rgV a b = ((List.range (b - a).toNat).map fun i => a + (i : Nat)).map V.int := by unfold rgV; rw [List.map_map]; rfl
  have e2 : rgT a (b - a).toNat = ((List.range (b - a).toNat).map fun i => a + (i : Nat)).map T.int := by unfold rgT; rw [List.map_map]; rfl
  rw [e1, e2]
  exact .ints _
def okRg (i j : Int) : Bool := decide (-4611686018427387904 ≤ i) && decide (i < 4611686018427387904) && decide (-4611686018427387904 ≤ j) && decide (j < 4611686018427387904) && decide ((j - i).toNat ≤ 16777216)
theorem okRg_ok {i j : Int} (h : okRg i j = true) : RgOk i j := by
  unfold okRg at h
  simp only [Bool.and_eq_true, decide_eq_true_eq] at h
  exact ⟨by omega, by omega, by omega, by omega, by omega⟩
def eLrg1 (f : Ev T) : Ev T := fun τ M => (f τ M).bind fun t M' => match t with
  | .int j => if okRg 0 j then .ok (.lst (rgT 0 j.toNat)) M' else .stuck
  | _ => .stuck
def eLrg2 (f g : Ev T) : Ev T := fun τ M => (f τ M).bind fun t M1 => (g τ M1).bind fun u M2 => match t, u with
  | .int i, .int j => if okRg i j then .ok (.lst (rgT i (j - i).toNat)) M2 else .stuck
  | _, _ => .stuck
theorem se_listRg1 {p2 q2 : Pos} (B : Blt X.mg) (ha : SE false X a fa) (hc : X.calm = true := by rfl) (hg : Gl X "list" := by rfl) (hg2 : Gl X "range" := by rfl) (na : starEach [a] X.env = (false, eval a X.env) :: starEach [] X.env := by rfl)
    (na2 : starEach [.Call (.Name "range" p2) [a] [] q2] X.env = (false, eval (.Call (.Name "range" p2) [a] [] q2) X.env) :: starEach [] X.env := by rfl) : SE true X (.Call (.Name "list" p) [.Call (.Name "range" p2) [a] [] q2] [] pos) (eLrg1 fa) := by
  refine pe_imp (pe_listRg hc hg B.list (prg_1 hg2 B.range ha na) na2) fun σ H Q ⟨w, τ, e, g, n, q⟩ => ?_
  subst e
  refine ⟨w, τ, rfl, g, n, Res.all_mono (fun t M' q w1 v x1 g1 e1 r1 _ => ?_) (Res.all_bind q)⟩
  subst e1
  split at q
  · split at q
    · rename_i h
      cases r1
      refine ⟨_, rfl, okRg_ok h, fun p hp => ?_⟩
      have q := post_ext q x1
      have := rgV_rep (w := w1) 0 (by assumption)
      rw [Int.sub_zero] at this
      exact post_lst q g1 hp this
    · exact q.elim
  · exact q.elim
theorem se_listRg2 {p2 q2 : Pos} (B : Blt X.mg) (ha : SE false X a fa) (hb : SE false X b fb) (hc : X.calm = true := by rfl) (hg : Gl X "list" := by rfl) (hg2 : Gl X "range" := by rfl) (na : starEach [a, b] X.env = (false, eval a X.env) :: starEach [b] X.env := by rfl)
    (nb : starEach [b] X.env = (false, eval b X.env) :: starEach [] X.env := by rfl) (hp : (backTo q2 (starEach [b] X.env)).any (·.1) = false := by rfl)
    (na2 : starEach [.Call (.Name "range" p2) [a, b] [] q2] X.env = (false, eval (.Call (.Name "range" p2) [a, b] [] q2) X.env) :: starEach [] X.env := by rfl) : SE true X (.Call (.Name "list" p) [.Call (.Name "range" p2) [a, b] [] q2] [] pos) (eLrg2 fa fb) := by
  refine pe_imp (pe_listRg hc hg B.list (prg_2 hg2 B.range ha hb na nb hp) na2) fun σ H Q ⟨w, τ, e, g, n, q⟩ => ?_
  subst e
  refine ⟨w, τ, rfl, g, n, Res.all_mono (fun t M' q w1 v x1 g1 e1 r1 _ => ?_) (Res.all_bind q)⟩
  subst e1
  refine ⟨w1, τ, rfl, g1, n.mono x1, Res.all_mono (fun u M2 q w2 z x2 g2 e2 r2 _ => ?_) (Res.all_bind q)⟩
  subst e2
  split at q
  · split at q
    · rename_i h
      have r1 := r1.mono x2
      cases r1
      cases r2
      exact ⟨_, _, rfl, rfl, okRg_ok h, fun p hp => post_lst (post_ext q (x1.trans x2)) g2 hp (rgV_rep _ _)⟩
    · exact q.elim
  · exact q.elim
/-! ### len(set(..)) of numbers that are all different -/
def ndI : List Int → Bool
  | [] => true
  | n :: r => !(r.any fun m => decide (m = n)) && ndI r
theorem ndI_ok : ∀ {l : List Int}, ndI l = true → l.Nodup
  | [], _ => List.nodup_nil
  | n :: r, h => by
    unfold ndI at h
    rw [Bool.and_eq_true, Bool.not_eq_true'] at h
    refine List.nodup_cons.mpr ⟨fun m => ?_, ndI_ok h.2⟩
    have := List.any_eq_false.mp h.1 n m
    simp at this
def eLenSet (f : Ev T) : Ev T := fun τ M => (f τ M).bind fun t M' => match t with
  | .lst ts => match inTs ts with
    | some ns => if ndI ns && decide (ns.length ≤ 4000) then .ok (.int (ns.length : Nat)) M' else .stuck
    | none => .stuck
  | _ => .stuck
theorem se_lenSet {p2 q2 : Pos} (B : Blt X.mg) (ha : SE false X a fa) (hc : X.calm = true := by rfl) (hg : Gl X "len" := by rfl) (hg2 : Gl X "set" := by rfl) (na : starEach [a] X.env = (false, eval a X.env) :: starEach [] X.env := by rfl) :
    SE false X (.Call (.Name "len" p) [.Call (.Name "set" p2) [a] [] q2] [] pos) (eLenSet fa) := by
  refine pe_imp (RZ.pe_lenSetI hg B.len hg2 B.set ha hc na) fun σ H Q ⟨w, τ, e, g, n, q⟩ => ?_
  subst e
  refine ⟨w, τ, rfl, g, n, Res.all_mono (fun t M' q w1 v x1 g1 e1 r1 _ => ?_) (Res.all_bind q)⟩
  subst e1
  split at q
  · split at q
    · rename_i ns hns
      split at q
      · rename_i h
        rw [Bool.and_eq_true, decide_eq_true_eq] at h
        cases r1 with
        | lst n0 d l =>
          have e := inTs_rep l hns
          subst e
          exact ⟨_, ns, rfl, .inl d, ndI_ok h.1, h.2, post_ok (post_ext q x1) g1 (.int _)⟩
      · exact q.elim
    · exact q.elim
  · exact q.elim
/-! ### *e -/
def eStar (f : Ev T) (g : Ev (List T)) : Ev (List T) := fun τ M => (f τ M).bind fun t M1 => match t with
  | .lst xs => (g τ M1).bind fun ys M2 => .ok (xs ++ ys) M2
  | .tup xs => (g τ M1).bind fun ys M2 => .ok (xs ++ ys) M2
  | _ => .stuck
theorem sa_star {fs : Ev (List T)} (ha : SE false X e fa) (hr : SA X es fs) (hs : starEach (.Starred e p :: es) X.env = (true, eval e X.env) :: starEach es X.env := by rfl) : SA X (.Starred e p :: es) (eStar fa fs) := by
  refine pa_imp (StX.pa_star ha hr hs) fun σ H Q ⟨w, τ, e, g, n, q⟩ => ?_
  subst e
  refine ⟨w, τ, rfl, g, n, Res.all_mono (fun t M1 q w1 v x1 g1 e1 r1 _ => ?_) (Res.all_bind q)⟩
  subst e1
  split at q
  · cases r1 with
    | lst n0 d l =>
      refine ⟨_, _, rfl, .inr (.inl d), w1, τ, rfl, g1, n.mono x1, Res.all_mono (fun us M2 q w2 vs x2 g2 e2 r2 => ?_) (Res.all_bind q)⟩
      subst e2
      exact q w2 _ (x1.trans x2) g2 rfl ((l.mono x2).append r2)
  · cases r1 with
    | tup n0 d l =>
      refine ⟨_, _, rfl, .inl (.inl d), w1, τ, rfl, g1, n.mono x1, Res.all_mono (fun us M2 q w2 vs x2 g2 e2 r2 => ?_) (Res.all_bind q)⟩
      subst e2
      exact q w2 _ (x1.trans x2) g2 rfl ((l.mono x2).append r2)
  · exact q.elim

/-! ### x, y = a, b at once -/
def sPar (i j : Nat) (fs : Ev (List T)) : Ev Fl := fun τ M => (fs τ M).bind fun ts M' => match ts with
  | [t, u] => .ok (.nx ((τ.set i (some t)).set j (some u))) M'
  | _ => .stuck
def sPar3 (i j l : Nat) (fs : Ev (List T)) : Ev Fl := fun τ M => (fs τ M).bind fun ts M' => match ts with
  | [t, u, v] => .ok (.nx (((τ.set i (some t)).set j (some u)).set l (some v))) M'
  | _ => .stuck
theorem ss_par {i j : Nat} {x y : Str} {px py pt : Pos} {kt k2 pt2} {fs : Ev (List T)} (hN : X.N.Nodup) (ha : SA X [a, b] fs) (hi : X.N[i]? = some x := by rfl) (hj : X.N[j]? = some y := by rfl) (hij : i ≠ j := by decide)
    (hx : X.env.scope.names.lookup x = some .local := by rfl) (hy : X.env.scope.names.lookup y = some .local := by rfl)
    (hw : swappedStores [.Tuple [.Name x px, .Name y py] kt pt] (.Tuple [a, b] k2 pt2) X.env = pure (some [x, y]) := by rfl)
    (hs : swapsWithSole [.Tuple [.Name x px, .Name y py] kt pt] (.Tuple [a, b] k2 pt2) pos.line X.env = pure false := by rfl) (hc : X.calm = true := by rfl) :
    SS F X (.Assign [.Tuple [.Name x px, .Name y py] kt pt] (.Tuple [a, b] k2 pt2) pos) (sPar i j fs) := by
  refine ps_imp (ps_par hc hN hi hj hij hx hy ha hw hs) fun D σ H ⟨w, τ, e, g, n, q⟩ => ?_
  subst e
  refine ⟨w, τ, rfl, g, n, Res.all_mono (fun ts M1 q w1 vs x1 g1 e1 r1 => ?_) (Res.all_bind q)⟩
  subst e1
  split at q
  · obtain ⟨v, z, rfl, ra, rb⟩ := repL2 r1
    exact ⟨v, z, rfl, q w1 x1 g1 rfl _ (((n.mono x1).set ra i).set rb j)⟩
  · exact q.elim
theorem repL3 {w : Wd} {vs : List V} {t u s : T} (r : RepL w vs [t, u, s]) : ∃ v z y, vs = [v, z, y] ∧ Rep w v t ∧ Rep w z u ∧ Rep w y s := by
  cases r with
  | cons r1 l => obtain ⟨z, y, rfl, a, b⟩ := repL2 l; exact ⟨_, z, y, rfl, r1, a, b⟩
theorem ss_par3 {i j l : Nat} {x y z : Str} {c : Expr} {px py pz pt : Pos} {kt k2 pt2} {fs : Ev (List T)} (hN : X.N.Nodup) (ha : SA X [a, b, c] fs) (hi : X.N[i]? = some x := by rfl) (hj : X.N[j]? = some y := by rfl) (hl : X.N[l]? = some z := by rfl) (hij : i ≠ j := by decide) (hil : i ≠ l := by decide) (hjl : j ≠ l := by decide)
    (hx : X.env.scope.names.lookup x = some .local := by rfl) (hy : X.env.scope.names.lookup y = some .local := by rfl) (hz : X.env.scope.names.lookup z = some .local := by rfl)
    (hw : swappedStores [.Tuple [.Name x px, .Name y py, .Name z pz] kt pt] (.Tuple [a, b, c] k2 pt2) X.env = pure (some [x, y, z]) := by rfl)
    (hs : swapsWithSole [.Tuple [.Name x px, .Name y py, .Name z pz] kt pt] (.Tuple [a, b, c] k2 pt2) pos.line X.env = pure false := by rfl) (hc : X.calm = true := by rfl) :
    SS F X (.Assign [.Tuple [.Name x px, .Name y py, .Name z pz] kt pt] (.Tuple [a, b, c] k2 pt2) pos) (sPar3 i j l fs) := by
  refine ps_imp (ps_par3 hc hN hi hj hl hij hil hjl hx hy hz ha hw hs) fun D σ H ⟨w, τ, e, g, n, q⟩ => ?_
  subst e
  refine ⟨w, τ, rfl, g, n, Res.all_mono (fun ts M1 q w1 vs x1 g1 e1 r1 => ?_) (Res.all_bind q)⟩
  subst e1
  split at q
  · obtain ⟨v, z, y, rfl, ra, rb, rc⟩ := repL3 r1
    exact ⟨v, z, y, rfl, q w1 x1 g1 rfl _ ((((n.mono x1).set ra i).set rb j).set rc l)⟩
  · exact q.elim

/-! ### compares: also of what stands in the store -/
def PureC (X : Cx) (op : CmpOp) (k0 : T → T → Option Bool) : Prop := ∃ r, OpR X (compareOp op) r ∧ ∀ w x y a b c (Q : VK), Rep w x a → Rep w y b → k0 a b = some c → Q (.bl c) w.H → r x y w.H Q
def kVw (k0 : T → T → Option Bool) (a b : T) (M : Sto) : Res T := match k0 a b with
  | some c => .ok (.bl c) M
  | none => match frzD 6 (.tup [a, b]) M with
    | some (.tup [a', b'], _) => match k0 a' b' with
      | some c => .ok (.bl c) M
      | none => .stuck
    | _ => .stuck
theorem view2 {mg : Str → Option Value} {w : Wd} {x y : V} {a b a' b' : T} {M' : Sto} (g : Good mg w) (r1 : Rep w x a) (r2 : Rep w y b) (h : frzD 6 (.tup [a, b]) w.M = some (.tup [a', b'], M')) : ∃ w', w'.H = w.H ∧ Rep w' x a' ∧ Rep w' y b' := by
  have e : frzD 6 (.tup [a, b]) w.M = (match frzM (frzD 5) [a, b] w.M with
    | some (us, M') => some (.tup us, M')
    | none => none) := rfl
  rw [e] at h
  split at h
  · rename_i us M1 h1
    cases h
    obtain ⟨w', e1, _, _, _, r⟩ := frzM_ok (frzD_ok 5) h1 g (.cons r1 (.cons r2 .nil))
    obtain ⟨v, z, e2, ra, rb⟩ := repL2 r
    cases e2
    exact ⟨w', e1, ra, rb⟩
  · cases h
theorem PureC.ok {op : CmpOp} {k0 : T → T → Option Bool} (h : PureC X op k0) : CmpOk X op (kVw k0) := by
  obtain ⟨r, hr, h⟩ := h
  refine ⟨r, hr, fun w x y a b Q g r1 r2 q => ?_⟩
  unfold kVw at q
  split at q
  · rename_i c hc
    exact h w x y a b c Q r1 r2 hc (post_ok q g (.bl _))
  · split at q
    · rename_i a' b' M' hf
      split at q
      · rename_i c hc
        obtain ⟨w', e, r1', r2'⟩ := view2 g r1 r2 hf
        have := h w' x y a' b' c Q r1' r2' hc
        rw [e] at this
        exact this (post_ok q g (.bl _))
      · exact q.elim
    · exact q.elim
def kEq0 (a b : T) : Option Bool := match toD a, toD b with
  | some d, some e => if SeqAt.shaped d && SeqAt.shaped e then some (PyData.eqv d e) else none
  | _, _ => match a, b with
    | .dic ks xs, .dic ls ys => match toDs xs, toDs ys with
      | some ds, some es => if ds.all SeqAt.shaped && es.all SeqAt.shaped then some (ks.length == ls.length && dicEq ks ds ls es) else none
      | _, _ => none
    | _, _ => none
def kNe0 (a b : T) : Option Bool := match toD a, toD b with
  | some d, some e => if SeqAt.shaped d && SeqAt.shaped e then some (!PyData.eqv d e) else none
  | _, _ => none
theorem p_eq {k : Nat} (hr : Room k X.A) : PureC X .Eq kEq0 := ⟨_, OpR.or (op_eqD hr.units) (op_eqDD (by have := hr.un; omega)), fun w x y a b c Q r1 r2 h q => by
  unfold kEq0 at h
  split at h
  · rename_i d e h1 h2
    split at h
    · rename_i hs
      cases h
      rw [Bool.and_eq_true] at hs
      exact .inl ⟨d, e, r1.dp h1, r2.dp h2, hs.1, hs.2, q⟩
    · cases h
  · split at h
    · rename_i ks xs ls ys _
      split at h
      · rename_i ds es h1 h2
        split at h
        · rename_i hs
          rw [Bool.and_eq_true] at hs
          cases h
          cases r1 with
          | dic n1 d1 e1 nd1 l1 =>
            cases r2 with
            | dic n2 d2 e2 nd2 l2 =>
              subst e1 e2
              refine .inr ⟨_, _, _, _, ds, es, rfl, rfl, d1, d2, l1.dp h1, l2.dp h2, hs.1, hs.2, ?_⟩
              rw [List.length_map, List.length_map] at q
              exact q
        · cases h
      · cases h
    · cases h⟩
theorem p_ne {k : Nat} (hr : Room k X.A) : PureC X .NotEq kNe0 := ⟨_, op_neD hr.units, fun w x y a b c Q r1 r2 h q => by
  unfold kNe0 at h
  split at h
  · rename_i d e h1 h2
    split at h
    · rename_i hs
      cases h
      rw [Bool.and_eq_true] at hs
      exact ⟨d, e, r1.dp h1, r2.dp h2, hs.1, hs.2, q⟩
    · cases h
  · cases h⟩
theorem p_in {k : Nat} (hr : Room k X.A) : PureC X .In kIn0 := ⟨_, OpR.or (op_in_dict (by have := hr.un; omega)) (OpR.or op_in_seq (op_inD (by have := hr.un; omega))), fun w x y a b c Q r1 r2 h q => by
  rcases kIn0_ok (K := X.K) r1 r2 h with ⟨ad, o, e, hd, hc⟩ | ⟨p, xs, e, hs, f1, f2, hc⟩ | ⟨d, ds, h1, h2, h3, h4, hc⟩
  · subst hc; exact .inl ⟨ad, o, e, hd, q⟩
  · subst hc; exact .inr (.inl ⟨p, xs, e, hs, f1, f2, by show Q (.bl (if false = true then _ else inV x xs)) w.H; rw [if_neg (by decide)]; exact q⟩)
  · subst hc; exact .inr (.inr ⟨d, ds, h1, h2, h3, h4, q⟩)⟩
theorem p_nin {k : Nat} (hr : Room k X.A) : PureC X .NotIn (fun a b => (kIn0 a b).map not) := ⟨_, OpR.or (op_notin_dict (by have := hr.un; omega)) (OpR.or op_notIn_seq (op_notInD (by have := hr.un; omega))), fun w x y a b c Q r1 r2 h q => by
  cases hh : kIn0 a b with
  | none => simp only [hh] at h; cases h
  | some c0 =>
    simp only [hh, Option.map_some, Option.some.injEq] at h
    subst h
    rcases kIn0_ok (K := X.K) r1 r2 hh with ⟨ad, o, e, hd, hc⟩ | ⟨p, xs, e, hs, f1, f2, hc⟩ | ⟨d, ds, h1, h2, h3, h4, hc⟩
    · subst hc; exact .inl ⟨ad, o, e, hd, q⟩
    · subst hc; exact .inr (.inl ⟨p, xs, e, hs, f1, f2, by show Q (.bl (if true = true then !inV x xs else _)) w.H; rw [if_pos rfl]; exact q⟩)
    · subst hc; exact .inr (.inr ⟨d, ds, h1, h2, h3, h4, q⟩)⟩
end
end TL
end
section
set_option Elab.async false
set_option linter.all false
set_option maxRecDepth 100000
/-! TL13: {**d, k: v}. -/
namespace PySem
open Sem (wp)
section
variable {prog : Program} {w : World} {K : Type} [DecidableEq K] {knd : KeyKind prog w K} {A : Around} {E : Value → Shared → Prop} {s : Shared}
/-- a key's entry is written, or laid behind the others -/
theorem dictOf_put {h : Heap} {d : Addr} {acc : List (K × Value)} {k : K} {key v : Value} (hk : knd.is k key = true) (D : h.DictOf knd d acc) (small : acc.length ≤ sizeLine) :
    ∃ (ob : Obj) (es : Array DictEntry) (n : Nat), h.get? d = some ob ∧ ob.data = .dict es n ∧ KeysOf knd es ∧ es.size ≤ sizeLine ∧
      ∀ r, (es.findIdx? fun e => knd.is k e.key) = r → (match r with
        | some j => (h.update d (Obj.mapDict (·.modify j fun e => { e with val := v }))).DictOf knd d (stored acc k v)
        | none => (h.update d (Obj.mapDictKeys (·.push ⟨knd.hash k, key, v⟩))).DictOf knd d (stored acc k v)) := by
  obtain ⟨ob, ⟨l⟩, n, g, ex, dt, ks, pr, nd⟩ := D
  have same : (l.findIdx? fun e => knd.is k e.key) = acc.findIdx? fun p => decide (p.1 = k) := pr.findIdx k
  refine ⟨ob, ⟨l⟩, n, g, dt, ks, by have := pr.length; simpa [this] using small, fun r hr => ?_⟩
  have hr : (l.findIdx? fun e => knd.is k e.key) = r := by simpa using hr
  cases r with
  | some j =>
    have old : (acc.any fun p => decide (p.1 = k)) = true := any_of_findIdx_some (same ▸ hr)
    have p2 := pr.modify nd hr v
    refine ⟨_, _, n, Heap.get?_update_self _ g (Obj.isFreed_of_dict (Obj.data_mapDict dt _)), ex.mapDict _, Obj.data_mapDict dt _, ks.modify _ _, ?_, ?_⟩
    · unfold stored
      rw [if_pos old]
      simpa using p2
    · unfold stored
      rw [if_pos old, keys_map_store]
      exact nd
  | none =>
    have out : k ∉ acc.map (·.1) := not_mem_of_findIdx_none (same ▸ hr)
    have fresh : (acc.any fun p => decide (p.1 = k)) = false := by
      rw [List.any_eq_false]
      intro p hp z
      exact out (of_decide_eq_true z ▸ List.mem_map_of_mem hp)
    have p2 := pr.append hk (knd.hash k) v
    refine ⟨_, _, n + 1, Heap.get?_update_self _ g (Obj.isFreed_of_dict (Obj.data_mapDictKeys dt _)), ex.mapDictKeys _, Obj.data_mapDictKeys dt _, ks.push hk _, ?_, ?_⟩
    · unfold stored
      rw [fresh]
      simpa using p2
    · unfold stored
      rw [fresh]
      have : ((acc ++ [(k, v)]).map (·.1)).Nodup := by
        rw [List.map_append, List.nodup_append]
        exact ⟨nd, List.nodup_cons.mpr ⟨List.not_mem_nil, List.nodup_nil⟩, fun a ha b hb z => out (by rw [z, List.mem_singleton.mp hb] at ha; exact ha)⟩
      simpa using this
theorem put_walk {d : Addr} {acc : List (K × Value)} {k : K} {key v : Value} {Q : Unit → Shared → Prop} (hk : knd.is k key = true) (D : s.heap.DictOf knd d acc) (small : acc.length ≤ sizeLine)
    (then_ : ∀ h1, h1.DictOf knd d (stored acc k v) → Heap.SameBut d s.heap h1 → Q () { s with heap := h1 }) : wpAny (model prog w) A (dictPut d (knd.hash k) key v) Q E s := by
  obtain ⟨ob, es, n, g, dt, ks, sz, both⟩ := dictOf_put (v := v) hk D small
  unfold dictPut
  refine wpAny_bind (wpAny_dictFind_of hk g dt ks ?_)
  have := both _ rfl
  split
  · rename_i j hj
    rw [hj] at this
    exact wpAny_updateDict g dt (then_ _ this (Heap.SameBut.update ..))
  · rename_i hj
    rw [hj] at this
    exact wpAny_updateDictKeys (hz := sz) g dt (then_ _ this (Heap.SameBut.update ..))
/-- all that stands in one dict is put into another one -/
theorem merge_walk {d o : Addr} {acc src : List (K × Value)} {Q : Unit → Shared → Prop} (apart : d ≠ o) (noSys : (o == sysModules) = false) (noRef : ∀ k a, knd.is k (.ref a) = false)
    (D : s.heap.DictOf knd d acc) (S : s.heap.DictOf knd o src) (small : acc.length + src.length ≤ sizeLine)
    (then_ : ∀ h1, h1.DictOf knd d (merged acc src) → h1.DictOf knd o src → Heap.SameBut d s.heap h1 → Q () { s with heap := h1 }) : wpAny (model prog w) A (mergeMapping d (.ref o) false) Q E s := by
  obtain ⟨ob, es0, n0, g0, _, dt0, _, _, _⟩ := id D
  obtain ⟨so, es, n, gS, exS, dtS, ksS, prS, ndS⟩ := id S
  have lenS : src.length = es.size := by have := prS.length; simpa using this.symm
  unfold mergeMapping
  refine wpAny_bind (wpAny_isInstance S.typeIs isSubtype_dict_dict ?_)
  rw [if_pos rfl]
  refine wpAny_bind (wpAny_specialOf S.typeIs F.slot_dict_iter.lookup ?_)
  simp only [beq_self_eq_true]
  refine wpAny_bind (wpAny_pure ?_)
  simp only [noSys, Bool.false_eq_true, if_false]
  -- the turns, from the i-th entry on
  have turns : ∀ (m i : Nat) (h1 : Heap), i + m = es.size → h1.DictOf knd d (merged acc (src.take i)) → h1.get? o = some so → Heap.SameBut d s.heap h1 →
      wpAny (model prog w) A (forIn (List.range' i m) PUnit.unit fun j (_ : PUnit) => (do
          match (← dictEntries o)[j]? with
            | some e => do
              holding [e.key, e.val] (dictPut d e.hash e.key e.val)
              if (← dictEpoch o) != n then do
                (unsupported "dict.changed-during-merge" : Sem PUnit)
                pure (ForInStep.yield PUnit.unit)
              else pure (ForInStep.yield PUnit.unit)
            | _ => do
              (unsupported "dict.changed-during-merge" : Sem PUnit)
              pure (ForInStep.yield PUnit.unit) : Sem (ForInStep PUnit))) (fun _ t => wpAny (model prog w) A (pure ()) Q E t) E { s with heap := h1 } := by
    intro m
    induction m with
    | zero =>
      intro i h1 hi D1 g1 sb
      have all : src.take i = src := List.take_of_length_le (by omega)
      rw [all] at D1
      exact wpAny_pure (wpAny_pure (then_ h1 D1 ⟨so, es, n, g1, exS, dtS, ksS, prS, ndS⟩ sb))
    | succ m ih =>
      intro i h1 hi D1 g1 sb
      have lt : i < es.size := by omega
      obtain ⟨⟨k, v⟩, at_i⟩ : ∃ p, src[i]? = some p := ⟨src[i]'(by omega), List.getElem?_eq_getElem _⟩
      have e_i : es[i]? = some es[i] := Array.getElem?_eq_getElem lt
      obtain ⟨isK, isV⟩ := prS.get? (e := es[i]) (by simpa using e_i) at_i
      obtain ⟨k2, isK2, hash⟩ := ksS es[i] (Array.getElem_mem lt)
      have kk := knd.inj _ _ _ isK2 isK
      subst kk
      rw [List.range'_succ, List.forIn_cons]
      refine wpAny_bind (wpAny_bind (wpAny_dictEntries g1 dtS ?_))
      rw [e_i]
      have sm : (merged acc (src.take i)).length ≤ sizeLine := by
        have a := merged_length_le acc (src.take i)
        rw [List.length_take] at a
        omega
      refine wpAny_bind (wpAny_holding ?_)
      rw [hash, isV]
      refine put_walk isK D1 sm fun h2 D2 sb2 => ?_
      have g2 : h2.get? o = some so := (sb2.2 o apart.symm).trans g1
      refine wpAny_bind (wpAny_dictEpoch g2 dtS ?_)
      rw [if_neg (by simp)]
      rw [← merged_take_succ acc src i (k2, v) at_i] at D2
      exact wpAny_pure (ih (i + 1) h2 (by omega) D2 g2 (sb.trans sb2))
  have go := turns es.size 0 s.heap (Nat.zero_add _) (by simpa [merged] using D) gS (Heap.SameBut.refl _ _)
  rw [← List.range_eq_range'] at go
  have main : wpAny (model prog w) A (do
      let all ← dictEntries o
      let ep ← dictEpoch o
      for j in List.range all.size do
        let some e := (← dictEntries o)[j]? | unsupported "dict.changed-during-merge"
        holding [e.key, e.val] do
          dictPut d e.hash e.key e.val
        if (← dictEpoch o) != ep then unsupported "dict.changed-during-merge") Q E s :=
    wpAny_bind (wpAny_dictEntries gS dtS (wpAny_bind (wpAny_dictEpoch gS dtS (wpAny_bind go))))
  refine wpAny_bind (wpAny_dictEntries g0 dt0 ?_)
  split
  · refine wpAny_bind (wpAny_dictEntries gS dtS (wpAny_bind ?_))
    rw [← Array.forIn_toList]
    refine wpAny_forIn_list _ (fun left _ t => t = s ∧ ∀ e ∈ left, e ∈ es) _ ?_ ?_ _ _ ⟨rfl, fun e he => Array.mem_toList_iff.mp he⟩
    · rintro e left u t ⟨rfl, sub⟩
      split
      · rename_i a z
        obtain ⟨k2, isK, _⟩ := ksS e (sub e List.mem_cons_self)
        rw [z, noRef] at isK
        cases isK
      · exact wpAny_pure ⟨rfl, fun e he => sub e (List.mem_cons_of_mem _ he)⟩
    · rintro u t ⟨rfl, _⟩
      exact main
  · exact main
end
end PySem
end
section
set_option Elab.async false
set_option linter.all false
set_option maxRecDepth 100000
/-! TL14: dict displays by trees. -/
namespace TL
open PySem PySem.Spec PyProof.Rows L2

def tDStar (tm : TE) (trs : List (TE × TE)) : TE := fun σ H Q => ∀ p, H p = none → tm σ (upd H p (.dK [])) fun x H1 => H1 p = some (.dK []) ∧ ∃ (a : Addr) (kvs : List (Key × V)), x = .ref a ∧ a ≠ p ∧ Rd H1 a (.dK kvs) ∧ kvs.length ≤ 1000000 ∧
  ∀ q, q ≠ p → (upd H1 p (.dK kvs)) q = none → tPairs trs σ (upd (upd H1 p (.dK kvs)) q (.dK [])) fun ps H2 => H2 p = some (.dK kvs) ∧ H2 q = some (.dK []) ∧ ∃ more : List (Key × V), ps = more.map (fun kv => (kV kv.1, kv.2)) ∧ more.length ≤ 15 ∧
    Q (.ref p) (upd (upd H2 q (.dK (mergeK [] more))) p (.dK (mergeK kvs (mergeK [] more))))
theorem mix_nr {P : Program} {w : World} : ∀ (k : Key) (a : Addr), (mixKind P w).is k (.ref a) = false := fun k a => by
  cases h : (mixKind P w).is k (.ref a) with
  | false => rfl
  | true =>
    exact (by
      rcases keyIs_shape h with ⟨i, t, _, e⟩ | ⟨x, t, _, e⟩ <;> cases e)
theorem pe_dstar {X : Cx} {m k v : Expr} {pos : Pos} {tm : TE} {trs : List (TE × TE)} (hm : PE X m tm) (h : PPs X pos [some k] [v] trs) : PE X (.Dict [none, some k] [m, v] pos) (tDStar tm trs) := by
  refine ⟨fun pins s σ H Q I q => ?_⟩
  have hn := I.hok.fresh (Nat.le_refl s.heap.objs.size)
  have I1 := I.laid (a := s.heap.objs.size) (o := .dK []) (h' := s.heap.push { cls := .type "dict", data := .dict #[] }) (t' := s.toks) (fun _ _ q => Heap.get?_push_of_some _ q) (Nat.le_refl _) (dk_empty s.heap I.big)
  rw [arm_eval_Dict]
  refine wpAny_bind (wpAny_standAt ?_)
  have e0 : (evalEachOpt [none, some k] X.env).zip ((evalEach [m, v] X.env).map fun v => do let x ← v; standAt pos; pure x) = [(none, do let x ← eval m X.env; standAt pos; pure x), (some (eval k X.env), do let x ← eval v X.env; standAt pos; pure x)] := rfl
  rw [e0]
  conv in dictDisplay _ => (unfold dictDisplay; simp [List.forIn_cons, List.forIn_nil])
  refine wpAny_bind (wpAny_alloc ?_)
  refine wpAny_bind (wpAny_holding (wpAny_bind (thn (hm.run pins _ σ _ _ I1 (q _ hn)) fun mv s1 ⟨x, H1, I2, rx, e1, a, kvs, ex, hne, hd1, hl1, q1⟩ => wpAny_bind (wpAny_standAt (wpAny_pure ?_)))))
  subst ex
  obtain rfl : mv = .ref a := rx
  obtain ⟨_, hsp, vs0, r0, dd0⟩ := dk_of I2.hok e1
  cases r0
  obtain ⟨hz1, hsa, vs1, r1, dd1⟩ := dk_rd I2.hok hd1
  have hnd : (vs1.map (·.1)).Nodup := by obtain ⟨_, _, _, _, _, _, _, _, z⟩ := dd1; exact z
  have hlv : vs1.length = kvs.length := (Paired.length r1).symm
  refine wpAny_bind (wpAny_onRaise (wpAny_tryCatch (wpAny_onRaise (wpAny_holding (merge_walk (Ne.symm hne) hsa mix_nr dd0 dd1 (by rw [hlv]; simpa using hz1) (fun h' d1 d2 sb => ?_))))))
  rw [merged_nil_of_nodup vs1 hnd] at d1
  have he1 : ∃ q, h'.get? s.heap.objs.size = some q := let ⟨q, _, _, hq, _⟩ := d1; ⟨q, hq⟩
  have I3 := d_write (t' := s1.toks) I2 (by rw [e1]; exact True.intro) sb he1 (dk_new hz1 hsp r1 d1)
  have hn3 := I3.hok.fresh (Nat.le_refl h'.objs.size)
  have hqp : h'.objs.size ≠ s.heap.objs.size := fun e => by rw [e, upd_same] at hn3; cases hn3
  have I4 := I3.laid (a := h'.objs.size) (o := .dK []) (h' := h'.push { cls := .type "dict", data := .dict #[] }) (t' := s1.toks) (fun _ _ q => Heap.get?_push_of_some _ q) (Nat.le_refl _) (dk_empty h' I3.big)
  refine wpAny_bind (wpAny_holding (wpAny_subDict (knd := mixKind X.prog X.w) (Nat.succ_le_succ (Nat.zero_le 14)) (thn (h.run pins _ σ _ _ I4 (q1 _ hqp hn3)) fun ws s2 ⟨ps, H2, I5, rel, e2, e3, more, ep, hl, q2⟩ => ?_)))
  subst ep
  obtain ⟨rs, c, rk⟩ := carries_of (P := X.prog) (w := X.w) rel
  obtain ⟨_, hsq, vs2, r2, dd2⟩ := dk_of I5.hok e3
  cases r2
  refine ⟨rs, c, dd2, fun h2 dd3 sb2 => ?_⟩
  have hz : (mergeK [] more).length ≤ 15 := by
    have h1 := length_mergeK more []
    rw [List.length_nil] at h1
    omega
  have hz' : (mergeK [] more).length ≤ sizeLine := by rw [sizeLine_eq]; omega
  have he2 : ∃ q, h2.get? h'.objs.size = some q := let ⟨q, _, _, hq, _⟩ := dd3; ⟨q, hq⟩
  have I6 := d_write (t' := s2.toks + ws.length) I5 (by rw [e3]; exact True.intro) sb2 he2 (dk_new hz' hsq (rk.merge .nil) dd3)
  have e4 : (upd H2 h'.objs.size (.dK (mergeK [] more))) s.heap.objs.size = some (.dK kvs) := by rw [upd_ne hqp.symm]; exact e2
  have e5 : (upd H2 h'.objs.size (.dK (mergeK [] more))) h'.objs.size = some (.dK (mergeK [] more)) := upd_same
  obtain ⟨_, _, vs4, r4, dd4⟩ := dk_of I6.hok e4
  obtain ⟨_, _, vs5, r5, dd5⟩ := dk_of I6.hok e5
  have hl4 : vs4.length = kvs.length := (Paired.length r4).symm
  have hl5 : vs5.length = (mergeK [] more).length := (Paired.length r5).symm
  have hz6 : (mergeK kvs (mergeK [] more)).length ≤ sizeLine := by
    have h1 := length_mergeK (mergeK [] more) kvs
    rw [sizeLine_eq]; omega
  refine wpAny_bind (wpAny_onRaise (wpAny_holding (merge_walk (Ne.symm hqp) hsq mix_nr dd4 dd5 (by rw [hl4, hl5, sizeLine_eq]; omega) (fun h3 d6 d7 sb3 => wpAny_pure ?_))))
  have he3 : ∃ q, h3.get? s.heap.objs.size = some q := let ⟨q, _, _, hq, _⟩ := d6; ⟨q, hq⟩
  exact ⟨.ref s.heap.objs.size, _, d_write I6 (by rw [e4]; exact True.intro) sb3 he3 (dk_new hz6 hsp (r5.merge r4) d6), rfl, q2⟩
end TL
namespace TL
open PySem PySem.Spec PyProof.Rows L2
def mrg : List Key → List T → List (Key × T) → List Key × List T
  | ks, ts, [] => (ks, ts)
  | ks, ts, (k, t) :: r => mrg (putKs k ks) (putTs k t ks ts) r
def RepK (w : Wd) (more : List (Key × V)) (kts : List (Key × T)) : Prop := more.map Prod.fst = kts.map Prod.fst ∧ RepL w (more.map Prod.snd) (kts.map Prod.snd)
theorem merge_rep {w : Wd} : ∀ {kts : List (Key × T)} {more kvs : List (Key × V)} {ks : List Key} {ts : List T}, RepK w more kts → kvs.map Prod.fst = ks → ks.Nodup → RepL w (kvs.map Prod.snd) ts →
    (mergeK kvs more).map Prod.fst = (mrg ks ts kts).1 ∧ (mrg ks ts kts).1.Nodup ∧ RepL w ((mergeK kvs more).map Prod.snd) (mrg ks ts kts).2
  | [], [], kvs, ks, ts, _, e, nd, r => ⟨e, nd, r⟩
  | (k, t) :: r, (k', v) :: more, kvs, ks, ts, h, e, nd, l => by
    obtain ⟨h1, h2⟩ := h
    simp only [List.map_cons, List.cons.injEq] at h1
    obtain ⟨rfl, h1⟩ := h1
    cases h2 with
    | cons a b =>
      obtain ⟨p1, p2, p3⟩ := put_rep (k := k') a e nd l
      exact merge_rep (kts := r) (more := more) ⟨h1, b⟩ p1 p2 p3
  | [], _ :: _, _, _, _, h, _, _, _ => by have := h.1; simp at this
  | _ :: _, [], _, _, _, h, _, _, _ => by have := h.1; simp at this
def dispL : List (Ev T × Ev T) → Ev (List (Key × T))
  | [], _, M => .ok [] M
  | (fk, fv) :: r, τ, M => (fk τ M).bind fun t M1 => (fv τ M1).bind fun u M2 => match toK t with
    | some k => (dispL r τ M2).bind fun kts M3 => .ok ((k, u) :: kts) M3
    | none => .stuck
def eDisp (prs : List (Ev T × Ev T)) : Ev T := fun τ M => (dispL prs τ M).bind fun kts M' => if kts.length ≤ 15 then .ok (.dic (mrg [] [] kts).1 (mrg [] [] kts).2) M' else .stuck
def eDStar (fm : Ev T) (prs : List (Ev T × Ev T)) : Ev T := fun τ M => (fm τ M).bind fun t M1 => match t with
  | .dic ks ts => if ks.length ≤ 1000000 then (dispL prs τ M1).bind fun kts M2 => if kts.length ≤ 15 then .ok (.dic (mrg ks ts (List.zip (mrg [] [] kts).1 (mrg [] [] kts).2)).1 (mrg ks ts (List.zip (mrg [] [] kts).1 (mrg [] [] kts).2)).2) M2 else .stuck else .stuck
  | _ => .stuck
def toTrs (mg : Str → Option Value) (prs : List (Ev T × Ev T)) : List (TE × TE) := prs.map fun p => (tE mg false p.1, tE mg false p.2)
def SPs (X : Cx) (pos : Pos) (ks : List (Option Expr)) (vs : List Expr) (prs : List (Ev T × Ev T)) : Prop := PPs X pos ks vs (toTrs X.mg prs)
section
variable {X : Cx} {pos : Pos} {k v m : Expr} {ks : List (Option Expr)} {vs : List Expr} {fk fv fm : Ev T} {prs : List (Ev T × Ev T)}
theorem sps_nil : SPs X pos [] [] [] := pps_nil
theorem sps_cons (hk : SE false X k fk) (hv : SE false X v fv) (hr : SPs X pos ks vs prs) : SPs X pos (some k :: ks) (v :: vs) ((fk, fv) :: prs) := pps_cons hk hv hr
theorem pairs_imp {mg : Str → Option Value} : ∀ {prs : List (Ev T × Ev T)} {w : Wd} {σ : L2.St} {τ : Tau} {Q : List (V × V) → Hp → Prop}, Good mg w → Nm w σ τ →
    ((dispL prs τ w.M).all fun kts M' => ∀ w1 (more : List (Key × V)), Ext w w1 → Good mg w1 → w1.M = M' → RepK w1 more kts → Q (more.map fun kv => (kV kv.1, kv.2)) w1.H) → tPairs (toTrs mg prs) σ w.H Q
  | [], w, σ, τ, Q, g, n, q => q w [] (.refl w) g rfl ⟨rfl, .nil⟩
  | (fk, fv) :: r, w, σ, τ, Q, g, n, q => by
    refine ⟨w, τ, rfl, g, n, Res.all_mono (fun t M1 q w1 x x1 g1 e1 r1 _ => ?_) (Res.all_bind q)⟩
    subst e1
    refine ⟨w1, τ, rfl, g1, n.mono x1, Res.all_mono (fun u M2 q w2 y x2 g2 e2 r2 _ => ?_) (Res.all_bind q)⟩
    subst e2
    split at q
    · rename_i kk hk
      have ex := toK_rep r1 hk
      subst ex
      refine pairs_imp g2 ((n.mono x1).mono x2) (Res.all_mono (fun kts M3 q w3 more x3 g3 e3 r3 => ?_) (Res.all_bind q))
      subst e3
      exact q w3 ((kk, y) :: more) ((x1.trans x2).trans x3) g3 rfl ⟨by simp only [List.map_cons]; rw [r3.1], .cons (r2.mono x3) r3.2⟩
    · exact q.elim
theorem upd_cut {w : Wd} {D : Addr} {R0 : Addr → Prop} {ho : HO} : upd (w.cut D R0).H D ho = upd w.H D ho := by
  funext b
  by_cases h : b = D
  · rw [h, upd_same, upd_same]
  · rw [upd_ne h, upd_ne h]; exact if_neg h
theorem se_disp (h : SPs X pos ks vs prs) (hall : ks.all (·.isSome) = true := by rfl) (hl : ks.length = vs.length := by rfl) (h0 : ks ≠ [] := by exact List.cons_ne_nil _ _) (h15 : ks.length ≤ 15 := by decide) : SE true X (.Dict ks vs pos) (eDisp prs) := by
  refine pe_imp (pe_disp h hall hl h0 h15) fun σ H Q ⟨w, τ, e, g, n, q⟩ => ?_
  subst e
  intro p hp
  have gh := g.hold (ho := .dK []) hp
  have xh := Ext.hold (ho := .dK []) g hp
  refine pairs_imp (w := w.hold p (.dK [])) gh (n.mono xh) (Res.all_mono (fun kts M' q w1 more x1 g1 e1 rk => ?_) (Res.all_bind q))
  subst e1
  split at q
  · rename_i hl15
    have RD : w1.R p := x1.R p (.inr rfl)
    have xx := xh.trans x1
    have gc := g1.cut xx g hp RD
    have xc := Ext.cut xx g hp RD
    have hn : (w1.cut p w.R).H p = none := if_pos rfl
    have kc := Keep.cut (w0 := w) RD xx.R
    have rk' : RepK (w1.cut p w.R) more kts := ⟨rk.1, rk.2.kept kc⟩
    obtain ⟨m1, m2, m3⟩ := merge_rep rk' (kvs := []) rfl List.nodup_nil .nil
    refine ⟨(x1.Rk p (.inr rfl)).trans upd_same, more, rfl, ?_, ?_⟩
    · have := congrArg List.length rk.1
      rw [List.length_map, List.length_map] at this
      omega
    · have := post_dic (post_ext (w1 := w1.cut p w.R) q xc) gc hn m1 m2 m3
      rw [upd_cut] at this
      exact this
  · exact q.elim
theorem se_dstar (hm : SE false X m fm) (h : SPs X pos [some k] [v] prs) : SE true X (.Dict [none, some k] [m, v] pos) (eDStar fm prs) := by
  refine pe_imp (pe_dstar hm h) fun σ H Q ⟨w, τ, e, g, n, q⟩ => ?_
  subst e
  intro p hp
  have gh := g.hold (ho := .dK []) hp
  have xh := Ext.hold (ho := .dK []) g hp
  refine ⟨w.hold p (.dK []), τ, rfl, gh, n.mono xh, Res.all_mono (fun t M' q w1 x x1 g1 e1 r1 ff => ?_) (Res.all_bind q)⟩
  clear ff
  subst e1
  have RD : w1.R p := x1.R p (.inr rfl)
  have eD := (x1.Rk p (.inr rfl)).trans upd_same
  refine ⟨eD, ?_⟩
  split at q
  · rename_i ks ts
    split at q
    · rename_i hks
      cases r1 with
      | @dic a kvs _ _ nE d e1 nd l =>
      have hne : a ≠ p := fun e => nE (.inl (by rw [e]; exact RD))
      refine ⟨a, kvs, rfl, hne, d, by rw [← e1, List.length_map] at hks; exact hks, fun q0 hq0 hn0 => ?_⟩
      -- p is written, q0 laid
      have RD2 : (w1.wrR p (.dK kvs)).R p := RD
      have g2 : Good X.mg (w1.wrR p (.dK kvs)) := g1.wrR RD
      have x2 : Ext w (w1.wrR p (.dK kvs)) := Ext.wrR (xh.trans x1) g1 g hp RD
      have gh2 := g2.hold (ho := .dK []) hn0
      have xh2 := Ext.hold (ho := .dK []) g2 hn0
      refine pairs_imp (w := (w1.wrR p (.dK kvs)).hold q0 (.dK [])) gh2 ((n.mono x2).mono xh2) (Res.all_mono (fun kts M' q w3 more x3 g3 e3 rk => ?_) (Res.all_bind q))
      subst e3
      split at q
      · rename_i hl15
        have R3p : w3.R p := x3.R p (.inl RD)
        have R3q : w3.R q0 := x3.R q0 (.inr rfl)
        have e3p : w3.H p = some (.dK kvs) := (x3.Rk p (.inl RD)).trans (by show upd (upd w1.H p (.dK kvs)) q0 (.dK []) p = _; rw [upd_ne hq0.symm, upd_same])
        have e3q : w3.H q0 = some (.dK []) := (x3.Rk q0 (.inr rfl)).trans upd_same
        refine ⟨e3p, e3q, more, rfl, by have := congrArg List.length rk.1; rw [List.length_map, List.length_map] at this; omega, ?_⟩
        have l3 : RepL w3 (kvs.map Prod.snd) ts := ((l.kept (Keep.wrR (ho := .dK kvs) RD)).mono xh2).mono x3
        have x23 := xh2.trans x3
        have kA := Keep.cut (w0 := w1.wrR p (.dK kvs)) R3q x23.R
        have gA := g3.cut x23 g2 hn0 R3q
        have xA := Ext.cut x23 g2 hn0 R3q
        have hA : (w3.cut q0 (w1.wrR p (.dK kvs)).R).H q0 = none := if_pos rfl
        obtain ⟨m1, m2, m3⟩ := merge_rep (ks := []) ((⟨rk.1, rk.2.kept kA⟩ : RepK (w3.cut q0 (w1.wrR p (.dK kvs)).R) more kts)) (kvs := []) rfl List.nodup_nil .nil
        have xB := Ext.put (o := .dK (mergeK [] more)) gA hA
        have gB := gA.put (o := .dK (mergeK [] more)) hA
        have RB : ((w3.cut q0 (w1.wrR p (.dK kvs)).R).put q0 (.dK (mergeK [] more))).R p := RD
        have xwB := (x2.trans xA).trans xB
        have kC := Keep.cut (w0 := w) RB xwB.R
        have gC := gB.cut xwB g hp RB
        have xC := Ext.cut xwB g hp RB
        have hC : (((w3.cut q0 (w1.wrR p (.dK kvs)).R).put q0 (.dK (mergeK [] more))).cut p w.R).H p = none := if_pos rfl
        have rk2 : RepK (((w3.cut q0 (w1.wrR p (.dK kvs)).R).put q0 (.dK (mergeK [] more))).cut p w.R) (mergeK [] more) (List.zip (mrg [] [] kts).1 (mrg [] [] kts).2) := by
          have hlen : (mrg [] [] kts).1.length = (mrg [] [] kts).2.length := by
            have a := m3.length
            rw [List.length_map] at a
            rw [← a, ← m1, List.length_map]
          refine ⟨by rw [m1, List.map_fst_zip (Nat.le_of_eq hlen)], ?_⟩
          rw [List.map_snd_zip (Nat.le_of_eq hlen.symm)]
          exact (m3.mono xB).kept kC
        obtain ⟨o1, o2, o3⟩ := merge_rep rk2 e1 nd (((l3.kept kA).mono xB).kept kC)
        have := post_dic (post_ext (w1 := ((w3.cut q0 (w1.wrR p (.dK kvs)).R).put q0 (.dK (mergeK [] more))).cut p w.R) q xC) gC hC o1 o2 o3
        rw [upd_cut] at this
        have e9 : ((w3.cut q0 (w1.wrR p (.dK kvs)).R).put q0 (.dK (mergeK [] more))).H = upd w3.H q0 (.dK (mergeK [] more)) := upd_cut
        rw [e9] at this
        exact this
      · exact q.elim
    · exact q.elim
  · exact q.elim
end
end TL
end
section
set_option Elab.async false
set_option linter.all false
set_option maxRecDepth 100000
/-! TL15: dict comprehensions; going through a dict's keys; isinstance of an own class. -/
namespace TL
open PySem PySem.Spec PyProof.Rows L2

def dcompL (g : Tg) (c : Ev Bool) (fk fv : Ev T) (τ : Tau) : List T → List Key → List T → Sto → Res (List Key × List T)
  | [], ks, us, M => .ok (ks, us) M
  | t :: ts, ks, us, M => (g t τ M).bind fun τ1 M1 => (c τ1 M1).bind fun b M2 => if b then (fk τ1 M2).bind fun y M3 => (fv τ1 M3).bind fun z M4 => match toK y with
      | some k => if ks.length < 16777216 then dcompL g c fk fv τ ts (putKs k ks) (putTs k z ks us) M4 else .stuck
      | none => .stuck
    else dcompL g c fk fv τ ts ks us M2
def eDcomp (fi : Ev (List T)) (g : Tg) (c : Ev Bool) (fk fv : Ev T) (vs : List Nat) : Ev T := fun τ M => (fi τ M).bind fun ts M1 => (dcompL g c fk fv (wipeT τ vs) ts [] [] M1).bind fun r M2 => .ok (.dic r.1 r.2) M2
section
variable {mg : Str → Option Value} {fi : Ev (List T)} {gt : Tg} {fc : Ev Bool} {fk fv : Ev T} {vs sl : List Nat}
theorem dc_turns {Q : VK} {w1 : Wd} {σ : L2.St} {τ : Tau} {J : It} {ts : List T} {D : Addr} (hs : ∀ j ∈ sl, j ∈ vs) (g1 : Good mg w1) (n : Nm w1 σ τ) (y : Yld mg J w1 ts) (hD : w1.H D = none)
    (q : (dcompL gt fc fk fv (wipeT τ vs) ts [] [] w1.M).all fun r M' => ∀ w2 v, Ext w1 w2 → Good mg w2 → w2.M = M' → Rep w2 v (.dic r.1 r.2) → Fr mg w1 w2 v (.dic r.1 r.2) → Q v w2.H) :
    ∃ W : Nat → Nat → Hp → Prop, (∃ m, W 0 m (upd w1.H D (.dK []))) ∧ ∀ i m H, W i m H →
      (J.stop i H ∧ Q (.ref D) H) ∨ (J.go i H ∧ ∃ Nx : Hp → Prop, (∀ H', Nx H' → ∃ m', m' < m ∧ W (i + 1) m' H') ∧ ∀ x H', J.yld i H x H' → tG mg sl gt x (L2.wipe σ vs) H' fun σ2 H2 => L2.wipe σ2 vs = L2.wipe σ vs ∧ tT mg fc σ2 H2 fun b H3 =>
        if b = true then tE mg false fk σ2 H3 fun y H4 => tE mg false fv σ2 H4 fun z H5 => ∃ kvs k, y = L2.kV k ∧ H5 D = some (.dK kvs) ∧ kvs.length < sizeLine ∧ Nx (upd H5 D (.dK (putK kvs k z))) else Nx H3) := by
  refine ⟨fun i m H => m = ts.length - i ∧ i ≤ ts.length ∧ ∃ wi kvs ks us, wi.H = H ∧ Good mg wi ∧ Ext w1 wi ∧ wi.R D ∧ wi.H D = some (.dK kvs) ∧ kvs.map Prod.fst = ks ∧ ks.Nodup ∧ RepL wi (kvs.map Prod.snd) us ∧
      ((dcompL gt fc fk fv (wipeT τ vs) (ts.drop i) ks us wi.M).all fun r M' => ∀ w2 v, Ext w1 w2 → Good mg w2 → w2.M = M' → Rep w2 v (.dic r.1 r.2) → Fr mg w1 w2 v (.dic r.1 r.2) → Q v w2.H),
    ⟨ts.length, by simp, Nat.zero_le _, w1.hold D (.dK []), [], [], [], rfl, g1.hold hD, Ext.hold g1 hD, .inr rfl, upd_same, rfl, List.nodup_nil, .nil, by rw [List.drop_zero]; exact q⟩, ?_⟩
  rintro i m H ⟨rfl, hi, wi, kvs, ks, us, rfl, gi, xi, RD, eD, ek, nd, rl, q'⟩
  by_cases hlt : i < ts.length
  · refine .inr ⟨y.go i wi xi.toKF gi hlt, fun H' => i + 1 ≤ ts.length ∧ ∃ wi kvs ks us, wi.H = H' ∧ Good mg wi ∧ Ext w1 wi ∧ wi.R D ∧ wi.H D = some (.dK kvs) ∧ kvs.map Prod.fst = ks ∧ ks.Nodup ∧ RepL wi (kvs.map Prod.snd) us ∧
      ((dcompL gt fc fk fv (wipeT τ vs) (ts.drop (i + 1)) ks us wi.M).all fun r M' => ∀ w2 v, Ext w1 w2 → Good mg w2 → w2.M = M' → Rep w2 v (.dic r.1 r.2) → Fr mg w1 w2 v (.dic r.1 r.2) → Q v w2.H), fun H' ⟨h, r⟩ => ⟨ts.length - (i + 1), by omega, rfl, h, r⟩, fun x H' hy => ?_⟩
    rw [List.drop_eq_getElem_cons hlt] at q'
    obtain ⟨w2, rfl, x2, g2, m2, r2⟩ := y.yl i wi x H' xi.toKF gi hy _ (List.getElem?_eq_getElem hlt)
    rw [← m2] at q'
    refine ⟨w2, wipeT τ vs, _, rfl, g2, (n.wipe vs).mono (xi.trans x2), r2, Res.all_mono (fun τ1 M1 q w3 σ2 x3 g3 e3 n3 k3 => ?_) (Res.all_bind q')⟩
    subst e3
    refine ⟨wipe_eq hs k3, w3, τ1, rfl, g3, n3, Res.all_mono (fun b M2 q w4 x4 g4 e4 => ?_) (Res.all_bind q)⟩
    subst e4
    cases b with
    | false =>
      have xx := (x2.trans x3).trans x4
      exact ⟨hlt, w4, kvs, ks, us, rfl, g4, xi.trans xx, xx.R D RD, (xx.Rk D RD).trans eD, ek, nd, rl.mono xx, q⟩
    | true =>
      refine ⟨w4, τ1, rfl, g4, n3.mono x4, Res.all_mono (fun t M3 q w5 v x5 g5 e5 r5 _ => ?_) (Res.all_bind q)⟩
      subst e5
      refine ⟨w5, τ1, rfl, g5, (n3.mono x4).mono x5, Res.all_mono (fun t2 M4 q w6 z x6 g6 e6 r6 _ => ?_) (Res.all_bind q)⟩
      subst e6
      split at q
      · rename_i k hk
        split at q
        · rename_i hl
          have xx := (((x2.trans x3).trans x4).trans x5).trans x6
          have RD6 := xx.R D RD
          obtain ⟨p1, p2, p3⟩ := put_rep (k := k) r6 ek nd (rl.mono xx)
          subst ek
          rw [List.length_map] at hl
          refine ⟨kvs, k, toK_rep r5 hk, (xx.Rk D RD).trans eD, by rw [line_eq]; exact hl, hlt, w6.wrR D (.dK (putK kvs k z)), putK kvs k z, _, _, rfl, g6.wrR RD6, Ext.wrR (xi.trans xx) g6 g1 hD RD6, RD6, upd_same, p1, p2, p3.kept (Keep.wrR RD6), q⟩
        · exact q.elim
      · exact q.elim
  · have e : ts.drop i = [] := List.drop_of_length_le (by omega)
    rw [e] at q'
    refine .inl ⟨y.stop i wi xi.toKF gi (by omega), ?_⟩
    have q' := q' ((wi.cut D w1.R).put D (.dK kvs)) (.ref D)
    have hn : (wi.cut D w1.R).H D = none := if_pos rfl
    have gc := gi.cut xi g1 hD RD
    have rc : RepL (wi.cut D w1.R) (kvs.map Prod.snd) us := rl.kept (Keep.cut RD xi.R)
    have q' := q' ((Ext.cut xi g1 hD RD).trans (Ext.put gc hn)) (gc.put hn) rfl (put_dic gc hn ek nd rc) ⟨wi.cut D w1.R, D, rfl, Ext.cut xi g1 hD RD, gc, hn, .inr ⟨kvs, ks, us, rfl, ek, nd, rc, rfl⟩⟩
    rw [cut_put eD] at q'
    exact q'
theorem dc_imp {Q : VK} {σ : L2.St} {H : Hp} (hs : ∀ j ∈ sl, j ∈ vs) (h : tE mg true (eDcomp fi gt fc fk fv vs) σ H Q) : tDc (tI mg fi) (tG mg sl gt) (tT mg fc) (tE mg false fk) (tE mg false fv) vs σ H Q := by
  obtain ⟨w, τ, rfl, g, n, q⟩ := h
  refine ⟨w, τ, rfl, g, n, Res.all_mono (fun ts M' q w1 J x1 g1 e1 y D hD => ?_) (Res.all_bind q)⟩
  subst e1
  refine dc_turns hs g1 (n.mono x1) y hD (Res.all_mono (fun r M2 q w2 v x2 g2 e2 r2 f2 => ?_) (Res.all_bind q))
  exact q w2 v (x1.trans x2) g2 e2 r2 fun _ => f2.ext x1
end
section
variable {X : Cx} {kx vx tg iter : Expr} {ifs : List Expr} {scope : Scope} {pos : Pos} {fi : Ev (List T)} {gt : Tg} {fc : Ev Bool} {fk fv : Ev T} {sl : List Nat} {F : Bool}
theorem se_dcomp (own : List (Str × Nat)) (hN : X.N.Nodup) (hi : SI X tg iter fi) (hg : ∀ (s : Shared) (H : Hp) (C : Addr) (cl : List (Str × Addr)) (fp : List Addr), SG sl (X.blk s H scope (compEnvC scope cl C X.env) fp) tg gt)
    (ht : ∀ (s : Shared) (H : Hp) (C : Addr) (cl : List (Str × Addr)) (fp : List Addr), STs (X.blk s H scope (compEnvC scope cl C X.env) fp) ifs fc) (hk : ∀ (s : Shared) (H : Hp) (C : Addr) (cl : List (Str × Addr)) (fp : List Addr), SE false (X.blk s H scope (compEnvC scope cl C X.env) fp) kx fk)
    (he : ∀ (s : Shared) (H : Hp) (C : Addr) (cl : List (Str × Addr)) (fp : List Addr), SE false (X.blk s H scope (compEnvC scope cl C X.env) fp) vx fv)
    (ok : blkC X.N X.env.scope scope own = true := by decide +kernel) (hsl : ∀ j ∈ sl, j ∈ own.map (·.2) := by decide) (hc : X.calm = true := by rfl) (hs : ∀ x, foldedSetIterable iter X.env x = pure x := by intro _; rfl) :
    SE true X (.DictComp kx vx [⟨tg, iter, ifs, 0⟩] scope pos) (eDcomp fi gt fc fk fv (own.map (·.2))) :=
  pe_imp (pe_dc (g := tG X.mg sl gt) (tt := tT X.mg fc) (tk := tE X.mg false fk) (tv := tE X.mg false fv) hc hN hi (blkOk_by ok) hg ht hk he hs) fun σ H Q h => dc_imp hsl h
end
end TL
end
section
set_option Elab.async false
set_option linter.all false
set_option maxRecDepth 100000
/-! TL16: going through a dict's keys, the dict locked. -/
namespace TL
open PySem PySem.Spec PyProof.Rows L2

/-! ### a plain dict locked, let go -/
def Wd.lk (w : Wd) (d : Addr) (o : Obj) (kvs : List (Key × V)) : Wd := { w with H := upd w.H d (.frz o (.dK kvs)) }
def Wd.ul (w : Wd) (d : Addr) (kvs : List (Key × V)) : Wd := { w with H := upd w.H d (.dK kvs) }
section
variable {mg : Str → Option Value} {w w1 : Wd} {d : Addr} {o : Obj} {kvs : List (Key × V)}
theorem Ext.lk (g : Good mg w) (h : w.H d = some (.dK kvs)) (n : ¬ Ex w d) : Ext w (w.lk d o kvs) := by
  have ne : ∀ {a : Addr} {u : HO}, (∀ ks, u ≠ .dK ks) → w.H a = some u → a ≠ d := fun {a u} hu e z => by rw [z, h] at e; cases e; exact hu _ rfl
  refine ⟨fun a u hu e m => ⟨by show upd w.H d _ a = _; rw [upd_ne (ne (fun ks z => by rw [z] at hu; exact hu) e)]; exact e, m⟩, fun a ob u _ e m => ⟨by show upd w.H d _ a = _; rw [upd_ne (ne (u := .frz ob u) (fun ks z => HO.noConfusion z) e)]; exact e, m⟩, fun a u e m => ⟨?_, m⟩, fun a e => ?_, Nat.le_refl _, fun _ _ => rfl, fun _ h => h, fun a e => upd_ne fun z => n (.inl (by rw [← z]; exact e)), fun a o' u e => ?_⟩
  · by_cases z : a = d
    · subst z
      rcases e with e | ⟨_, e⟩
      · rw [h] at e; cases e; exact .inr ⟨o, upd_same⟩
      · rw [h] at e; cases e
    · rcases e with e | ⟨o', e⟩
      · exact .inl (by show upd w.H d _ a = _; rw [upd_ne z]; exact e)
      · exact .inr ⟨o', by show upd w.H d _ a = _; rw [upd_ne z]; exact e⟩
  · show upd w.H d _ a ≠ none
    by_cases z : a = d
    · rw [z, upd_same]; exact fun z => nomatch z
    · rw [upd_ne z]; exact e
  · show upd w.H d _ a = _
    rw [upd_ne (ne (u := .frz o' u) (fun ks z => HO.noConfusion z) e)]; exact e
theorem Good.lk (g : Good mg w) (h : w.H d = some (.dK kvs)) (n : ¬ Ex w d) : Good mg (w.lk d o kvs) := by
  have x := Ext.lk (o := o) g h n
  refine ⟨fun m u e => ?_, g.inj, fun a e => x.dom a (g.Rd a e)⟩
  obtain ⟨h1, h2, h3⟩ := g.own m u e
  refine ⟨h1, h2, ?_⟩
  rw [show (w.lk d o kvs).H ((w.lk d o kvs).ρ m) = w.H (w.ρ m) from upd_ne fun z => n (.inr ⟨m, u, e, z⟩)]
  exact h3.mono x
theorem Keep.ul (h : w1.H d = some (.frz o (.dK kvs))) : Keep w1 (w1.ul d kvs) := by
  refine ⟨fun a u hu e m => ⟨?_, m⟩, fun a ob u hu e m => ⟨?_, m⟩, fun a u e m => ⟨?_, m⟩, Nat.le_refl _, fun _ _ => rfl⟩
  · show upd w1.H d _ a = _
    rw [upd_ne (fun z => by rw [z, h] at e; cases e; exact hu)]
    exact e
  · show upd w1.H d _ a = _
    rw [upd_ne (fun z => by rw [z, h] at e; cases e; exact hu)]
    exact e
  · by_cases z : a = d
    · subst z
      rcases e with e | ⟨_, e⟩
      · rw [h] at e; cases e
      · rw [h] at e; cases e; exact .inl upd_same
    · rcases e with e | ⟨o', e⟩
      · exact .inl (by show upd w1.H d _ a = _; rw [upd_ne z]; exact e)
      · exact .inr ⟨o', by show upd w1.H d _ a = _; rw [upd_ne z]; exact e⟩
theorem Good.ul (g : Good mg w1) (h : w1.H d = some (.frz o (.dK kvs))) (n : ¬ Ex w1 d) : Good mg (w1.ul d kvs) := by
  refine ⟨fun m u e => ?_, g.inj, fun a e => ?_⟩
  · obtain ⟨h1, h2, h3⟩ := g.own m u e
    refine ⟨h1, h2, ?_⟩
    rw [show (w1.ul d kvs).H ((w1.ul d kvs).ρ m) = w1.H (w1.ρ m) from upd_ne fun z => n (.inr ⟨m, u, e, z⟩)]
    exact h3.kept (Keep.ul h)
  · show upd w1.H d _ a ≠ none
    by_cases z : a = d
    · rw [z, upd_same]; exact fun z => nomatch z
    · rw [upd_ne z]; exact g.Rd a e
theorem Ext.ul (g : Good mg w) (h : w.H d = some (.dK kvs)) (n : ¬ Ex w d) (x : Ext (w.lk d o kvs) w1) : Ext w (w1.ul d kvs) := by
  have x0 := Ext.lk (o := o) g h n
  have xx := x0.trans x
  have h1 : w1.H d = some (.frz o (.dK kvs)) := x.frz d _ _ upd_same
  have k := Keep.ul h1
  refine ⟨fun a u hu e m => let ⟨a1, a2⟩ := xx.keep a u hu e m; k.keep a u hu a1 a2, fun a ob u hu e m => let ⟨a1, a2⟩ := xx.keepF a ob u hu e m; k.keepF a ob u hu a1 a2, fun a u e m => let ⟨a1, a2⟩ := xx.keepD a u e m; k.keepD a u a1 a2, fun a e => ?_, xx.nx, xx.rho, xx.R, fun a e => ?_, fun a o' u e => ?_⟩
  · show upd w1.H d _ a ≠ none
    by_cases z : a = d
    · rw [z, upd_same]; exact fun z => nomatch z
    · rw [upd_ne z]; exact xx.dom a e
  · show upd w1.H d _ a = _
    rw [upd_ne fun z => n (.inl (by rw [← z]; exact e))]
    exact xx.Rk a e
  · show upd w1.H d _ a = _
    rw [upd_ne fun z => by rw [z, h] at e; cases e]
    exact xx.frz a o' u e
theorem notEx_ul (g : Good mg w) (h : w.H d = some (.dK kvs)) (n : ¬ Ex w d) (x : Ext (w.lk d o kvs) w1) : ¬ Ex w1 d :=
  (x.keepD d kvs (.inr ⟨o, upd_same⟩) n).2
theorem put_ul {w2 : Wd} {p : Addr} {u : HO} (hne : p ≠ d) : (w2.put p u).ul d kvs = (w2.ul d kvs).put p u := by
  unfold Wd.put Wd.ul
  congr 1
  funext b
  show upd (upd w2.H p u) d _ b = upd (upd w2.H d _) p u b
  by_cases z : b = d
  · subst z; rw [upd_same, upd_ne (Ne.symm hne), upd_same]
  · rw [upd_ne z]
    by_cases y : b = p
    · subst y; rw [upd_same, upd_same]
    · rw [upd_ne y, upd_ne y, upd_ne z]
theorem Fr.ul {v : V} {t : T} (g : Good mg w) (h : w.H d = some (.dK kvs)) (n : ¬ Ex w d) (f : Fr mg (w.lk d o kvs) w1 v t) : Fr mg w (w1.ul d kvs) v t := by
  obtain ⟨w2, p, rfl, x, g2, hp, r⟩ := f
  have h2 : w2.H d = some (.frz o (.dK kvs)) := x.frz d _ _ upd_same
  have n2 := notEx_ul g h n x
  have hne : p ≠ d := fun z => by rw [z, h2] at hp; cases hp
  refine ⟨w2.ul d kvs, p, rfl, Ext.ul g h n x, g2.ul h2 n2, by show upd w2.H d _ p = none; rw [upd_ne hne]; exact hp, ?_⟩
  rcases r with ⟨vs, ts, e, l, rfl⟩ | ⟨kv, ks, ts, e, e2, nd, l, rfl⟩
  · exact .inl ⟨vs, ts, e, l.kept (Keep.ul h2), put_ul hne⟩
  · exact .inr ⟨kv, ks, ts, e, e2, nd, l.kept (Keep.ul h2), put_ul hne⟩
end

/-! ### where the dict lies -/
structure LocI (X : Cx) (tg e : Expr) (Loc : L2.St → Hp → Addr → Prop) (fi : Tau → Sto → Option (List Key)) : Prop where
  run : PI X tg e (fun σ H R => ∃ d o kvs, Loc σ H d ∧ H d = some (.frz o (.dK kvs)) ∧ R (Itk d o kvs) H)
  lock : ∀ σ H d kvs o, Loc σ H d → H d = some (.dK kvs) → Loc σ (upd H d (.frz o (.dK kvs))) d
  find : ∀ w σ τ ks, Nm w σ τ → fi τ w.M = some ks → ∃ d kvs, Loc σ w.H d ∧ Rd w.H d (.dK kvs) ∧ ¬ Ex w d ∧ kvs.map Prod.fst = ks
def iK (fi : Tau → Sto → Option (List Key)) : Ev (List T) := fun τ M => match fi τ M with
  | some ks => .ok (ks.map ofK) M
  | none => .stuck
theorem yld_keys {mg : Str → Option Value} {w : Wd} {d : Addr} {o : Obj} {kvs : List (Key × V)} (h : w.H d = some (.frz o (.dK kvs))) : Yld mg (Itk d o kvs) w ((kvs.map Prod.fst).map ofK) where
  go := fun i w1 x1 g1 hi => ⟨x1.frz d _ _ h, by simpa using hi⟩
  yl := fun i w1 x H' x1 g1 hy t ht => by
    obtain ⟨rfl, k, v, e, rfl⟩ := hy
    rw [List.map_map, List.getElem?_map, e] at ht
    cases ht
    exact ⟨w1, rfl, .refl w1, g1, rfl, ofK_rep k⟩
  stop := fun i w1 x1 g1 hi => ⟨x1.frz d _ _ h, by simpa using hi⟩
section
variable {X : Cx} {tg e : Expr} {Loc : L2.St → Hp → Addr → Prop} {fi : Tau → Sto → Option (List Key)} {F : Bool}
theorem lock_imp {t : TE} {f : Ev T} (L : LocI X tg e Loc fi) (hf : ∀ τ M, fi τ M = none → f τ M = .stuck)
    (K : ∀ (w : Wd) σ τ Q d o kvs, Good X.mg w → Nm w σ τ → Loc σ w.H d → w.H d = some (.frz o (.dK kvs)) → fi τ w.M = some (kvs.map Prod.fst) → post X.mg F Q w (f τ w.M) → t σ w.H Q) {σ : L2.St} {H : Hp} {Q : VK}
    (h : tE X.mg F f σ H Q) : tLockE t σ H Q ∨ t σ H Q := by
  obtain ⟨w, τ, rfl, g, n, q⟩ := h
  cases hfi : fi τ w.M with
  | none => rw [hf _ _ hfi] at q; exact q.elim
  | some ks =>
    obtain ⟨d, kvs, hl, hd, nE, ek⟩ := L.find w σ τ ks n hfi
    subst ek
    rcases hd with hd | ⟨o, hd⟩
    · refine .inl ⟨d, .dK kvs, hd, True.intro, fun od => ?_⟩
      refine K (w.lk d od kvs) σ τ _ d od kvs (g.lk hd nE) (n.mono (Ext.lk g hd nE)) (L.lock _ _ _ _ _ hl hd) upd_same hfi (Res.all_mono (fun t M' q w1 v x1 g1 e1 r1 f1 => ?_) q)
      have h1 : w1.H d = some (.frz od (.dK kvs)) := x1.frz d _ _ upd_same
      exact ⟨h1, q (w1.ul d kvs) v (Ext.ul g hd nE x1) (g1.ul h1 (notEx_ul g hd nE x1)) e1 (r1.kept (Keep.ul h1)) fun z => (f1 z).ul g hd nE⟩
    · exact .inr (K w σ τ Q d o kvs g n hl hd hfi q)
theorem pe_orE {e : Expr} {t t' : TE} (h : PE X e t) (h' : PE X e t') : PE X e (fun σ H Q => t σ H Q ∨ t' σ H Q) := ⟨fun p s σ H Q I q => q.elim (h.run p s σ H Q I) (h'.run p s σ H Q I)⟩
theorem ps_orE {st : Stmt} {t t' : TS} (h : PS X st t) (h' : PS X st t') : PS X st (fun D σ H => t D σ H ∨ t' D σ H) := ⟨fun p s σ H D I q => q.elim (h.run p s σ H D I) (h'.run p s σ H D I)⟩
theorem lockS_imp {t : TS} {f : Ev Fl} (L : LocI X tg e Loc fi) (hf : ∀ τ M, fi τ M = none → f τ M = .stuck)
    (K : ∀ (w : Wd) σ τ D d o kvs, Good X.mg w → Nm w σ τ → Loc σ w.H d → w.H d = some (.frz o (.dK kvs)) → fi τ w.M = some (kvs.map Prod.fst) → postS X.mg F D w (f τ w.M) → t D σ w.H) {D : Ends} {σ : L2.St} {H : Hp}
    (h : tS X.mg F f D σ H) : tLock t D σ H ∨ t D σ H := by
  obtain ⟨w, τ, rfl, g, n, q⟩ := h
  cases hfi : fi τ w.M with
  | none => rw [hf _ _ hfi] at q; exact q.elim
  | some ks =>
    obtain ⟨d, kvs, hl, hd, nE, ek⟩ := L.find w σ τ ks n hfi
    subst ek
    rcases hd with hd | ⟨o, hd⟩
    · refine .inl ⟨d, .dK kvs, hd, True.intro, fun od => ?_⟩
      refine K (w.lk d od kvs) σ τ _ d od kvs (g.lk hd nE) (n.mono (Ext.lk g hd nE)) (L.lock _ _ _ _ _ hl hd) upd_same hfi (Res.all_mono (fun fl M' q w1 x1 g1 e1 => ?_) q)
      have h1 : w1.H d = some (.frz od (.dK kvs)) := x1.frz d _ _ upd_same
      have q := q (w1.ul d kvs) (Ext.ul g hd nE x1) (g1.ul h1 (notEx_ul g hd nE x1)) e1
      have nk : ∀ {σ' τ'}, Nm w1 σ' τ' → Nm (w1.ul d kvs) σ' τ' := fun {σ' τ'} m => ⟨m.len, fun i t z => let ⟨v, a, b⟩ := m.at_ i t z; ⟨v, a, b.kept (Keep.ul h1)⟩⟩
      cases fl with
      | nx τ' => exact fun σ' m => ⟨h1, q σ' (nk m)⟩
      | ct τ' => exact fun σ' m => ⟨h1, q σ' (nk m)⟩
      | bk τ' => exact fun σ' m => ⟨h1, q σ' (nk m)⟩
      | rt t => exact fun v r f => ⟨h1, q v (r.kept (Keep.ul h1)) fun z => (f z).ul g hd nE⟩
    · exact .inr (K w σ τ D d o kvs g n hl hd hfi q)
end
section
variable {X : Cx} {elt kx vx tg iter : Expr} {ifs : List Expr} {sts : List Stmt} {scope : Scope} {pos : Pos} {fi : Tau → Sto → Option (List Key)} {Loc : L2.St → Hp → Addr → Prop} {gt : Tg} {fc : Ev Bool} {fe fk fv : Ev T} {f : Ev Fl} {sl : List Nat} {F : Bool}
theorem se_compK (own : List (Str × Nat)) (hN : X.N.Nodup) (L : LocI X tg iter Loc fi) (hg : ∀ (s : Shared) (H : Hp) (C : Addr) (cl : List (Str × Addr)) (fp : List Addr), SG sl (X.blk s H scope (compEnvC scope cl C X.env) fp) tg gt)
    (ht : ∀ (s : Shared) (H : Hp) (C : Addr) (cl : List (Str × Addr)) (fp : List Addr), STs (X.blk s H scope (compEnvC scope cl C X.env) fp) ifs fc) (he : ∀ (s : Shared) (H : Hp) (C : Addr) (cl : List (Str × Addr)) (fp : List Addr), SE false (X.blk s H scope (compEnvC scope cl C X.env) fp) elt fe)
    (ok : blkC X.N X.env.scope scope own = true := by decide +kernel) (hsl : ∀ j ∈ sl, j ∈ own.map (·.2) := by decide) (hc : X.calm = true := by rfl) (hs : ∀ x, foldedSetIterable iter X.env x = pure x := by intro _; rfl) :
    SE true X (.ListComp elt [⟨tg, iter, ifs, 0⟩] scope pos) (eComp (iK fi) gt fc fe (own.map (·.2))) := by
  have P := pe_lc (pos := pos) (g := tG X.mg sl gt) (tt := tT X.mg fc) (te := tE X.mg false fe) hc hN L.run (blkOk_by ok) hg ht he hs
  refine pe_imp (pe_orE (pe_lock P) P) fun σ H Q h => lock_imp L (fun τ M h => by unfold eComp iK; rw [h]; rfl) (fun w σ τ Q d o kvs g n hl hd hfi q => ?_) h
  refine ⟨d, o, kvs, hl, hd, fun D hD => ?_⟩
  have e1 : iK fi τ w.M = .ok ((kvs.map Prod.fst).map ofK) w.M := by unfold iK; rw [hfi]
  unfold eComp at q
  rw [e1] at q
  have q : post X.mg true Q w (if ((kvs.map Prod.fst).map ofK).length ≤ 16777216 then (compL gt fc fe (wipeT τ (own.map (·.2))) ((kvs.map Prod.fst).map ofK) w.M).bind fun ys M2 => .ok (.lst ys) M2 else .stuck) := q
  split at q
  · rename_i hl
    refine lc_turns hsl g n (yld_keys hd) hl hD (Res.all_mono (fun ys M2 q w2 v x2 g2 e2 r2 f2 => ?_) (Res.all_bind q))
    exact q w2 v x2 g2 e2 r2 fun _ => f2
  · exact q.elim
theorem se_dcompK (own : List (Str × Nat)) (hN : X.N.Nodup) (L : LocI X tg iter Loc fi) (hg : ∀ (s : Shared) (H : Hp) (C : Addr) (cl : List (Str × Addr)) (fp : List Addr), SG sl (X.blk s H scope (compEnvC scope cl C X.env) fp) tg gt)
    (ht : ∀ (s : Shared) (H : Hp) (C : Addr) (cl : List (Str × Addr)) (fp : List Addr), STs (X.blk s H scope (compEnvC scope cl C X.env) fp) ifs fc) (hk : ∀ (s : Shared) (H : Hp) (C : Addr) (cl : List (Str × Addr)) (fp : List Addr), SE false (X.blk s H scope (compEnvC scope cl C X.env) fp) kx fk)
    (he : ∀ (s : Shared) (H : Hp) (C : Addr) (cl : List (Str × Addr)) (fp : List Addr), SE false (X.blk s H scope (compEnvC scope cl C X.env) fp) vx fv)
    (ok : blkC X.N X.env.scope scope own = true := by decide +kernel) (hsl : ∀ j ∈ sl, j ∈ own.map (·.2) := by decide) (hc : X.calm = true := by rfl) (hs : ∀ x, foldedSetIterable iter X.env x = pure x := by intro _; rfl) :
    SE true X (.DictComp kx vx [⟨tg, iter, ifs, 0⟩] scope pos) (eDcomp (iK fi) gt fc fk fv (own.map (·.2))) := by
  have P := pe_dc (pos := pos) (g := tG X.mg sl gt) (tt := tT X.mg fc) (tk := tE X.mg false fk) (tv := tE X.mg false fv) hc hN L.run (blkOk_by ok) hg ht hk he hs
  refine pe_imp (pe_orE (pe_lock P) P) fun σ H Q h => lock_imp L (fun τ M h => by unfold eDcomp iK; rw [h]; rfl) (fun w σ τ Q d o kvs g n hl hd hfi q => ?_) h
  refine ⟨d, o, kvs, hl, hd, fun D hD => ?_⟩
  have e1 : iK fi τ w.M = .ok ((kvs.map Prod.fst).map ofK) w.M := by unfold iK; rw [hfi]
  unfold eDcomp at q
  rw [e1] at q
  have q : post X.mg true Q w ((dcompL gt fc fk fv (wipeT τ (own.map (·.2))) ((kvs.map Prod.fst).map ofK) [] [] w.M).bind fun r M2 => .ok (.dic r.1 r.2) M2) := q
  refine dc_turns hsl g n (yld_keys hd) hD (Res.all_mono (fun r M2 q w2 v x2 g2 e2 r2 f2 => ?_) (Res.all_bind q))
  exact q w2 v x2 g2 e2 r2 fun _ => f2
theorem ss_forK (L : LocI X tg iter Loc fi) (hg : SG sl X tg gt) (hb : SB F X sts f) (hp : PassesOwn (model X.prog X.w) X.A X.env X.xe := by exact PassesOwn.never) (hc : X.calm = true := by rfl)
    (hs : ∀ x, foldedSetIterable iter X.env x = pure x := by intro _; rfl) : SS F X (.For tg iter sts [] pos) (sFor (iK fi) gt f) := by
  have P := ps_for (pos := pos) hp hc L.run hg hb hs
  refine ps_imp (ps_orE (ps_lock P) P) fun D σ H h => lockS_imp L (fun τ M h => by unfold sFor iK; rw [h]; rfl) (fun w σ τ D d o kvs g n hl hd hfi q => ?_) h
  refine ⟨d, o, kvs, hl, hd, ?_⟩
  have e1 : iK fi τ w.M = .ok ((kvs.map Prod.fst).map ofK) w.M := by unfold iK; rw [hfi]
  unfold sFor at q
  rw [e1] at q
  exact for_imp g n (yld_keys hd) q
end
/-! ### the dict is a name's, or stands under a key of a name's dict -/
def pkVar (i : Nat) : Tau → Sto → Option (List Key) := fun τ _ => match τ[i]? with
  | some (some (.dic ks _)) => some ks
  | _ => none
def pkIx (i : Nat) (c : Str) : Tau → Sto → Option (List Key) := fun τ _ => match τ[i]? with
  | some (some (.dic ks ts)) => match lkT (.inr c) ks ts with
    | some (.dic ls _) => some ls
    | _ => none
  | _ => none
section
variable {X : Cx} {tg : Expr} {pos p2 : Pos}
theorem lo_var {i : Nat} {x : Str} (hN : X.N[i]? = some x := by rfl) (hv : Vis X.env.scope x := by first | exact .inl rfl | exact .inr (.inl rfl) | exact .inr (.inr rfl)) (hd : (x == ("__debug__" : Str)) = false := by decide) (hcd : (x == ("__classdict__" : Str)) = false := by decide) :
    LocI X tg (.Name x pos) (fun σ _ d => σ[i]? = some (some (.ref d))) (pkVar i) where
  run := pi_imp (pi_keys (pe_var hN hv hd hcd)) fun σ H R ⟨d, o, kvs, hl, hf, r⟩ => ⟨_, hl, d, o, rfl, .inl ⟨kvs, hf, r⟩⟩
  lock := fun σ H d kvs o hl _ => hl
  find := fun w σ τ ks n h => by
    unfold pkVar at h
    split at h
    · rename_i ls ts ht
      cases h
      obtain ⟨v, h1, r⟩ := n.at_ i _ ht
      cases r with
      | dic nE d e nd l => exact ⟨_, _, h1, d, nE, e⟩
    · cases h
theorem lo_ix {k i : Nat} {x c : Str} {j} {p3 : Pos} (hr : Room k X.A) (hN : X.N[i]? = some x := by rfl) (hv : Vis X.env.scope x := by first | exact .inl rfl | exact .inr (.inl rfl) | exact .inr (.inr rfl)) (hd : (x == ("__debug__" : Str)) = false := by decide) (hcd : (x == ("__classdict__" : Str)) = false := by decide) :
    LocI X tg (.Subscript (.Name x pos) (.Constant (.str c) j p2) p3) (fun σ H d => ∃ a kvs, σ[i]? = some (some (.ref a)) ∧ Rd H a (.dK kvs) ∧ valV kvs (.inr c) = some (.ref d)) (pkIx i c) where
  run := pi_imp (pi_keys (pe_ix (ix_dict (by have := hr.un; omega)) (pe_var hN hv hd hcd) pe_str (fun _ _ => rfl))) fun σ H R ⟨d, o, kvs, ⟨a, kv, h1, h2, h3⟩, hf, r⟩ => ⟨_, h1, a, .ref d, rfl, .inl ⟨kv, .inr c, h2, rfl, h3.symm⟩, d, o, rfl, .inl ⟨kvs, hf, r⟩⟩
  lock := fun σ H d kvs o ⟨a, kv, h1, h2, h3⟩ hd => by
    refine ⟨a, kv, h1, ?_, h3⟩
    by_cases z : a = d
    · subst z
      rcases h2 with h2 | ⟨_, h2⟩
      · rw [hd] at h2; cases h2; exact .inr ⟨o, upd_same⟩
      · rw [hd] at h2; cases h2
    · rcases h2 with h2 | ⟨o', h2⟩
      · exact .inl (by rw [upd_ne z]; exact h2)
      · exact .inr ⟨o', by rw [upd_ne z]; exact h2⟩
  find := fun w σ τ ks n h => by
    unfold pkIx at h
    split at h
    · rename_i ls ts ht
      split at h
      · rename_i ls2 us hk
        cases h
        obtain ⟨v, h1, r⟩ := n.at_ i _ ht
        cases r with
        | dic nE d e nd l =>
          subst e
          rcases lk_val (k := .inr c) l with ⟨v, t', a1, a2, a3⟩ | ⟨a1, a2⟩
          · rw [hk] at a2
            cases a2
            cases a3 with
            | dic nE2 d2 e2 nd2 l2 => exact ⟨_, _, ⟨_, _, h1, d, a1⟩, d2, nE2, e2⟩
          · rw [hk] at a2; cases a2
      · cases h
    · cases h
end
end TL
end
section
set_option Elab.async false
set_option linter.all false
set_option maxRecDepth 100000
/-! TL17: isinstance of an own class. -/
namespace TL
open PySem PySem.Spec PyProof.Rows L2
def kIsO (c : Str) : T → Sto → Res T
  | .ref n, M => match M.get n with
    | some (.ins c' _ _) => if c' = c then .ok (.bl true) M else .stuck
    | _ => .stuck
  | _, _ => .stuck
section
variable {X : Cx} {a : Expr} {fa : Ev T} {c : Str} {p q0 pos : Pos} {at_ : List Str}
theorem se_isiO (B : Blt X.mg) (C : ClsF X.K X.mg c at_) (ha : SE false X a fa) (hg : Gl X "isinstance" := by rfl) (hgc : Gl X c := by rfl) (hdb : (c == ("__debug__" : Str)) = false := by decide)
    (hs : starEach [a, .Name c q0] X.env = (false, eval a X.env) :: starEach [.Name c q0] X.env := by rfl) (hpl : (backTo pos (starEach [.Name c q0] X.env)).any (·.1) = false := by rfl) : SE false X (.Call (.Name "isinstance" p) [a, .Name c q0] [] pos) (e1 (kIsO c) fa) := by
  obtain ⟨C0, hm, cl, _, hcl, hsp, htk, hmr, hkp⟩ := C
  have I0 : C8.InsC X.K C0 := ⟨cl, hcl, hsp, htk, hmr, if_pos (beq_self_eq_true _)⟩
  refine pe_imp (pe_callB (C8.call_isC I0) hg B.isinstance PyProof.Rows.boot_isinstance (pa_cons ha (pa_cons (pe_glob hgc hm (v := .ref C0) rfl hdb) pa_nil) hs) (by decide) (by decide) hs hpl) fun σ H Q ⟨w, τ, e, g, n, q⟩ => ?_
  subst e
  refine ⟨w, τ, rfl, g, n, Res.all_mono (fun t M1 q' w1 v x1 g1 e1 r1 _ => ?_) (Res.all_bind q)⟩
  clear q
  subst e1
  unfold kIsO at q'
  split at q'
  · split at q'
    · rename_i c' fs ts hM
      split at q'
      · rename_i hc
        subst hc
        cases r1 with
        | ref n0 hn =>
          obtain ⟨_, _, C1, dx, kvs, h1, h2, _⟩ := g1.own _ _ hM
          rw [hm] at h1
          cases h1
          exact ⟨_, dx, kvs, rfl, h2, post_ok (post_ext q' x1) g1 (.bl _)⟩
      · exact q'.elim
    · exact q'.elim
  · exact q'.elim
end
end TL
end
section
set_option Elab.async false
set_option linter.all false
set_option maxRecDepth 100000
/-! TL18: {}; a def of which nothing is asked; what is known of the names. -/
namespace TL
open PySem PySem.Spec PyProof.Rows L2
section
variable {X : Cx} {elt tg iter : Expr} {ifs : List Expr} {scope : Scope} {pos : Pos} {fi : Tau → Sto → Option (List Key)} {Loc : L2.St → Hp → Addr → Prop} {gt : Tg} {fc : Ev Bool} {fe : Ev T} {sl : List Nat} {F : Bool}
theorem ss_setLcK {i : Nat} {y : Str} {py spos : Pos} (own : List (Str × Nat)) (hN : X.N.Nodup) (L : LocI X tg iter Loc fi) (hg : ∀ (s : Shared) (H : Hp) (C : Addr) (cl : List (Str × Addr)) (fp : List Addr), SG sl (X.blk s H scope (compEnvC scope cl C X.env) fp) tg gt)
    (ht : ∀ (s : Shared) (H : Hp) (C : Addr) (cl : List (Str × Addr)) (fp : List Addr), STs (X.blk s H scope (compEnvC scope cl C X.env) fp) ifs fc) (he : ∀ (s : Shared) (H : Hp) (C : Addr) (cl : List (Str × Addr)) (fp : List Addr), SE false (X.blk s H scope (compEnvC scope cl C X.env) fp) elt fe)
    (hsw : swapsWith (.ListComp elt [⟨tg, iter, ifs, 0⟩] scope pos) (some (.Name y py)) spos.line X.env = pure true := by exact sw_true rfl rfl rfl (by decide +kernel))
    (ok : blkC X.N X.env.scope scope own = true := by decide +kernel) (hsl : ∀ j ∈ sl, j ∈ own.map (·.2) := by decide) (hy : X.N[i]? = some y := by rfl) (hyl : X.env.scope.names.lookup y = some .local := by rfl) (hc : X.calm = true := by rfl) (hs : ∀ x, foldedSetIterable iter X.env x = pure x := by intro _; rfl) :
    SS F X (.Assign [.Name y py] (.ListComp elt [⟨tg, iter, ifs, 0⟩] scope pos) spos) (sAsg (eComp (iK fi) gt fc fe (own.map (·.2))) (gN i)) := by
  have P := ps_setLc (pos := pos) (py := py) (spos := spos) (g := tG X.mg sl gt) (tt := tT X.mg fc) (te := tE X.mg false fe) hc hN hy hyl hsw L.run (blkOk_by ok) hg ht he hs
  refine ps_imp (ps_orE (ps_lock P) P) fun D σ H h => lockS_imp L (fun τ M h => by unfold sAsg eComp iK; rw [h]; rfl) (fun w σ τ D d o kvs g n hl hd hfi q => ?_) h
  refine ⟨d, o, kvs, hl, hd, fun D0 hD => ?_⟩
  have e1 : iK fi τ w.M = .ok ((kvs.map Prod.fst).map ofK) w.M := by unfold iK; rw [hfi]
  unfold sAsg eComp at q
  rw [e1] at q
  have q : postS X.mg F D w ((if ((kvs.map Prod.fst).map ofK).length ≤ 16777216 then (compL gt fc fe (wipeT τ (own.map (·.2))) ((kvs.map Prod.fst).map ofK) w.M).bind fun ys M2 => Res.ok (T.lst ys) M2 else .stuck).bind fun t M1 => (gN i t τ M1).bind fun τ' M2 => .ok (.nx τ') M2) := q
  split at q
  · rename_i hl
    refine lc_turns (Q := fun x H1 => L2.gName i x σ H1 D.nx) hsl g n (yld_keys hd) hl hD (Res.all_mono (fun ys M2 q w2 v x2 g2 e2 r2 f2 => ?_) (Res.all_bind (Res.all_bind q)))
    subst e2
    refine gName_imp (mg := X.mg) ⟨w2, τ, _, rfl, g2, n.mono x2, r2, fun w3 σ' x3 g3 e3 n3 _ => ?_⟩
    exact q w3 (x2.trans x3) g3 e3 σ' n3
  · exact q.elim
end
def eDnew : Ev T := fun _ M => .ok (.dic [] []) M
section
variable {X : Cx} {pos : Pos}
theorem se_dnew : SE true X (.Dict [] [] pos) eDnew := by
  refine pe_imp pe_dnewK fun σ H Q ⟨w, τ, e, g, n, q⟩ => ?_
  subst e
  intro p hp
  exact post_dic (kvs := []) q g hp rfl List.nodup_nil .nil
end
section
variable {P : Program} {w : World} {K : PySem.W.Frag} {mg : Str → Option Value} {base : Heap}
def gNo : List T → Sto → Res T := fun _ _ => .stuck
theorem fn_ok0 {x qual : Str} {params : Arguments} {body : List Stmt} {scope : Scope} {dvs : List V} {kws : List (Str × V)} {f : Addr} {fd : FuncData} {N ps : List Str} {k : Nat} {F : Bool}
    (F0 : FunD K x qual params body scope dvs kws f fd) (S : FnScope N ps scope) : FnOk P w K mg base CX0 (k + 1) f fd ps (spRun mg F ps.length gNo) := by
  refine F0.ok S (fun vs H Q E h => h.1) fun cdv A outer s H vs Q E hr h => ?_
  obtain ⟨hl, w0, ts, e, g, r, q⟩ := h
  exact q.elim
theorem fn_okN {x qual : Str} {params : Arguments} {body : List Stmt} {scope : Scope} {dvs : List V} {kws : List (Str × V)} {f : Addr} {fd : FuncData} (N ps : List Str) (F : Bool) (k n m : Nat) (fb : Ev Fl)
    (F0 : FunD K x qual params body scope dvs kws f fd) (S : FnScope N ps scope) (hn : N.length = n) (hm : ps.length = m)
    (hb : ∀ (cdv : Value) (A : Around) (outer : List PySem.Env) (s : Shared) (H : Hp) (E : XK), Room k (A.deeper (envOfC qual scope s.heap.objs.size f cdv)) → SB F (cxOf CX0 P w K mg base N qual scope f cdv A outer s H E).nox body fb) :
    FnOk P w K mg base CX0 (k + 1) f fd ps (spRun mg F m (fnRun F n fb)) := by
  subst hn hm
  exact fn_ok F0 S hb
theorem fn_ok0N {x qual : Str} {params : Arguments} {body : List Stmt} {scope : Scope} {dvs : List V} {kws : List (Str × V)} {f : Addr} {fd : FuncData} (N ps : List Str) (F : Bool) (k m : Nat)
    (F0 : FunD K x qual params body scope dvs kws f fd) (S : FnScope N ps scope) (hm : ps.length = m) : FnOk P w K mg base CX0 (k + 1) f fd ps (spRun mg F m gNo) := by
  subst hm
  exact fn_ok0 F0 S
/-- what the def at hand is -/
structure Def (K : PySem.W.Frag) (mg : Str → Option Value) (x qual : Str) (st : Stmt) (ps : List Str) (dvs : List V) (f : Addr) (fd : FuncData) (ds : List Value) : Prop where
  fun_ : FunD K x qual (defArgs st) (defBody st) (defScope st) dvs [] f fd
  at_ : mg x = some (.ref f)
  binds : Binds K fd ps ds
  vals : Vals dvs ds
theorem Def.call {x qual : Str} {st : Stmt} {ps : List Str} {dvs : List V} {f : Addr} {fd : FuncData} {ds : List Value} {k : Nat} {F : Bool} {g : List T → Sto → Res T} (D : Def K mg x qual st ps dvs f fd ds)
    (h : FnOk P w K mg base CX0 k f fd ps (spRun mg F ps.length g)) : CallF P w K mg base k x F ps.length dvs g := ⟨f, fd, ps, ds, D.at_, D.fun_.kp, rfl, D.binds, D.vals, h⟩
/-- by another name -/
theorem Def.call_as {x qual y : Str} {st : Stmt} {ps : List Str} {dvs : List V} {f : Addr} {fd : FuncData} {ds : List Value} {k : Nat} {F : Bool} {g : List T → Sto → Res T} (D : Def K mg x qual st ps dvs f fd ds) (hy : mg y = some (.ref f))
    (h : FnOk P w K mg base CX0 k f fd ps (spRun mg F ps.length g)) : CallF P w K mg base k y F ps.length dvs g := ⟨f, fd, ps, ds, hy, D.fun_.kp, rfl, D.binds, D.vals, h⟩
structure DefM (K : PySem.W.Frag) (mg : Str → Option Value) (c m qual : Str) (st : Stmt) (ps : List Str) (dvs : List V) (C f : Addr) (fd : FuncData) (ds : List Value) : Prop where
  fun_ : FunD K m qual (defArgs st) (defBody st) (defScope st) dvs [] f fd
  at_ : mg c = some (.ref C)
  cls : Cls K C
  meth : Meth K C m f
  binds : Binds K fd ps ds
  vals : Vals dvs ds
theorem DefM.call {c m qual : Str} {st : Stmt} {ps : List Str} {dvs : List V} {C f : Addr} {fd : FuncData} {ds : List Value} {k : Nat} {F : Bool} {g : List T → Sto → Res T} (D : DefM K mg c m qual st ps dvs C f fd ds)
    (h : FnOk P w K mg base CX0 k f fd ps (spRun mg F ps.length g)) : MethF P w K mg base k c m F ps.length dvs g := ⟨C, f, fd, ps, ds, D.at_, D.cls, D.meth, rfl, D.binds, D.vals, h⟩
end
end TL
end
section
set_option Elab.async false
set_option linter.all false
set_option maxRecDepth 100000
/-! TL19: the script; powers, bit_length; purses and draws. -/
namespace TL
open PySem PySem.Spec PyProof.Rows L2

/-! ### the script: a list that is a tree, or one of the written part -/
abbrev Osc := Option (Addr × List Int)
def ScrOk (K : PySem.W.Frag) (o : Osc) : Prop := ∀ a ns, o = some (a, ns) → ∀ H, SqL K H a (ns.map V.int)
def ofScr (o : Osc) : T → Option (List T)
  | .lst xs => some xs
  | .scr a => match o with
    | some (a', ns) => if a = a' then some (ns.map T.int) else none
    | none => none
  | _ => none
theorem ofScr_ok {K : PySem.W.Frag} {o : Osc} (hO : ScrOk K o) {w : Wd} {v : V} {t : T} {ts : List T} (r : Rep w v t) (h : ofScr o t = some ts) : ∃ a xs, v = .ref a ∧ SqL K w.H a xs ∧ RepL w xs ts := by
  unfold ofScr at h
  split at h
  · cases h
    cases r with
    | lst n d l => exact ⟨_, _, rfl, .inl d, l⟩
  · split at h
    · split at h
      · rename_i e
        cases h
        cases r
        subst e
        exact ⟨_, _, rfl, hO _ _ rfl _, .ints _⟩
      · cases h
    · cases h
  · cases h
def kLenS (o : Osc) : List T → Sto → Res T := fun ts M => match ts with
  | [t] => match ofScr o t with
    | some xs => .ok (.int xs.length) M
    | none => .stuck
  | _ => .stuck
def eSlS (o : Osc) (f : Ev T) (lo hi : Ev (Option Int)) : Ev T := fun τ M => (f τ M).bind fun t M1 => (lo τ M1).bind fun l M2 => (hi τ M2).bind fun u M3 => match ofScr o t with
  | some xs => .ok (.lst (cutT xs l u)) M3
  | none => .stuck
section
variable {X : Cx} {F : Bool} {a b e : Expr} {es : List Expr} {fs : Ev (List T)} {fa fb : Ev T} {p pos apos : Pos} {o : Osc}
theorem se_lenS (hO : ScrOk X.K o) (B : Blt X.mg) (ha : SA X (e :: es) fs) (hg : Gl X "len" := by rfl)
    (he : starEach (e :: es) X.env = (false, eval e X.env) :: starEach es X.env := by rfl) (hpl : (backTo pos (starEach es X.env)).any (·.1) = false := by rfl) : SE false X (.Call (.Name "len" p) (e :: es) [] pos) (eA (kLenS o) fs) := by
  refine se_callB call_len (fun w vs ts Q g r q => ?_) hg B.len PySem.boot_len (by decide) (by decide) ha he hpl
  unfold kLenS at q
  split at q
  · obtain ⟨v, rfl, r1⟩ := repL1 r
    split at q
    · rename_i h
      obtain ⟨a, xs, rfl, d, l⟩ := ofScr_ok hO r1 h
      exact ⟨_, _, rfl, .inl ⟨_, d, rfl⟩, by rw [l.length]; exact post_ok q g (.int _)⟩
    · exact q.elim
  · exact q.elim
theorem se_slS {lo hi : Option Expr} {fl fh : Ev (Option Int)} {p2 : Pos} (hO : ScrOk X.K o) (ha : SE false X a fa) (hl : SO X lo fl) (hh : SO X hi fh) : SE true X (.Subscript a (.Slice lo hi none p2) pos) (eSlS o fa fl fh) := by
  obtain ⟨tl, pl, il⟩ := hl
  obtain ⟨th, ph, ih⟩ := hh
  refine pe_imp (pe_slice sl_list ha pl ph) fun σ H Q ⟨w, τ, e, g, n, q⟩ => ?_
  subst e
  refine ⟨w, τ, rfl, g, n, Res.all_mono (fun t M1 q w1 v x1 g1 e1 r1 _ => ?_) (Res.all_bind q)⟩
  subst e1
  refine il _ _ _ ⟨w1, τ, rfl, g1, n.mono x1, Res.all_mono (fun l M2 q w2 x2 g2 e2 => ?_) (Res.all_bind q)⟩
  subst e2
  refine ih _ _ _ ⟨w2, τ, rfl, g2, (n.mono x1).mono x2, Res.all_mono (fun u M3 q w3 x3 g3 e3 => ?_) (Res.all_bind q)⟩
  subst e3
  have xx := (x1.trans x2).trans x3
  split at q
  · rename_i h
    obtain ⟨a, xs, rfl, d, l⟩ := ofScr_ok hO ((r1.mono x2).mono x3) h
    exact ⟨_, _, rfl, d, fun p hp => post_lst (post_ext q xx) g3 hp (l.cut _ _)⟩
  · exact q.elim

/-! ### powers, bit_length -/
def kPow : T → T → Sto → Res T
  | .int i, .int j, M => if 1 < i ∧ 0 < j ∧ Builtin.Int.intTooBig (((Builtin.Int.intBits i : Nat) : Int) * j) = false then .ok (.int (i ^ j.toNat)) M else .stuck
  | _, _, _ => .stuck
def CPowW (i j : Int) : Prop := 1 < i ∧ 0 < j ∧ Builtin.Int.intTooBig (((Builtin.Int.intBits i : Nat) : Int) * j) = false
theorem op_powW : OpR X (binaryOp .Pow) (rI CPowW fun i j => .int (i ^ j.toNat)) := opI fun i j t u s Q E hc q =>
  PySem.AutoIntOps.pow_4 (by have := hc.2.1; omega) (by have := hc.2.1; simp; omega) (by have := hc.1; simp; omega) (by have := hc.1; simp; omega) (by rw [hc.2.2]; exact Bool.false_ne_true) q
theorem se_pow (ha : SE false X a fa) (hb : SE false X b fb) : SE false X (.BinOp a .Pow b pos) (e2 kPow fa fb) := by
  refine pe_imp (pe_op op_powW ha hb) fun σ H Q h => two_imp (fun w x y s t Q g r1 r2 q => ?_) h
  unfold kPow at q
  split at q
  · split at q
    · cases r1; cases r2; exact ⟨_, _, rfl, rfl, by assumption, post_ok q g (.int _)⟩
    · exact q.elim
  · exact q.elim
def kBits : T → Sto → Res T
  | .int i, M => .ok (.int (Builtin.Int.intBits i : Nat)) M
  | _, _ => .stuck
theorem se_bits (ha : SE false X a fa) (hbase : attributeBase a "bit_length" X.env (eval a X.env) = eval a X.env := by rfl) (hline : (apos.endLine == pos.line) = true := by rfl) : SE false X (.Call (.Attribute a "bit_length" apos) [] [] pos) (e1 kBits fa) := by
  refine pe_imp (pe_bits ha hbase hline) fun σ H Q ⟨w, τ, e, g, n, q⟩ => ?_
  subst e
  refine ⟨w, τ, rfl, g, n, Res.all_mono (fun t M1 q w1 v x1 g1 e1 r1 _ => ?_) (Res.all_bind q)⟩
  subst e1
  have q := post_ext q x1
  unfold kBits at q
  split at q
  · cases r1; exact ⟨_, rfl, post_ok q g1 (.int _)⟩
  · exact q.elim
end

/-! ### one of the store is told otherwise -/
theorem upd_self {H : Hp} {a : Addr} {o : HO} (h : H a = some o) : upd H a o = H := by
  funext b
  by_cases e : b = a
  · rw [e, upd_same, h]
  · rw [upd_ne e]
theorem wr_self {w : Wd} {n : Nat} {ho : HO} {o : MO} (h : w.H (w.ρ n) = some ho) : (w.wr n ho o).H = w.H := upd_self h
/-- the numbers of a purse -/
structure Prs (k : Nat) (p0 p1 p2 p3 : Int) : Prop where
  a0 : 0 ≤ p0
  a1 : p0 < 10 ^ 480
  b0 : 0 ≤ p1
  b1 : p1 < 2147483629
  c0 : 0 ≤ p2
  c1 : p2 ≤ k
  d0 : 0 ≤ p3
  d1 : p3 ≤ 63
def pT (p0 p1 p2 p3 : Int) : List T := [.int p0, .int p1, .int p2, .int p3]
theorem repL_ints4 {w : Wd} {vs : List V} {p0 p1 p2 p3 : Int} (r : RepL w vs (pT p0 p1 p2 p3)) : vs = [.int p0, .int p1, .int p2, .int p3] :=
  RepL.ints_of (ns := [p0, p1, p2, p3]) r
def eTag (f : Ev T) : Ev T := fun τ M => (f τ M).bind fun t M1 => match t with
  | .ref n => match M1.get n with
    | some (.lst [.int p0, .int p1, .int p2, .int p3]) => if (0 ≤ p0 ∧ p0 < 10 ^ 480 ∧ 0 ≤ p1 ∧ p1 < 2147483629 ∧ p2 = 0 ∧ 0 ≤ p3 ∧ p3 ≤ 63) then .ok (.ref n) (M1.set n (.purse 0)) else .stuck
    | _ => .stuck
  | _ => .stuck
theorem SE.tag {X : Cx} {e : Expr} {f : Ev T} (h : SE false X e f) : SE false X e (eTag f) := by
  refine pe_imp h fun σ H Q ⟨w, τ, e, g, n, q⟩ => ?_
  subst e
  refine ⟨w, τ, rfl, g, n, Res.all_mono (fun t M1 q w1 v x1 g1 e1 r1 ff => ?_) (Res.all_bind q)⟩
  clear ff
  subst e1
  split at q
  · rename_i m
    split at q
    · rename_i p0 p1 p2 p3 hm
      split at q
      · rename_i hb
        obtain ⟨h1, h2, h3, h4, h5, h6, h7⟩ := hb
        obtain ⟨_, _, vs, e, l⟩ := g1.own _ _ hm
        have ev := repL_ints4 l
        subst ev
        have x2 : Ext w1 (w1.wr m (.lst [.int p0, .int p1, .int p2, .int p3]) (.purse 0)) := Ext.wr g1 hm
        have g2 : Good X.mg (w1.wr m (.lst [.int p0, .int p1, .int p2, .int p3]) (.purse 0)) := Good.wr g1 hm ⟨p0, p1, p2, p3, rfl, h1, h2, h3, h4, by omega, by subst h5; exact Int.le_refl _, h6, h7⟩
        have := q _ v (x1.trans x2) g2 rfl (r1.mono x2) fun z => nomatch z
        rw [wr_self e] at this
        exact this
      · exact q.elim
    · exact q.elim
  · exact q.elim
/-- a draw: any number below m -/
def rDraw : List T → Sto → Res T := fun ts M => match ts with
  | [.ref n, .int m] => match M.get n with
    | some (.purse k) => if 0 < m ∧ m < 134217728 ∧ k < 1000000 then .pick m.toNat fun d => .ok (.int (d : Nat)) (M.set n (.purse (k + 1))) else .stuck
    | _ => .stuck
  | _ => .stuck
theorem set_set {M : Sto} {n : Nat} {o o' : MO} : (M.set n o).set n o' = M.set n o' := by
  have : ∀ l : List (Nat × MO), stM n o' (stM n o l) = stM n o' l := fun l => by
    induction l with
    | nil => rfl
    | cons p l ih =>
      obtain ⟨k, u⟩ := p
      have e1 : ∀ (o : MO) (k : Nat) (u : MO) (l : List (Nat × MO)), stM n o ((k, u) :: l) = if Nat.beq k n then (k, o) :: l else (k, u) :: stM n o l := fun _ _ _ _ => rfl
      rw [e1, e1]
      by_cases e : Nat.beq k n = true
      · rw [if_pos e, if_pos e, e1, if_pos e]
      · rw [if_neg e, if_neg e, e1, if_neg e, ih]
  unfold Sto.set
  rw [this]
theorem draw_ok {P : Program} {w : World} {K : PySem.W.Frag} {mg : Str → Option Value} {base : Heap} {f : Addr} {fd : FuncData} {ps : List Str} {k : Nat} {r0 : List T → Sto → Res T} (F0 : FnOk P w K mg base CX0 k f fd ps (spRun mg false 2 r0))
    (hr : ∀ (n k : Nat) (m p0 p1 p2 p3 : Int) (M : Sto), M.get n = some (.lst (pT p0 p1 p2 p3)) → Prs k p0 p1 p2 p3 → 0 < m → m < 134217728 → k < 1000000 → ∃ d q0 q2, 0 ≤ d ∧ d < m ∧ Prs (k + 1) q0 p1 q2 p3 ∧ r0 [.ref n, .int m] M = .ok (.int d) (M.set n (.lst (pT q0 p1 q2 p3)))) :
    FnOk P w K mg base CX0 k f fd ps (spRun mg false 2 rDraw) := by
  refine F0.imp fun vs H Q E ⟨hl, w0, ts, e, g, r, q⟩ => ⟨hl, ?_⟩
  subst e
  unfold rDraw at q
  split at q
  · rename_i n m
    split at q
    · rename_i k hm
      split at q
      · rename_i hc
        obtain ⟨hc1, hc2, hc3⟩ := hc
        obtain ⟨_, _, p0, p1, p2, p3, e, b1, b2, b3, b4, b5, b6, b7, b8⟩ := g.own _ _ hm
        have x1 : Ext w0 (w0.wr n (.lst [.int p0, .int p1, .int p2, .int p3]) (.lst (pT p0 p1 p2 p3))) := Ext.wr g hm
        have g1 : Good mg (w0.wr n (.lst [.int p0, .int p1, .int p2, .int p3]) (.lst (pT p0 p1 p2 p3))) := Good.wr g hm ⟨_, rfl, RepL.ints [p0, p1, p2, p3]⟩
        have hg : (w0.M.set n (.lst (pT p0 p1 p2 p3))).get n = some (.lst (pT p0 p1 p2 p3)) := by rw [get_set hm, if_pos rfl]
        refine ⟨w0.wr n (.lst [.int p0, .int p1, .int p2, .int p3]) (.lst (pT p0 p1 p2 p3)), _, wr_self e, g1, r.mono x1, ?_⟩
        obtain ⟨d, q0, q2, d1, d2, pr, er⟩ := hr n k m p0 p1 p2 p3 (w0.M.set n (.lst (pT p0 p1 p2 p3))) hg ⟨b1, b2, b3, b4, b5, b6, b7, b8⟩ hc1 hc2 hc3
        rw [show (w0.wr n (.lst [.int p0, .int p1, .int p2, .int p3]) (.lst (pT p0 p1 p2 p3))).M = w0.M.set n (.lst (pT p0 p1 p2 p3)) from rfl, er, set_set]
        intro w2 v x2 g2 e2 r2 _
        have q := q d.toNat (by omega)
        dsimp only at q
        have hd : ((d.toNat : Nat) : Int) = d := Int.toNat_of_nonneg d1
        rw [hd] at q
        have hm2 : w2.M.get n = some (.lst (pT q0 p1 q2 p3)) := by rw [e2, get_set hm, if_pos rfl]
        obtain ⟨_, _, vs2, e3, l3⟩ := g2.own _ _ hm2
        have ev := repL_ints4 l3
        subst ev
        have x3 : Ext w2 (w2.wr n (.lst [.int q0, .int p1, .int q2, .int p3]) (.purse (k + 1))) := Ext.wr g2 hm2
        have g3 : Good mg (w2.wr n (.lst [.int q0, .int p1, .int q2, .int p3]) (.purse (k + 1))) := Good.wr g2 hm2 ⟨q0, p1, q2, p3, rfl, pr.a0, pr.a1, pr.b0, pr.b1, pr.c0, pr.c1, pr.d0, pr.d1⟩
        have := q (w2.wr n (.lst [.int q0, .int p1, .int q2, .int p3]) (.purse (k + 1))) v ((x1.trans x2).trans x3) g3 (by show w2.M.set n _ = _; rw [e2, set_set]) (r2.mono x3) fun z => nomatch z
        rw [wr_self e3] at this
        exact this
      · exact q.elim
    · exact q.elim
  · exact q.elim
end TL
end
section
set_option Elab.async false
set_option linter.all false
set_option maxRecDepth 100000
/-! TL20: a loop's body cut in two: behind the cut nothing is known but some plain names and the purses. -/
namespace TL
open PySem PySem.Spec PyProof.Rows L2

def tSb (mg : Str → Option Value) (n : Nat) (F : Bool) (f : Ev Fl) : TS := fun D σ H => ∃ wb w τ, wb.M.nx = n ∧ w.H = H ∧ Good mg w ∧ Ext wb w ∧ Nm w σ τ ∧ postS mg F D wb (f τ w.M)
def SBb (n : Nat) (F : Bool) (X : Cx) (sts : List Stmt) (f : Ev Fl) : Prop := PSs X sts (tSb X.mg n F f)
mutual
def flatR (n : Nat) : T → Bool
  | .non => true
  | .bl _ => true
  | .int _ => true
  | .str _ => true
  | .ref k => decide (k < n)
  | .lst xs => flatRs n xs
  | .tup xs => flatRs n xs
  | .dic _ xs => flatRs n xs
  | .scr _ => false
termination_by structural t => t
def flatRs (n : Nat) : List T → Bool
  | [] => true
  | x :: xs => flatR n x && flatRs n xs
termination_by structural ts => ts
end
def memN (i : Nat) : List Nat → Bool
  | [] => false
  | k :: ks => if Nat.beq k i then true else memN i ks
def canT (n : Nat) (ks : List Nat) : Nat → Tau → Tau
  | _, [] => []
  | i, x :: r => (if memN i ks then (match x with
    | some t => if flatR n t then some t else none
    | none => none) else none) :: canT n ks (i + 1) r
def canL (n K : Nat) : List (Nat × MO) → Option (List (Nat × MO))
  | [] => some []
  | (k, o) :: r => if k < n then (match o with
      | .purse j => if j ≤ K then (canL n K r).map fun l => (k, .purse K) :: l else none
      | _ => none)
    else canL n K r
def sCan (n : Nat) (ks : List Nat) (K : Nat) (f : Ev Fl) : Ev Fl := fun τ M => match canL n K M.m with
  | some l => f (canT n ks 0 τ) ⟨l, n⟩
  | none => .stuck
theorem canL_get {n K : Nat} : ∀ {m l : List (Nat × MO)} {k : Nat} {o : MO}, canL n K m = some l → lkM k l = some o → k < n ∧ o = .purse K ∧ ∃ j, j ≤ K ∧ lkM k m = some (.purse j)
  | [], l, k, o, h, e => by cases h; cases e
  | (i, u) :: r, l, k, o, h, e => by
    unfold canL at h
    by_cases hi : i < n
    · rw [if_pos hi] at h
      split at h
      · rename_i j
        split at h
        · rename_i hj
          cases hr : canL n K r with
          | none => rw [hr] at h; cases h
          | some l' =>
            rw [hr] at h
            cases h
            have e : (if Nat.beq i k then some (MO.purse K) else lkM k l') = some o := e
            show k < n ∧ o = .purse K ∧ ∃ j', j' ≤ K ∧ (if Nat.beq i k then some (MO.purse j) else lkM k r) = some (.purse j')
            by_cases hb : Nat.beq i k = true
            · rw [if_pos hb] at e
              cases e
              have := Nat.eq_of_beq_eq_true hb
              subst this
              exact ⟨hi, rfl, j, hj, by rw [if_pos hb]⟩
            · rw [if_neg hb] at e
              rw [if_neg hb]
              exact canL_get hr e
        · cases h
      · cases h
    · rw [if_neg hi] at h
      obtain ⟨h1, h2, j, h3, h4⟩ := canL_get h e
      refine ⟨h1, h2, j, h3, ?_⟩
      show (if Nat.beq i k then some u else lkM k r) = _
      rw [if_neg fun z => by have := Nat.eq_of_beq_eq_true z; omega]
      exact h4
theorem canT_get {n : Nat} {ks : List Nat} : ∀ {τ : Tau} {i j : Nat} {t : T}, (canT n ks i τ)[j]? = some (some t) → τ[j]? = some (some t) ∧ flatR n t = true
  | [], _, _, _, h => by simp [canT] at h
  | x :: r, i, 0, t, h => by
    have h : (if memN i ks then (match x with
      | some t => if flatR n t then some t else none
      | none => none) else none) = some t := by simpa [canT] using h
    split at h
    · split at h
      · rename_i u
        split at h
        · rename_i hf
          cases h
          exact ⟨rfl, hf⟩
        · cases h
      · cases h
    · cases h
  | x :: r, i, j + 1, t, h => by
    have h : (canT n ks (i + 1) r)[j]? = some (some t) := by simpa [canT] using h
    obtain ⟨a, b⟩ := canT_get h
    exact ⟨by simpa using a, b⟩
theorem canT_length {n : Nat} {ks : List Nat} : ∀ {τ : Tau} {i : Nat}, (canT n ks i τ).length = τ.length
  | [], _ => rfl
  | x :: r, i => by show (canT n ks (i + 1) r).length + 1 = r.length + 1; rw [canT_length]
def Wd.can (w : Wd) (n : Nat) (l : List (Nat × MO)) : Wd := { w with M := ⟨l, n⟩ }
section
variable {mg : Str → Option Value} {w wb : Wd} {n K : Nat} {l : List (Nat × MO)}
theorem Ex.can (h : canL n K w.M.m = some l) {a : Addr} (e : Ex (w.can n l) a) : Ex w a := by
  rcases e with e | ⟨k, o, e, rfl⟩
  · exact .inl e
  · obtain ⟨_, _, j, _, h4⟩ := canL_get h e
    exact .inr ⟨k, _, h4, rfl⟩
theorem Ext.can (h : canL n K w.M.m = some l) (x : Ext wb w) (hn : wb.M.nx = n) : Ext wb (w.can n l) :=
  ⟨fun a u hu e m => let ⟨a1, a2⟩ := x.keep a u hu e m; ⟨a1, fun z => a2 (Ex.can h z)⟩, fun a o u hu e m => let ⟨a1, a2⟩ := x.keepF a o u hu e m; ⟨a1, fun z => a2 (Ex.can h z)⟩, fun a u e m => let ⟨a1, a2⟩ := x.keepD a u e m; ⟨a1, fun z => a2 (Ex.can h z)⟩,
   x.dom, Nat.le_of_eq hn, x.rho, x.R, x.Rk, x.frz⟩
theorem Good.can (g : Good mg w) (h : canL n K w.M.m = some l) : Good mg (w.can n l) := by
  refine ⟨fun k o e => ?_, fun k m o u e1 e2 e3 => ?_, g.Rd⟩
  · obtain ⟨h1, rfl, j, h3, h4⟩ := canL_get h e
    obtain ⟨_, a2, p0, p1, p2, p3, a3, b1, b2, b3, b4, b5, b6, b7, b8⟩ := g.own k _ h4
    exact ⟨h1, a2, p0, p1, p2, p3, a3, b1, b2, b3, b4, b5, by omega, b7, b8⟩
  · obtain ⟨_, _, j, _, h4⟩ := canL_get h e1
    obtain ⟨_, _, j', _, h4'⟩ := canL_get h e2
    exact g.inj k m _ _ h4 h4' e3
mutual
theorem flat_rep (hc : canL n K w.M.m = some l) : ∀ {v : V} {t : T}, Rep w v t → flatR n t = true → Rep (w.can n l) v t
  | _, _, .non, _ => .non
  | _, _, .bl b, _ => .bl b
  | _, _, .int i, _ => .int i
  | _, _, .str x, _ => .str x
  | _, _, .ref k hk, h => .ref (w := w.can n l) k (of_decide_eq_true h)
  | _, _, .lst m d r, h => .lst (fun z => m (Ex.can hc z)) d (flat_repL hc r h)
  | _, _, .tup m d r, h => .tup (fun z => m (Ex.can hc z)) d (flat_repL hc r h)
  | _, _, .dic m d e1 e2 r, h => .dic (fun z => m (Ex.can hc z)) d e1 e2 (flat_repL hc r h)
theorem flat_repL (hc : canL n K w.M.m = some l) : ∀ {vs : List V} {ts : List T}, RepL w vs ts → flatRs n ts = true → RepL (w.can n l) vs ts
  | _, _, .nil, _ => .nil
  | _, _, .cons r q, h => .cons (flat_rep hc r (Bool.and_eq_true _ _ ▸ h).1) (flat_repL hc q (Bool.and_eq_true _ _ ▸ h).2)
end
theorem Nm.can {σ : L2.St} {τ : Tau} {ks : List Nat} (hc : canL n K w.M.m = some l) (e : Nm w σ τ) : Nm (w.can n l) σ (canT n ks 0 τ) :=
  ⟨by rw [canT_length]; exact e.len, fun i t h => by
    obtain ⟨a, b⟩ := canT_get h
    obtain ⟨v, h1, h2⟩ := e.at_ i t a
    exact ⟨v, h1, flat_rep hc h2 b⟩⟩
end
section
variable {X : Cx} {F : Bool} {pos : Pos} {st : Stmt} {sts : List Stmt} {e : Expr} {f g : Ev Fl} {n : Nat}
theorem sbb_cons (h1 : SS F X st f) (h2 : SBb n F X sts g) : SBb n F X (st :: sts) (sSeq f g) := by
  refine pss_imp (pss_cons h1 h2) fun D σ H ⟨wb, w, τ, hn, e, gd, xb, nm, q⟩ => ?_
  subst e
  refine ⟨w, τ, rfl, gd, nm, Res.all_mono (fun fl M1 q w1 x1 g1 e1 => ?_) (Res.all_bind q)⟩
  subst e1
  cases fl with
  | nx τ' => exact fun σ' n' => ⟨wb, w1, τ', hn, rfl, g1, xb.trans x1, n', q⟩
  | rt t => exact (q w1 (xb.trans x1) g1 rfl).ext xb
  | bk τ' => exact (q w1 (xb.trans x1) g1 rfl).ext xb
  | ct τ' => exact (q w1 (xb.trans x1) g1 rfl).ext xb
theorem sbb_of (h : SB F X sts f) : SBb n F X sts f := by
  refine pss_imp h fun D σ H ⟨wb, w, τ, hn, e, gd, xb, nm, q⟩ => ?_
  subst e
  exact ⟨w, τ, rfl, gd, nm, postS_ext q xb⟩
theorem sbb_can (ks : List Nat) (K : Nat) (h : SBb n F X sts f) : SBb n F X sts (sCan n ks K f) := by
  refine pss_imp h fun D σ H ⟨wb, w, τ, hn, e, gd, xb, nm, q⟩ => ?_
  subst e
  unfold sCan at q
  split at q
  · rename_i l hl
    exact ⟨wb, w.can n l, canT n ks 0 τ, hn, rfl, gd.can hl, Ext.can hl xb hn, nm.can hl, q⟩
  · exact q.elim
def sForB (fi : Ev (List T)) (g : Tg) (fb : Nat → Ev Fl) : Ev Fl := fun τ M => (fi τ M).bind fun ts M' => forL g (fb M'.nx) ts τ M'
theorem for_impB {mg : Str → Option Value} {sl : List Nat} {gt : Tg} {fb : Nat → Ev Fl} {D : Ends} {w : Wd} {σ : L2.St} {τ : Tau} {J : It} {ts : List T} (g : Good mg w) (nm : Nm w σ τ) (y : Yld mg J w ts) (q : postS mg F D w (forL gt (fb w.M.nx) ts τ w.M)) :
    ∃ W : Nat → Nat → L2.St → Hp → Prop, (∃ m, W 0 m σ w.H) ∧ ∀ i m σ H, W i m σ H → (J.stop i H ∧ D.nx σ H) ∨ (J.go i H ∧ ∃ N : L2.St → Hp → Prop, (∀ σ' H', N σ' H' → ∃ m', m' < m ∧ W (i + 1) m' σ' H') ∧
      ∀ x H', J.yld i H x H' → tG mg sl gt x σ H' fun σ2 H2 => ∃ n, tSb mg n F (fb n) { D with nx := N, ct := N, bk := D.nx } σ2 H2) := by
  refine ⟨fun i m σ H => m = ts.length - i ∧ i ≤ ts.length ∧ ∃ w' τ', w'.H = H ∧ Good mg w' ∧ Ext w w' ∧ Nm w' σ τ' ∧ postS mg F D w (forL gt (fb w.M.nx) (ts.drop i) τ' w'.M),
    ⟨ts.length, by simp, Nat.zero_le _, w, τ, rfl, g, .refl w, nm, by rw [List.drop_zero]; exact q⟩, ?_⟩
  rintro i m σ1 H ⟨rfl, hi, w', τ', rfl, g', x, n', q'⟩
  by_cases hl : i < ts.length
  · refine .inr ⟨y.go i w' x.toKF g' hl, fun σ2 H2 => i + 1 ≤ ts.length ∧ ∃ w' τ', w'.H = H2 ∧ Good mg w' ∧ Ext w w' ∧ Nm w' σ2 τ' ∧ postS mg F D w (forL gt (fb w.M.nx) (ts.drop (i + 1)) τ' w'.M), fun σ2 H2 ⟨h, r⟩ => ⟨ts.length - (i + 1), by omega, rfl, h, r⟩, fun v H' hy => ?_⟩
    rw [List.drop_eq_getElem_cons hl] at q'
    obtain ⟨w1, rfl, x1, g1, m1, r1⟩ := y.yl i w' v H' x.toKF g' hy _ (List.getElem?_eq_getElem hl)
    rw [← m1] at q'
    refine ⟨w1, τ', _, rfl, g1, n'.mono x1, r1, Res.all_mono (fun τ1 M1 q w2 σ2 x2 g2 e2 n2 _ => ?_) (Res.all_bind q')⟩
    subst e2
    refine ⟨w.M.nx, w, w2, τ1, rfl, rfl, g2, (x.trans x1).trans x2, n2, Res.all_mono (fun fl M2 q w3 x3 g3 e3 => ?_) (Res.all_bind q)⟩
    subst e3
    cases fl with
    | nx τ2 => exact fun σ3 n3 => ⟨hl, w3, τ2, rfl, g3, x3, n3, q⟩
    | ct τ2 => exact fun σ3 n3 => ⟨hl, w3, τ2, rfl, g3, x3, n3, q⟩
    | bk τ2 => exact fun σ3 n3 => q w3 x3 g3 rfl σ3 n3
    | rt t => exact q w3 x3 g3 rfl
  · have e : ts.drop i = [] := List.drop_of_length_le (by omega)
    rw [e] at q'
    exact .inl ⟨y.stop i w' x.toKF g' (by omega), q' w' x g' rfl σ1 n'⟩
theorem ss_forB {sl : List Nat} {tg : Expr} {gt : Tg} {fi : Ev (List T)} {fb : Nat → Ev Fl} (hi : SI X tg e fi) (hg : SG sl X tg gt) (hb : ∀ n, SBb n F X sts (fb n)) (hp : PassesOwn (model X.prog X.w) X.A X.env X.xe := by exact PassesOwn.never) (hc : X.calm = true := by rfl)
    (hs : ∀ x, foldedSetIterable e X.env x = pure x := by intro _; rfl) : SS F X (.For tg e sts [] pos) (sForB fi gt fb) := by
  have hB : PSs X sts (fun D σ H => ∃ n, tSb X.mg n F (fb n) D σ H) := ⟨fun p s σ H D I ⟨n, q⟩ => (hb n).run p s σ H D I q⟩
  refine ps_imp (ps_for hp hc hi hg hB hs) fun D σ H ⟨w, τ, e, g, n, q⟩ => ?_
  subst e
  refine ⟨w, τ, rfl, g, n, Res.all_mono (fun ts M' q w1 J x1 g1 e1 y => ?_) (Res.all_bind q)⟩
  subst e1
  exact for_impB g1 (n.mono x1) y (postS_ext q x1)
end
/-! ### sequences, taken apart -/
theorem Res.bind_assoc {α β γ : Type} {k : α → Sto → Res β} {h : β → Sto → Res γ} : ∀ (a : Res α), (a.bind k).bind h = a.bind fun x M => (k x M).bind h
  | .ok _ _ => rfl
  | .stuck => rfl
  | .pick m f => by
    show Res.pick m (fun r => ((f r).bind k).bind h) = Res.pick m (fun r => (f r).bind fun x M => (k x M).bind h)
    congr 1
    funext r
    exact bind_assoc (f r)
theorem sSeq_assoc (a b c : Ev Fl) : sSeq (sSeq a b) c = sSeq a (sSeq b c) := by
  funext τ M
  show ((a τ M).bind _).bind _ = (a τ M).bind _
  rw [Res.bind_assoc]
  congr 1
  funext fl M'
  cases fl <;> rfl
theorem sCan_seq (n : Nat) (ks : List Nat) (K : Nat) (f : Ev Fl) : sCan n ks K f = sSeq (sCan n ks K sNil) f := by
  funext τ M
  show sCan n ks K f τ M = ((sCan n ks K sNil) τ M).bind _
  unfold sCan
  split <;> rfl
theorem seq_all {a b : Ev Fl} {τ : Tau} {M : Sto} {Φ : Fl → Sto → Prop} (h : (a τ M).all fun fl M' => match fl with
    | .nx τ' => (b τ' M').all Φ
    | fl => Φ fl M') : (sSeq a b τ M).all Φ := by
  refine Res.bind_all (Res.all_mono (fun fl M' q => ?_) h)
  cases fl <;> exact q
def Res.allB {α : Type} (φ : α → Sto → Bool) : Res α → Bool
  | .ok a M => φ a M
  | .stuck => false
  | .pick m f => (List.range m).all fun r => (f r).allB φ
theorem Res.allB_ok {α : Type} {φ : α → Sto → Bool} : ∀ {a : Res α}, a.allB φ = true → a.all fun x M => φ x M = true
  | .ok _ _, h => h
  | .stuck, h => nomatch h
  | .pick m f, h => fun r hr => allB_ok (List.all_eq_true.mp h r (List.mem_range.mpr hr))
end TL
end
section
set_option Elab.async false
set_option linter.all false
set_option maxRecDepth 100000
/-! TL21: x += e, x[i] += e. -/
namespace TL
open PySem PySem.Spec PyProof.Rows L2
def kAddN : T → T → Sto → Res T
  | .int i, .int j, M => .ok (.int (i + j)) M
  | _, _, _ => .stuck
def kSubN : T → T → Sto → Res T
  | .int i, .int j, M => .ok (.int (i - j)) M
  | _, _, _ => .stuck
def IpOk (X : Cx) (op : Operator) (k : T → T → Sto → Res T) : Prop := ∃ r : TIp, PIp X op r ∧ ∀ w x y a b Q, Good X.mg w → Rep w x a → Rep w y b → post X.mg false Q w (k a b w.M) → r x y w.H Q
section
variable {X : Cx} {F : Bool} {e o a b : Expr} {pos : Pos} {fe fo fa fb : Ev T} {k : T → T → Sto → Res T} {op : Operator}
theorem i_add : IpOk X .Add kAddN := ⟨_, ip_add, fun w x y a b Q g r1 r2 q => by
  unfold kAddN at q
  split at q
  · cases r1; cases r2; exact ⟨_, _, rfl, rfl, post_ok q g (.int _)⟩
  · exact q.elim⟩
theorem i_sub : IpOk X .Sub kSubN := ⟨_, ip_sub, fun w x y a b Q g r1 r2 q => by
  unfold kSubN at q
  split at q
  · cases r1; cases r2; exact ⟨_, _, rfl, rfl, post_ok q g (.int _)⟩
  · exact q.elim⟩
def sAug (k : T → T → Sto → Res T) (i : Nat) (fe : Ev T) : Ev Fl := fun τ M => match τ[i]? with
  | some (some t) => (fe τ M).bind fun u M1 => (k t u M1).bind fun z M2 => .ok (.nx (τ.set i (some z))) M2
  | _ => .stuck
theorem ss_aug {i : Nat} {x : Str} {pos' : Pos} (hN : X.N.Nodup) (ho : IpOk X op k) (he : SE false X e fe) (hi : X.N[i]? = some x := by rfl) (hx : Loc X.env.scope x := by first | exact .inl rfl | exact .inr rfl)
    (hf : X.fn x = true ∨ X.env.scope.names.lookup x = some .local := by first | exact .inl rfl | exact .inr rfl) : SS F X (.AugAssign (.Name x pos') op e pos) (sAug k i fe) := by
  obtain ⟨r, hr, hk⟩ := ho
  refine ps_imp (ps_aug hN hi hx he hr hf) fun D σ H ⟨w, τ, e, g, n, q⟩ => ?_
  subst e
  unfold sAug at q
  split at q
  · rename_i t ht
    obtain ⟨v, h1, h2⟩ := n.at_ i t ht
    refine ⟨v, h1, w, τ, rfl, g, n, Res.all_mono (fun u M1 q w1 y x1 g1 e1 r1 ff => ?_) (Res.all_bind q)⟩
    clear ff
    subst e1
    refine hk w1 v y t u _ g1 (h2.mono x1) r1 (Res.all_mono (fun z M2 q w2 zv x2 g2 e2 r2 _ => ?_) (Res.all_bind q))
    subst e2
    exact q w2 (x1.trans x2) g2 rfl _ (((n.mono x1).mono x2).set r2 i)
  · exact q.elim

/-! ### x[i] += e -/
def rGetL (K : PySem.W.Frag) : V → V → Hp → VK → Prop := fun o i H Q => ∃ (p : Addr) (xs : List V) (j : Nat) (v : V), o = .ref p ∧ i = .int (j : Nat) ∧ SqL K H p xs ∧ xs[j]? = some v ∧ Q v H
theorem get_listN : PGet X (rGetL X.K) := by
  intro pins s σ H o i ov iv Q I ro ri ⟨p, xs, j, v, eo, ei, hs, hj, q⟩
  subst eo ei
  cases ro
  obtain ⟨t, rfl⟩ := ri
  obtain ⟨its, rv, pl, hz⟩ := I.list hs
  obtain ⟨u, hu, ru⟩ := rv.get hj
  have hl := (List.getElem?_eq_some_iff.mp hu).1
  have big := line63
  have hl2 := rv.length
  exact wpAny_getItem_list pl.isList (by omega) (by omega) (by simpa using hu) ⟨v, H, I, ru, q⟩
def sAugAt (k : T → T → Sto → Res T) (fo fi fe : Ev T) : Ev Fl := fun τ M => (fo τ M).bind fun o M1 => (fi τ M1).bind fun i M2 => match o, i with
  | .ref n, .int i => match M2.get n with
    | some (.lst xs) => if 0 ≤ i then (match xs[i.toNat]? with
      | some x => (fe τ M2).bind fun y M3 => (k x y M3).bind fun z M4 => match M4.get n with
        | some (.lst ys) => (match ixN ys.length i with
          | some j => .ok (.nx τ) (M4.set n (.lst (ys.set j z)))
          | none => .stuck)
        | _ => .stuck
      | none => .stuck) else .stuck
    | _ => .stuck
  | _, _ => .stuck
theorem ss_augAt (ho : IpOk X op k) (ha : SE false X a fa) (hb : SE false X b fb) (he : SE false X e fe) {tpos : Pos}
    (hs : ∀ ov iv new, augStore b ov iv new = (do holding [new, ov, iv] (setItem ov iv new); release [new, ov, iv] []; pure .next) := by intros; rfl) : SS F X (.AugAssign (.Subscript a b tpos) op e pos) (sAugAt k fa fb fe) := by
  obtain ⟨r, hr, hk⟩ := ho
  refine ps_imp (ps_augS ha hb get_listN he hr set_list hs) fun D σ H ⟨w, τ, e, g, n, q⟩ => ?_
  subst e
  refine ⟨w, τ, rfl, g, n, Res.all_mono (fun o M1 q w1 ov x1 g1 e1 r1 ff => ?_) (Res.all_bind q)⟩
  clear ff
  subst e1
  refine ⟨w1, τ, rfl, g1, n.mono x1, Res.all_mono (fun i M2 q w2 iv x2 g2 e2 r2 ff => ?_) (Res.all_bind q)⟩
  clear ff
  subst e2
  have r1 := r1.mono x2
  cases o with
  | ref nn =>
    cases i with
    | int i =>
      dsimp only at q
      split at q
      · rename_i xs hm
        split at q
        · rename_i hi
          split at q
          · rename_i x hx
            cases r1 with
            | ref _ hn =>
              cases r2
              obtain ⟨_, _, vs, ev, l⟩ := g2.own _ _ hm
              obtain ⟨xv, h1, h2⟩ := l.get hx
              refine ⟨w2.ρ nn, vs, i.toNat, xv, rfl, by rw [Int.toNat_of_nonneg hi], .of ev, h1, w2, τ, rfl, g2, (n.mono x1).mono x2, Res.all_mono (fun y M3 q3 w3 yv x3 g3 e3 r3 ff => ?_) (Res.all_bind q)⟩
              clear ff
              subst e3
              refine hk w3 xv yv x y _ g3 (h2.mono x3) r3 (Res.all_mono (fun z M4 q4 w4 zv x4 g4 e4 r4 ff => ?_) (Res.all_bind q3))
              clear ff
              subst e4
              split at q4
              · rename_i ys hm2
                split at q4
                · rename_i j hj
                  obtain ⟨_, _, ws, ew, l2⟩ := g4.own _ _ hm2
                  have er : w4.ρ nn = w2.ρ nn := ((x3.trans x4).rho nn hn)
                  obtain ⟨x5, g5⟩ := wr_lst (ts := ys) g4 hm2 (RepL.set r4 j l2)
                  have xx := ((x1.trans x2).trans x3).trans x4
                  refine ⟨w2.ρ nn, ws, i, j, rfl, rfl, by rw [← er]; exact ew, by rw [l2.length]; exact hj, ?_⟩
                  have := q4 _ (xx.trans x5) g5 rfl σ ((n.mono xx).mono x5)
                  rw [← er]
                  exact this
                · exact q4.elim
              · exact q4.elim
          · exact q.elim
        · exact q.elim
      · exact q.elim
    | _ => exact q.elim
  | _ => exact q.elim
end
end TL
end
section
set_option Elab.async false
set_option linter.all false
set_option maxRecDepth 100000
/-! TL22: sorted(xs), min(xs) of lists of whole numbers' lists. -/
namespace TL
open PySem PySem.Spec PyProof.Rows L2
def leR : List Int → List Int → Bool
  | [], _ => true
  | _ :: _, [] => false
  | x :: xs, y :: ys => if x < y then true else if y < x then false else leR xs ys
theorem leR_iff : ∀ {a b : List Int}, leR a b = true ↔ a ≤ b
  | [], b => by simp [leR]
  | x :: xs, [] => by simp [leR]
  | x :: xs, y :: ys => by
    unfold leR
    rw [List.cons_le_cons_iff]
    by_cases h1 : x < y
    · simp [h1]
    · by_cases h2 : y < x
      · have : x ≠ y := by omega
        simp [h1, h2, this]
      · have : x = y := by omega
        subst this
        simp [leR_iff]
theorem leR_total (a b : List Int) : leR a b = true ∨ leR b a = true := by
  rw [leR_iff, leR_iff]; exact List.le_total a b
theorem leR_trans {a b c : List Int} (h1 : leR a b = true) (h2 : leR b c = true) : leR a c = true := by
  rw [leR_iff] at *; exact List.le_trans h1 h2
theorem leR_anti {a b : List Int} (h1 : leR a b = true) (h2 : leR b a = true) : a = b := by
  rw [leR_iff] at *; exact List.le_antisymm h1 h2
def insR (n : List Int) : List (List Int) → List (List Int)
  | [] => [n]
  | m :: r => if leR n m then n :: m :: r else m :: insR n r
def srtR : List (List Int) → List (List Int)
  | [] => []
  | n :: r => insR n (srtR r)
theorem insR_perm (n : List Int) : ∀ l, (insR n l).Perm (n :: l)
  | [] => .refl _
  | m :: r => by
    unfold insR
    split
    · exact .refl _
    · exact ((insR_perm n r).cons m).trans (.swap n m r)
theorem srtR_perm : ∀ l, (srtR l).Perm l
  | [] => .refl _
  | n :: r => (insR_perm n _).trans ((srtR_perm r).cons n)
theorem insR_srt (n : List Int) : ∀ l, l.Pairwise (fun a b => leR a b = true) → (insR n l).Pairwise (fun a b => leR a b = true)
  | [], _ => List.pairwise_singleton _ _
  | m :: r, h => by
    unfold insR
    cases h with
    | cons h1 h2 =>
      split
      · rename_i hl
        refine .cons (fun b hb => ?_) (.cons h1 h2)
        rcases List.mem_cons.mp hb with e | hb
        · rw [e]; exact hl
        · exact leR_trans hl (h1 b hb)
      · rename_i hl
        refine .cons (fun b hb => ?_) (insR_srt n r h2)
        rcases List.mem_cons.mp ((insR_perm n r).mem_iff.mp hb) with e | hb
        · rw [e]; exact (leR_total n m).resolve_left hl
        · exact h1 b hb
theorem srtR_srt : ∀ l, (srtR l).Pairwise (fun a b => leR a b = true)
  | [] => .nil
  | n :: r => insR_srt n _ (srtR_srt r)
theorem rows_same : ∀ {a b : List (List Int)}, a.Perm b → a.Pairwise (fun a b => leR a b = true) → b.Pairwise (fun a b => leR a b = true) → a = b
  | [], b, p, _, _ => p.nil_eq
  | x :: xs, [], p, _, _ => absurd p.length_eq (by simp)
  | x :: xs, y :: ys, p, h1, h2 => by
    have hx : x = y := by
      cases h1 with
      | cons a1 _ =>
        cases h2 with
        | cons b1 _ =>
          rcases List.mem_cons.mp (p.mem_iff.mp List.mem_cons_self) with e | hx
          · exact e
          · rcases List.mem_cons.mp (p.mem_iff.mpr List.mem_cons_self) with e | hy
            · exact e.symm
            · exact leR_anti (a1 y hy) (b1 x hx)
    subst hx
    cases h1 with
    | cons _ t1 =>
      cases h2 with
      | cons _ t2 => rw [rows_same (List.Perm.cons_inv p) t1 t2]
/-- sorted of rows -/
def rSortedR (K : PySem.W.Frag) : List V → Hp → VK → Prop := fun vs H Q => ∃ (a : Addr) (bs : List (V × List Int)), vs = [.ref a] ∧ SqL K H a (bs.map Prod.fst) ∧ (∀ b ∈ bs, Dp K H b.1 (.list (b.2.map .int))) ∧
  ∀ bs' p, List.Perm bs' bs → bs'.Pairwise (fun p q => leR p.2 q.2 = true) → H p = none → Q (.ref p) (upd H p (.lst (bs'.map Prod.fst)))
def encR (b : V × List Int) : PyData := .list (b.2.map .int)
theorem each_of {P : Value → V × List Int → Prop} : ∀ {bs : List (V × List Int)} {us : List Value}, Vals (bs.map Prod.fst) us → (∀ b ∈ bs, ∀ u, RelV b.1 u → P u b) → PySem.W.EachIs P us bs
  | [], _, r, _ => by cases r; exact .nil
  | b :: bs, _, r, h => by
    rw [List.map_cons] at r
    cases r with
    | cons r1 r2 => exact .cons (h b List.mem_cons_self _ r1) (each_of r2 fun b hb => h b (List.mem_cons_of_mem _ hb))
theorem vals_of_each : ∀ {bs : List (V × List Int)} {us : List Value}, PySem.W.EachIs (fun u (b : V × List Int) => RelV b.1 u) us bs → Vals (bs.map Prod.fst) us
  | [], _, r => by cases r; exact .nil
  | b :: bs, _, r => by
    cases r with
    | cons r1 r2 => exact .cons r1 (vals_of_each r2)
theorem depth_ints (ns : List Int) : (PyData.list (ns.map .int)).depth ≤ 2 := by
  have h : ∀ l : List Int, PyData.depthAll (l.map .int) = 0 := fun l => by
    induction l with
    | nil => rfl
    | cons n r ih => show max 0 (PyData.depthAll (r.map .int)) = 0; rw [ih]; rfl
  show PyData.depthAll (ns.map .int) + 1 ≤ 2
  rw [h]; decide
theorem alike_ints : ∀ a b : List Int, PySem.W.alikeAll (a.map .int) (b.map .int) = true
  | [], _ => by unfold PySem.W.alikeAll; rfl
  | _ :: _, [] => by unfold PySem.W.alikeAll; rfl
  | _ :: r, _ :: s => by
    have := alike_ints r s
    simpa [PySem.W.alikeAll, PySem.W.alike] using this
theorem cr_sortedR {X : Cx} (hu : X.A.units + 10 < cLine) : CallR X (.builtin "sorted") (rSortedR X.K) := by
  intro pins s σ H vs us Q I r ⟨a, bs, e, hs, hd, q⟩
  subst e
  obtain ⟨its, rv, pl, hz⟩ := I.list hs
  rw [Vals.ref1 r]
  have hlen : bs.length = its.length := by have := rv.length; rwa [List.length_map] at this
  refine PySem.W.sorted_data (R := fun u (b : V × List Int) => RelV b.1 u) (enc := encR) (bs := bs) pl.isList (each_of rv fun b _ u h => h) (each_of rv fun b hb u h => (hd b hb).reads I _ _ _ h) (PySem.W.AllAlike.of fun b b' => ?_) (PySem.W.Sortable.others fun b => ⟨fun z => (nomatch z), fun xs z => (nomatch z)⟩) (by rw [List.length_map] at hz; exact hz)
    (fun b _ => by have := depth_ints b.2; show X.A.units + 2 + (PyData.list (b.2.map .int)).depth < cLine; omega) fun out h1 h2 => ?_
  · have := alike_ints b.2 b'.2
    simpa [encR, PySem.W.alike] using this
  · rw [show PySem.W.dataLe false encR = fun p q => decide (p.2 ≤ q.2) from PySem.W.dataLe_rows (fun b : V × List Int => b.2)] at h2
    have pm : (bs.mergeSort fun p q => decide (p.2 ≤ q.2)).Perm bs := List.mergeSort_perm _ _
    have so : (bs.mergeSort fun p q => decide (p.2 ≤ q.2)).Pairwise (fun p q => leR p.2 q.2 = true) := by
      have := List.pairwise_mergeSort (le := fun (p q : V × List Int) => decide (p.2 ≤ q.2)) (fun a b c h1 h2 => decide_eq_true (List.le_trans (of_decide_eq_true h1) (of_decide_eq_true h2)))
        (fun a b => by rw [Bool.or_eq_true, decide_eq_true_eq, decide_eq_true_eq]; exact List.le_total _ _) bs
      exact this.imp fun h => leR_iff.mpr (of_decide_eq_true h)
    generalize (bs.mergeSort fun p q => decide (p.2 ≤ q.2)) = cs at h2 pm so
    obtain ⟨ep, he'⟩ := PyProof.Rows.sortedAll_at s.heap its out.toArray
    have hz2 : (cs.map Prod.fst).length ≤ sizeLine := by rw [List.length_map, pm.length_eq]; rwa [List.length_map] at hz
    exact ⟨.ref _, upd H (s.heap.objs.size + 1) (.lst (cs.map Prod.fst)), I.laid (t' := s.toks) (fun _ _ => PyProof.Rows.sortedAll_old) (Nat.le_succ _) ⟨hz2, out, ep, vals_of_each h2, he'⟩, rfl, q _ _ pm so (I.hok.fresh (Nat.le_succ _))⟩

def rowsT : List T → Option (List (List Int))
  | [] => some []
  | .lst us :: ts => match inTs us, rowsT ts with
    | some ns, some rs => some (ns :: rs)
    | _, _ => none
  | _ :: _ => none
def rowT (r : List Int) : T := .lst (r.map .int)
theorem inTs_eq : ∀ {ts : List T} {ns : List Int}, inTs ts = some ns → ts = ns.map .int
  | [], ns, h => by simp only [inTs, Option.some.injEq] at h; subst h; rfl
  | t :: ts, ns, h => by
    cases t with
    | int i =>
      simp only [inTs] at h
      cases hh : inTs ts with
      | none => rw [hh] at h; cases h
      | some ms =>
        rw [hh] at h
        cases h
        rw [inTs_eq hh]; rfl
    | _ => simp [inTs] at h
theorem rows_rep {w : Wd} : ∀ {vs : List V} {ts : List T} {rs : List (List Int)}, RepL w vs ts → rowsT ts = some rs → ∃ bs : List (V × List Int), bs.map Prod.fst = vs ∧ bs.map Prod.snd = rs ∧ ∀ b ∈ bs, Rep w b.1 (rowT b.2)
  | _, _, _, .nil, h => by cases h; exact ⟨[], rfl, rfl, fun b hb => nomatch hb⟩
  | v :: vs, t :: ts, rs, .cons r l, h => by
    cases t with
    | lst us =>
      simp only [rowsT] at h
      split at h
      · rename_i ns rs' h1 h2
        cases h
        obtain ⟨bs, e1, e2, h3⟩ := rows_rep l h2
        have e := inTs_eq h1
        subst e
        exact ⟨(v, ns) :: bs, by rw [List.map_cons, e1], by rw [List.map_cons, e2], fun b hb => by
          rcases List.mem_cons.mp hb with e | hb
          · rw [e]; exact r
          · exact h3 b hb⟩
      · cases h
    | _ => simp [rowsT] at h
theorem rows_repL {w : Wd} : ∀ {bs : List (V × List Int)}, (∀ b ∈ bs, Rep w b.1 (rowT b.2)) → RepL w (bs.map Prod.fst) ((bs.map Prod.snd).map rowT)
  | [], _ => .nil
  | b :: bs, h => .cons (h b List.mem_cons_self) (rows_repL fun b hb => h b (List.mem_cons_of_mem _ hb))
theorem toDs_ints : ∀ ns : List Int, toDs (ns.map T.int) = some (ns.map .int)
  | [] => rfl
  | n :: r => by simp [toDs, toD, toDs_ints r]
def kSortedR : List T → Sto → Res T
  | [.lst ts], M => match rowsT ts with
    | some rs => .ok (.lst ((srtR rs).map rowT)) M
    | none => .stuck
  | _, _ => .stuck
theorem se_sortedR {X : Cx} {fs : Ev (List T)} {e : Expr} {es : List Expr} {p pos : Pos} {k : Nat} (hr : Room k X.A) (B : Blt X.mg) (ha : SA X (e :: es) fs) (hg : Gl X "sorted" := by rfl)
    (he : starEach (e :: es) X.env = (false, eval e X.env) :: starEach es X.env := by rfl) (hpl : (backTo pos (starEach es X.env)).any (·.1) = false := by rfl) : SE true X (.Call (.Name "sorted" p) (e :: es) [] pos) (eA kSortedR fs) := by
  refine se_callB (cr_sortedR (by have := hr.un; omega)) (fun w vs ts Q g r q => ?_) hg B.sorted PyProof.Rows.boot_sorted (by decide) (by decide) ha he hpl
  unfold kSortedR at q
  split at q
  · rename_i ts
    obtain ⟨v, rfl, r1⟩ := repL1 r
    split at q
    · rename_i rs hrs
      cases r1 with
      | lst n d l =>
        obtain ⟨bs, e1, e2, h3⟩ := rows_rep l hrs
        refine ⟨_, bs, rfl, by rw [e1]; exact .inl d, fun b hb => (h3 b hb).dp (by simp [rowT, toD, toDs_ints]), fun bs' p pm so hp => ?_⟩
        have e3 : bs'.map Prod.snd = srtR rs := by
          have p0 : (bs.map Prod.snd).Perm rs := by rw [e2]
          refine rows_same ((pm.map Prod.snd).trans (p0.trans (srtR_perm rs).symm)) ?_ (srtR_srt rs)
          rw [List.pairwise_map]
          exact so
        rw [← e3] at q
        exact post_lst q g hp (rows_repL (w := w) (bs := bs') fun b hb => h3 b (pm.mem_iff.mp hb))
    · exact q.elim
  · exact q.elim
end TL
end
section
set_option Elab.async false
set_option linter.all false
set_option maxRecDepth 100000
/-! TL23: plain lemmas on comprehensions and loops of trees. -/
namespace TL
open PySem PySem.Spec PyProof.Rows L2
theorem compL_map {g : Tg} {f : Ev T} {τ : Tau} {h : T → T} {M : Sto} : ∀ {ts : List T}, (∀ t ∈ ts, ∃ τ', g t τ M = .ok τ' M ∧ f τ' M = .ok (h t) M) → compL g cYes f τ ts M = .ok (ts.map h) M
  | [], _ => rfl
  | t :: ts, H => by
    obtain ⟨τ', h1, h2⟩ := H t List.mem_cons_self
    have ih := compL_map (ts := ts) fun u hu => H u (List.mem_cons_of_mem _ hu)
    unfold compL
    rw [h1]
    show ((f τ' M).bind _) = _
    rw [h2]
    show ((compL g cYes f τ ts M).bind _) = _
    rw [ih]
    rfl
theorem compL_filter {g : Tg} {c : Ev Bool} {f : Ev T} {τ : Tau} {p : T → Bool} {h : T → T} {M : Sto} : ∀ {ts : List T}, (∀ t ∈ ts, ∃ τ', g t τ M = .ok τ' M ∧ c τ' M = .ok (p t) M ∧ (p t = true → f τ' M = .ok (h t) M)) →
    compL g c f τ ts M = .ok ((ts.filter p).map h) M
  | [], _ => rfl
  | t :: ts, H => by
    obtain ⟨τ', h1, h2, h3⟩ := H t List.mem_cons_self
    have ih := compL_filter (ts := ts) fun u hu => H u (List.mem_cons_of_mem _ hu)
    unfold compL
    rw [h1]
    show ((c τ' M).bind _) = _
    rw [h2]
    show (if p t = true then _ else _) = _
    by_cases hp : p t = true
    · rw [if_pos hp, h3 hp, List.filter_cons_of_pos hp]
      show ((compL g c f τ ts M).bind _) = _
      rw [ih]
      rfl
    · rw [if_neg hp, List.filter_cons_of_neg hp]
      exact ih
/-- a loop that goes on: its state by the place -/
theorem forL_walk {g : Tg} {f : Ev Fl} {P : List T → Tau → Sto → Prop} (step : ∀ t ts τ M, P (t :: ts) τ M → ∃ τ1 M1 τ2 M2, g t τ M = .ok τ1 M1 ∧ (f τ1 M1 = .ok (.nx τ2) M2 ∨ f τ1 M1 = .ok (.ct τ2) M2) ∧ P ts τ2 M2) :
    ∀ {ts : List T} {τ : Tau} {M : Sto}, P ts τ M → ∃ τ' M', forL g f ts τ M = .ok (.nx τ') M' ∧ P [] τ' M'
  | [], τ, M, h => ⟨τ, M, rfl, h⟩
  | t :: ts, τ, M, h => by
    obtain ⟨τ1, M1, τ2, M2, h1, h2, h3⟩ := step t ts τ M h
    obtain ⟨τ', M', h4, h5⟩ := forL_walk step h3
    refine ⟨τ', M', ?_, h5⟩
    unfold forL
    rw [h1]
    show ((f τ1 M1).bind _) = _
    rcases h2 with h2 | h2
    · rw [h2]; exact h4
    · rw [h2]; exact h4
end TL
end
section
set_option Elab.async false
set_option linter.all false
set_option maxRecDepth 100000
/-! TL24: y = {k: v for ..} on one line. -/
namespace TL
open PySem PySem.Spec PyProof.Rows L2
theorem sw_trueD {kx vx : Expr} {gs : List Comprehension} {scope : Scope} {pos py : Pos} {y : Str} {l : Nat} {env : PySem.Env} (hk : env.scope.kind = .function) (hy : env.scope.names.lookup y = some .local) (hl : (py.line == pos.line) = true)
    (ha : (scope.names.any fun (n, k) => n == y && (k == .local || k == .cell)) = false) : swapsWith (.DictComp kx vx gs scope pos) (some (.Name y py)) l env = pure true := by
  have kd : env.kindOf y = some .local := hy
  have bk : env.blockKind = .function := by unfold PySem.Env.blockKind; rw [hk]; rfl
  unfold swapsWith
  simp only [bk, kd, ha, Expr.pos, hl]
  rfl
theorem ps_setDc {X : Cx} {i : Nat} {y : Str} {py : Pos} {kx vx tg iter : Expr} {ifs : List Expr} {scope : Scope} {own : List (Str × Nat)} {pos spos : Pos} {wi : TI} {g : TG} {tt : TT} {tk tv : TE} (hc : X.calm = true) (hN : X.N.Nodup) (hy : X.N[i]? = some y) (hyl : X.env.scope.names.lookup y = some .local)
    (hsw : swapsWith (.DictComp kx vx [⟨tg, iter, ifs, 0⟩] scope pos) (some (.Name y py)) spos.line X.env = pure true) (hi : PI X tg iter wi) (ok : BlkOk X.N X.env.scope scope own)
    (hg : ∀ (s : Shared) (H : Hp) (C : Addr) (cl : List (Str × Addr)) (fp : List Addr), PG (X.blk s H scope (compEnvC scope cl C X.env) fp) tg g) (ht : ∀ (s : Shared) (H : Hp) (C : Addr) (cl : List (Str × Addr)) (fp : List Addr), PTs (X.blk s H scope (compEnvC scope cl C X.env) fp) ifs tt)
    (hk : ∀ (s : Shared) (H : Hp) (C : Addr) (cl : List (Str × Addr)) (fp : List Addr), PE (X.blk s H scope (compEnvC scope cl C X.env) fp) kx tk) (he : ∀ (s : Shared) (H : Hp) (C : Addr) (cl : List (Str × Addr)) (fp : List Addr), PE (X.blk s H scope (compEnvC scope cl C X.env) fp) vx tv)
    (hs : ∀ x, foldedSetIterable iter X.env x = pure x := by intro _; rfl) : PS X (.Assign [.Name y py] (.DictComp kx vx [⟨tg, iter, ifs, 0⟩] scope pos) spos) (tAsg (tDc wi g tt tk tv (own.map (·.2))) (L2.gName i)) := by
  refine ⟨fun pins s σ H D I h => ?_⟩
  rw [exec_Assign_Name_used _ _ _ _ hsw]
  refine wpAny_bind (wpAny_standAt (wpAny_bind ?_))
  refine wpAny_bind (thn (dc_core (use := some (assign (.Name y py) X.env)) (Qf := fun _ t => SP X pins D .next t) hc hN I hi ok hg ht hk he hs h fun d C t m H2 I2 q hn f => ?_) fun _ t hq => wpAny_pure (wpAny_pure hq))
  show wpAny _ _ (assign (.Name y py) X.env (.ref d)) _ _ _
  refine wpAny_assign_Name (store_ok2 (v := V.ref d) I2 hN hy (.inl hyl) rfl (fun t2 I3 ⟨a, sb, ha⟩ => ?_) (.inr hyl))
  obtain ⟨f0, f1, f2, f3, f4, f5⟩ := f
  have ne : C ≠ a := ha.elim (fun z => by rw [z]; exact f1) fun z e => f4 y a z e.symm
  exact ⟨m, hn.sameBut sb ne, fun h3 sb3 => ⟨_, H2, I3.turned (t' := t2.toks) (fun b o hb e => (sb3.2 b hb).trans e) f0 f1 f3 f4 f5, q⟩⟩

theorem ss_setDc {X : Cx} {kx vx tg iter : Expr} {ifs : List Expr} {scope : Scope} {pos : Pos} {fi : Ev (List T)} {gt : Tg} {fc : Ev Bool} {fk fv : Ev T} {sl : List Nat} {F : Bool} {i : Nat} {y : Str} {py spos : Pos} (own : List (Str × Nat)) (hN : X.N.Nodup) (hi : SI X tg iter fi)
    (hg : ∀ (s : Shared) (H : Hp) (C : Addr) (cl : List (Str × Addr)) (fp : List Addr), SG sl (X.blk s H scope (compEnvC scope cl C X.env) fp) tg gt)
    (ht : ∀ (s : Shared) (H : Hp) (C : Addr) (cl : List (Str × Addr)) (fp : List Addr), STs (X.blk s H scope (compEnvC scope cl C X.env) fp) ifs fc) (hk : ∀ (s : Shared) (H : Hp) (C : Addr) (cl : List (Str × Addr)) (fp : List Addr), SE false (X.blk s H scope (compEnvC scope cl C X.env) fp) kx fk)
    (he : ∀ (s : Shared) (H : Hp) (C : Addr) (cl : List (Str × Addr)) (fp : List Addr), SE false (X.blk s H scope (compEnvC scope cl C X.env) fp) vx fv)
    (ok : blkC X.N X.env.scope scope own = true := by decide +kernel)
    (hsw : swapsWith (.DictComp kx vx [⟨tg, iter, ifs, 0⟩] scope pos) (some (.Name y py)) spos.line X.env = pure true := by exact sw_trueD rfl rfl rfl (by decide +kernel))
    (hsl : ∀ j ∈ sl, j ∈ own.map (·.2) := by decide) (hy : X.N[i]? = some y := by rfl) (hyl : X.env.scope.names.lookup y = some .local := by rfl) (hc : X.calm = true := by rfl) (hs : ∀ x, foldedSetIterable iter X.env x = pure x := by intro _; rfl) :
    SS F X (.Assign [.Name y py] (.DictComp kx vx [⟨tg, iter, ifs, 0⟩] scope pos) spos) (sAsg (eDcomp fi gt fc fk fv (own.map (·.2))) (gN i)) := by
  refine ps_imp (ps_setDc (g := tG X.mg sl gt) (tt := tT X.mg fc) (tk := tE X.mg false fk) (tv := tE X.mg false fv) hc hN hy hyl hsw hi (blkOk_by ok) hg ht hk he hs) fun D σ H ⟨w, τ, e, g, n, q⟩ => ?_
  subst e
  refine dc_imp hsl ⟨w, τ, rfl, g, n, Res.all_mono (fun t M' q w1 v x1 g1 e1 r1 _ => ?_) (Res.all_bind q)⟩
  subst e1
  refine gName_imp ⟨w1, τ, t, rfl, g1, n.mono x1, r1, Res.all_mono (fun τ' M2 q w2 σ' x2 g2 e2 n2 _ => ?_) (Res.all_bind q)⟩
  exact q w2 (x1.trans x2) g2 e2 σ' n2
end TL
end
section
set_option Elab.async false
set_option linter.all false
set_option maxRecDepth 100000
/-! TL25: comb. -/
namespace TL
open PySem PySem.Spec PyProof.Rows L2
theorem pe_callG {X : Cx} {x : Str} {id : String} {r : List V → Hp → VK → Prop} {t : TA} {e : Expr} {es : List Expr} {p pos : Pos} (hc : CallR X (.builtin id) r) (hg : Gl X x) (hm : X.mg x = some (.builtin id)) (ha : PA X (e :: es) t) (hdb : (x == ("__debug__" : Str)) = false := by decide)
    (he : starEach (e :: es) X.env = (false, eval e X.env) :: starEach es X.env := by rfl) (hpl : (backTo pos (starEach es X.env)).any (·.1) = false := by rfl) : PE X (.Call (.Name x p) (e :: es) [] pos) (tCB r t) :=
  ⟨fun pins s σ H Q I h => wpAny_Call_Name_kw (ld_glob I hg hm (PyProof.Rows.callWith_builtin1 (thn (ha.run pos pins s σ H _ I h) fun us s1 ⟨vs, H1, I1, r1, q1⟩ => hc pins s1 σ H1 vs us Q I1 r1 q1) he hpl) hdb)⟩
def rComb : List V → Hp → VK → Prop := fun xs H Q => ∃ a b : Int, xs = [.int a, .int b] ∧ 0 ≤ a ∧ 0 ≤ b ∧ a ≤ 18000 ∧ Q (.int (PySem.W.mcComb a b)) H
theorem call_comb {X : Cx} : CallR X (.builtin "math.comb") rComb := by
  intro pins s σ H xs us Q I r ⟨a, b, e, ha, hb, hl, q⟩
  subst e
  obtain ⟨u, w', rfl, ⟨t, rfl⟩, ⟨t', rfl⟩⟩ := vals2 r
  exact PySem.W.mc_comb ha hb (by omega) (.inr hl) fun _ => ⟨.int (PySem.W.mcComb a b), H, I.tok _, ⟨_, rfl⟩, q⟩
def kComb : List T → Sto → Res T
  | [.int a, .int b], M => if 0 ≤ a ∧ 0 ≤ b ∧ a ≤ 18000 then .ok (.int (PySem.W.mcComb a b)) M else .stuck
  | _, _ => .stuck
theorem se_comb {X : Cx} {x : Str} {fs : Ev (List T)} {e : Expr} {es : List Expr} {p pos : Pos} (hm : X.mg x = some (.builtin "math.comb")) (ha : SA X (e :: es) fs) (hg : Gl X x := by rfl) (hdb : (x == ("__debug__" : Str)) = false := by decide)
    (he : starEach (e :: es) X.env = (false, eval e X.env) :: starEach es X.env := by rfl) (hpl : (backTo pos (starEach es X.env)).any (·.1) = false := by rfl) : SE false X (.Call (.Name x p) (e :: es) [] pos) (eA kComb fs) := by
  refine pe_imp (pe_callG call_comb hg hm ha hdb he hpl) fun σ H Q h => args_imp (fun w vs ts Q g r q => ?_) h
  unfold kComb at q
  split at q
  · obtain ⟨v, z, rfl, r1, r2⟩ := repL2 r
    split at q
    · rename_i hc
      cases r1
      cases r2
      exact ⟨_, _, rfl, hc.1, hc.2.1, hc.2.2, post_ok q g (.int _)⟩
    · exact q.elim
  · exact q.elim
theorem comb_try : PySem.W.mcComb 5 2 = 10 := by decide +kernel
end TL
end
section
set_option Elab.async false
set_option linter.all false
set_option maxRecDepth 100000
/-! TL26: min of rows. -/
namespace TL
open PySem PySem.Spec PyProof.Rows L2
theorem dataLt_rows (a b : List Int) : PySem.W.dataLt (.list (a.map .int)) (.list (b.map .int)) = decide (a < b) := by
  have h : PySem.W.dataLe false (fun b : List Int => PyData.list (b.map .int)) = fun p q => decide (p ≤ q) := PySem.W.dataLe_rows (fun b : List Int => b)
  have h2 : (!PySem.W.dataLt (.list (a.map .int)) (.list (b.map .int))) = decide (b ≤ a) := congrFun (congrFun h b) a
  by_cases hh : a < b
  · have : ¬ b ≤ a := fun r => List.not_lt.mpr r hh
    rw [decide_eq_true hh]
    rw [decide_eq_false this] at h2
    simpa using h2
  · have : b ≤ a := List.not_lt.mp hh
    rw [decide_eq_false hh]
    rw [decide_eq_true this] at h2
    simpa using h2
def minR (r : List Int) : List (List Int) → List Int
  | [] => r
  | s :: rs => minR (if leR r s then r else s) rs
theorem minD_rows (r : List Int) : ∀ rs : List (List Int), PySem.W.minD (.list (r.map .int)) (rs.map fun b => .list (b.map .int)) = .list ((minR r rs).map .int) := by
  intro rs
  induction rs generalizing r with
  | nil => rfl
  | cons s rs ih =>
    show PySem.W.minD (if PySem.W.dataLt (.list (s.map .int)) (.list (r.map .int)) then _ else _) _ = _
    rw [dataLt_rows]
    show _ = PyData.list ((minR (if leR r s then r else s) rs).map .int)
    by_cases h : s < r
    · have h' : ¬ leR r s = true := fun z => List.not_lt.mpr (leR_iff.mp z) h
      rw [if_pos (decide_eq_true h), if_neg h', ih]
    · have h' : leR r s = true := leR_iff.mpr (List.not_lt.mp h)
      rw [if_neg (by simpa using h), if_pos h', ih]
/-- min of rows: any of the least -/
def rMinR (K : PySem.W.Frag) : List V → Hp → VK → Prop := fun vs H Q => ∃ (a : Addr) (b : V × List Int) (bs : List (V × List Int)), vs = [.ref a] ∧ SqL K H a ((b :: bs).map Prod.fst) ∧ (∀ c ∈ b :: bs, Dp K H c.1 (.list (c.2.map .int))) ∧
  ∀ c ∈ b :: bs, c.2 = minR b.2 (bs.map Prod.snd) → Q c.1 H
theorem each_reads {X : Cx} {pins σ H s} (I : Inv X pins σ H s) : ∀ {bs : List (V × List Int)} {us : List Value}, Vals (bs.map Prod.fst) us → (∀ b ∈ bs, Dp X.K H b.1 (.list (b.2.map .int))) → ∃ as, ReadsAll s.heap us (bs.map fun b => .list (b.2.map .int)) as
  | [], _, r, _ => by cases r; exact ⟨_, .nil⟩
  | b :: bs, _, r, h => by
    rw [List.map_cons] at r
    cases r with
    | cons r1 r2 =>
      obtain ⟨as, h1⟩ := (h b List.mem_cons_self).reads I _ _ _ r1
      obtain ⟨as2, h2⟩ := each_reads I r2 fun b hb => h b (List.mem_cons_of_mem _ hb)
      exact ⟨_, .cons h1 h2⟩
theorem at_each : ∀ {bs : List (V × List Int)} {us : List Value} {i : Nat} {u : Value}, Vals (bs.map Prod.fst) us → us[i]? = some u → ∃ b ∈ bs, RelV b.1 u
  | [], _, _, _, r, h => by cases r; simp at h
  | b :: bs, _, i, u, r, h => by
    rw [List.map_cons] at r
    cases r with
    | cons r1 r2 =>
      cases i with
      | zero => simp at h; subst h; exact ⟨b, List.mem_cons_self, r1⟩
      | succ i =>
        obtain ⟨c, hc, r⟩ := at_each r2 (by simpa using h)
        exact ⟨c, List.mem_cons_of_mem _ hc, r⟩
theorem depthAll_rows : ∀ rs : List (List Int), PyData.depthAll (rs.map fun b => .list (b.map .int)) ≤ 2
  | [] => Nat.zero_le _
  | r :: rs => by
    have h1 := depth_ints r
    have h2 := depthAll_rows rs
    show max (PyData.list (r.map .int)).depth (PyData.depthAll (rs.map fun b => .list (b.map .int))) ≤ 2
    omega
theorem ints_inj : ∀ {a b : List Int}, a.map PyData.int = b.map PyData.int → a = b
  | [], [], _ => rfl
  | [], _ :: _, h => by simp at h
  | _ :: _, [], h => by simp at h
  | x :: xs, y :: ys, h => by
    rw [List.map_cons, List.map_cons] at h
    injection h with h1 h2
    injection h1 with h1
    rw [h1, ints_inj h2]
theorem cr_minR {X : Cx} (hc : X.calm = true) (hu : X.A.units + 10 < cLine) : CallR X (.builtin "min") (rMinR X.K) := by
  intro pins s σ H vs us Q I r ⟨a, b, bs, e, hs, hd, q⟩
  subst e
  obtain ⟨its, rv, pl, hz⟩ := I.list hs
  rw [Vals.ref1 r]
  obtain ⟨as, hr⟩ := each_reads I rv hd
  have hr' : ReadsAll s.heap its.toArray.toList (PyData.list (b.2.map .int) :: (bs.map Prod.snd).map fun b => .list (b.map .int)) as := by
    rw [List.map_map]; exact hr
  have hl2 : ∀ x ∈ (PyData.list (b.2.map .int) :: (bs.map Prod.snd).map fun b => PyData.list (b.map .int)), ∃ r : List Int, x = .list (r.map .int) := fun x hx => by
    rcases List.mem_cons.mp hx with e | hx
    · exact ⟨_, e⟩
    · obtain ⟨c, _, e⟩ := List.mem_map.mp hx
      exact ⟨_, e.symm⟩
  have al : PySem.W.AlikeAll (PyData.list (b.2.map .int) :: (bs.map Prod.snd).map fun b => PyData.list (b.map .int)) := ⟨fun x hx y hy => by
    obtain ⟨r1, rfl⟩ := hl2 x hx
    obtain ⟨r2, rfl⟩ := hl2 y hy
    have := alike_ints r1 r2
    simpa [PySem.W.alike] using this, fun x hx => by
    obtain ⟨r1, rfl⟩ := hl2 x hx
    exact fun z => (nomatch z)⟩
  have dp := depthAll_rows (b.2 :: bs.map Prod.snd)
  refine PySem.W.min_list_data (I.ok.hd hc) pl.isList hr' al (by
    have : PyData.depthAll (PyData.list (b.2.map .int) :: (bs.map Prod.snd).map fun b => PyData.list (b.map .int)) ≤ 2 := dp
    omega) fun i v h' tk bs' hv rd hk => ?_
  rw [minD_rows] at rd
  have hv' : its[i]? = some v := by simpa using hv
  obtain ⟨c, hc', rc⟩ := at_each rv hv'
  obtain ⟨as2, h2⟩ := (hd c hc').reads I _ _ _ rc
  have e := (PySem.Reads.unique (PySem.W.reads_keeps hk h2) _ _ rd).1
  injection e with e
  exact ⟨_, H, I.kept hk, rc, q c hc' (ints_inj e)⟩
def kMinR : List T → Sto → Res T
  | [.lst ts], M => match rowsT ts with
    | some (r :: rs) => .ok (rowT (minR r rs)) M
    | _ => .stuck
  | _, _ => .stuck
theorem se_minR {X : Cx} {fs : Ev (List T)} {e : Expr} {es : List Expr} {p pos : Pos} {k : Nat} (hr : Room k X.A) (B : Blt X.mg) (ha : SA X (e :: es) fs) (hc : X.calm = true := by rfl) (hg : Gl X "min" := by rfl)
    (he : starEach (e :: es) X.env = (false, eval e X.env) :: starEach es X.env := by rfl) (hpl : (backTo pos (starEach es X.env)).any (·.1) = false := by rfl) : SE false X (.Call (.Name "min" p) (e :: es) [] pos) (eA kMinR fs) := by
  refine se_callB (cr_minR hc (by have := hr.un; omega)) (fun w vs ts Q g r q => ?_) hg B.min PyProof.Rows.boot_min (by decide) (by decide) ha he hpl
  unfold kMinR at q
  split at q
  · rename_i ts
    obtain ⟨v, rfl, r1⟩ := repL1 r
    split at q
    · rename_i rw_ rs hrs
      cases r1 with
      | lst n d l =>
        obtain ⟨bs, e1, e2, h3⟩ := rows_rep l hrs
        cases bs with
        | nil => cases e2
        | cons b bs =>
          rw [List.map_cons] at e2
          injection e2 with e2 e4
          subst e2 e4
          refine ⟨_, b, bs, rfl, by rw [e1]; exact .inl d, fun c hc => (h3 c hc).dp (by simp [rowT, toD, toDs_ints]), fun c hc e => ?_⟩
          have := h3 c hc
          rw [e] at this
          exact post_ok q g this
    · exact q.elim
  · exact q.elim
end TL
end
section
set_option Elab.async false
set_option linter.all false
set_option maxRecDepth 100000
/-! TL27: l.index(x) of rows. -/
namespace TL
open PySem PySem.Spec PyProof.Rows L2
section
variable {X : Cx} {o e : Expr} {es : List Expr} {apos cpos : Pos} {fo : Ev T} {fs : Ev (List T)}
def ixD (d : PyData) : List PyData → Option Nat
  | [] => none
  | z :: zs => if PyData.eqv z d then some 0 else match ixD d zs with
    | some j => some (j + 1)
    | none => none
theorem ixD_ok {y : PyData} : ∀ {vs : List PyData} {j : Nat}, ixD y vs = some j → (∃ z, vs[j]? = some z ∧ PyData.eqv z y = true) ∧ ∀ (m : Nat) (z' : PyData), m < j → vs[m]? = some z' → PyData.eqv z' y = false
  | [], _, h => by cases h
  | v :: vs, j, h => by
    unfold ixD at h
    by_cases hv : PyData.eqv v y = true
    · rw [if_pos hv] at h
      cases h
      exact ⟨⟨v, rfl, hv⟩, fun m z hm => absurd hm (Nat.not_lt_zero m)⟩
    · rw [if_neg hv] at h
      split at h
      · rename_i j' hj
        cases h
        obtain ⟨h1, h2⟩ := ixD_ok hj
        refine ⟨h1, fun m z hm hz => ?_⟩
        cases m with
        | zero =>
          have e : v = z := by simpa using hz
          rw [← e]
          simpa using hv
        | succ m => exact h2 m z (by omega) (by simpa using hz)
      · cases h
def kIdxD : T → List T → Sto → Res T
  | .lst ts, [t], M => match toD t, toDs ts with
    | some d, some ds => if SeqAt.shaped d && SeqAt.shaped (.list ds) then match ixD d ds with
        | some j => .ok (.int (j : Nat)) M
        | none => .stuck
      else .stuck
    | _, _ => .stuck
  | _, _, _ => .stuck
theorem se_indexD {k : Nat} (hr : Room k X.A) (ho : SE false X o fo) (ha : SA X (e :: es) fs) (hbase : attributeBase o "index" X.env (eval o X.env) = eval o X.env := by rfl)
    (hfew : ((backTo cpos (starEach (e :: es) X.env)).all (fun x => !x.1) && (backToKw cpos (keywordEach [] X.env)).all (fun x => x.1.isSome) && decide ((e :: es).length + ([] : List Keyword).length + (if ([] : List Keyword).isEmpty then 0 else 1) < 30)) = true := by rfl)
    (hline : (apos.endLine == cpos.line) = true := by rfl) (hs : starEach (e :: es) X.env = (false, eval e X.env) :: starEach es X.env := by rfl) (hplain : (backTo cpos (starEach es X.env)).any (·.1) = false := by rfl) :
    SE false X (.Call (.Attribute o "index" apos) (e :: es) [] cpos) (eBm kIdxD fo fs) := by
  refine se_bmL PySem.F.slot_list_index PySem.F.type_list_index (mt_indexD (by have := hr.un; omega)) (fun w x vs o ts Q g r rs q => ?_) ho ha hbase hfew hline hs hplain
  unfold kIdxD at q
  split at q
  · rename_i ts0 t0
    obtain ⟨v, rfl, r1⟩ := repL1 rs
    split at q
    · rename_i d ds h1 h2
      split at q
      · rename_i hsh
        rw [Bool.and_eq_true] at hsh
        split at q
        · rename_i j hj
          obtain ⟨⟨z, hz, hzz⟩, hno⟩ := ixD_ok hj
          have dl : Dp X.K w.H x (.list ds) := Rep.dp (t := .lst ts0) r (by simp only [toD, h2])
          cases r with
          | lst n dd l => exact ⟨_, v, d, ds, j, z, rfl, rfl, dl, r1.dp h1, hsh.2, hsh.1, hz, hzz, hno, post_ok q g (.int _)⟩
        · exact q.elim
      · exact q.elim
    · exact q.elim
  · exact q.elim
end
/-! ### x, y = a list -/
def gTupL (k : Nat) (gs : List T → Tau → Sto → Res Tau) : Tg := fun t τ M => match t with
  | .lst ts => if ts.length = k then gs ts τ M else .stuck
  | _ => .stuck
theorem sg_tupL {X : Cx} {pos : Pos} {sl : List Nat} {es : List Expr} {k : Nat} {gs : List T → Tau → Sto → Res Tau} {n : Nat} (h : SGs sl X es gs) (hc : X.calm = true := by rfl) (hn : (assignEach es X.env).length = n := by rfl) (hst : (assignEach es X.env).findIdx? (·.1) = none := by rfl) : SG sl X (.Tuple es k pos) (gTupL n gs) := by
  refine pg_imp (pg_unl hc h hn hst) fun v σ H Q ⟨w, τ, t, e, g0, nm, r, q⟩ => ?_
  subst e
  unfold gTupL at q
  split at q
  · split at q
    · rename_i hl
      cases r with
      | lst n0 d l => exact ⟨_, _, rfl, .inl d, by rw [l.length]; exact hl, w, τ, _, rfl, g0, nm, l, q⟩
    · exact q.elim
  · exact q.elim
end TL
end
section
set_option Elab.async false
set_option linter.all false
set_option maxRecDepth 100000
/-! TL28: plain lemmas on how tree programs run. -/
namespace TL
open PySem PySem.Spec PyProof.Rows L2
/-- an equation that is not seen to be one by looking -/
theorem nr {α : Sort u} {a b : α} (h : a = b) : a = b := h
section
variable {α β : Type} {τ : Tau} {M : Sto}
@[simp] theorem bind_ok {a : α} {k : α → Sto → Res β} : Res.bind (.ok a M) k = k a M := nr rfl
@[simp] theorem bind_stuck {k : α → Sto → Res β} : Res.bind .stuck k = .stuck := nr rfl
@[simp] theorem bind_pick {m : Nat} {f : Nat → Res α} {k : α → Sto → Res β} : Res.bind (.pick m f) k = .pick m fun r => (f r).bind k := nr rfl
@[simp] theorem all_ok {Φ : α → Sto → Prop} {a : α} : Res.all Φ (.ok a M) = Φ a M := nr rfl
@[simp] theorem all_pick {Φ : α → Sto → Prop} {m : Nat} {f : Nat → Res α} : Res.all Φ (.pick m f) = ∀ r, r < m → (f r).all Φ := nr rfl
@[simp] theorem all_stuck {Φ : α → Sto → Prop} : Res.all Φ (.stuck : Res α) = False := nr rfl
/-- all that may come of a run; a structure, so that nothing is run by looking at it -/
structure Wp {α : Type} (x : Res α) (Φ : α → Sto → Prop) : Prop where
  ok : x.all Φ
@[simp] theorem wp_ok {Φ : α → Sto → Prop} {a : α} : Wp (.ok a M) Φ ↔ Φ a M := ⟨fun h => h.ok, fun h => ⟨h⟩⟩
@[simp] theorem wp_pick {Φ : α → Sto → Prop} {m : Nat} {f : Nat → Res α} : Wp (.pick m f) Φ ↔ ∀ r, r < m → Wp (f r) Φ := ⟨fun h r hr => ⟨h.ok r hr⟩, fun h => ⟨fun r hr => (h r hr).ok⟩⟩
theorem wp_bind {Φ : β → Sto → Prop} {k : α → Sto → Res β} {a : Res α} : Wp (a.bind k) Φ ↔ Wp a fun x M => Wp (k x M) Φ :=
  ⟨fun h => ⟨Res.all_mono (fun _ _ q => ⟨q⟩) (Res.all_bind h.ok)⟩, fun h => ⟨Res.bind_all (Res.all_mono (fun _ _ q => q.ok) h.ok)⟩⟩
theorem Wp.mono {Φ Ψ : α → Sto → Prop} {a : Res α} (h : Wp a Φ) (i : ∀ x M, Φ x M → Ψ x M) : Wp a Ψ := ⟨Res.all_mono i h.ok⟩
theorem all_bind' {Φ : β → Sto → Prop} {k : α → Sto → Res β} {a : Res α} : (a.bind k).all Φ ↔ a.all fun x M => (k x M).all Φ := ⟨Res.all_bind, Res.bind_all⟩
variable {a b c : Ev T} {p q r : Ev Bool} {f g : Ev Fl} {fs : Ev (List T)} {i : Nat} {t : T}
@[simp] theorem eVar_run : eVar i τ M = (match τ[i]? with | some (some t) => .ok t M | _ => .stuck) := nr rfl
@[simp] theorem eC_run : eC t τ M = .ok t M := nr rfl
@[simp] theorem e1_run {k} : e1 k a τ M = (a τ M).bind k := nr rfl
@[simp] theorem e2_run {k} : e2 k a b τ M = (a τ M).bind fun x M1 => (b τ M1).bind fun y M2 => k x y M2 := nr rfl
@[simp] theorem eB_run : eB a τ M = (a τ M).bind fun t M' => match t with | .bl b => .ok b M' | _ => .stuck := nr rfl
@[simp] theorem eAnd_run : eAnd p q τ M = (p τ M).bind fun b M' => if b then q τ M' else .ok false M' := nr rfl
@[simp] theorem eOr_run : eOr p q τ M = (p τ M).bind fun b M' => if b then .ok true M' else q τ M' := nr rfl
@[simp] theorem eNot_run : eNot p τ M = (p τ M).bind fun b M' => .ok (!b) M' := nr rfl
@[simp] theorem eIf_run : eIf p a b τ M = (p τ M).bind fun x M' => if x then a τ M' else b τ M' := nr rfl
@[simp] theorem vAnd_run : vAnd a b τ M = (a τ M).bind fun t M' => match t with | .bl true => b τ M' | .bl false => .ok (.bl false) M' | _ => .stuck := nr rfl
@[simp] theorem vOr_run : vOr a b τ M = (a τ M).bind fun t M' => match t with | .bl false => b τ M' | .bl true => .ok (.bl true) M' | _ => .stuck := nr rfl
@[simp] theorem eNil_run : eNil τ M = .ok [] M := nr rfl
@[simp] theorem eCons_run : eCons a fs τ M = (a τ M).bind fun t M1 => (fs τ M1).bind fun ts M2 => .ok (t :: ts) M2 := nr rfl
@[simp] theorem eLst_run : eLst fs τ M = (fs τ M).bind fun ts M' => if ts.length ≤ 16777216 then .ok (.lst ts) M' else .stuck := nr rfl
@[simp] theorem eTup_run : eTup fs τ M = (fs τ M).bind fun ts M' => if ts.length ≤ 16777216 then .ok (.tup ts) M' else .stuck := nr rfl
@[simp] theorem eA_run {k} : eA k fs τ M = (fs τ M).bind k := nr rfl
@[simp] theorem ePart_run : ePart a τ M = (a τ M).bind fun t M' => match t with | .int i => .ok (some i) M' | _ => .stuck := nr rfl
@[simp] theorem eNone_run : eNone τ M = .ok none M := nr rfl
@[simp] theorem eSl_run {lo hi} : eSl a lo hi τ M = (a τ M).bind fun t M1 => (lo τ M1).bind fun l M2 => (hi τ M2).bind fun u M3 => match t with
  | .lst xs => .ok (.lst (cutT xs l u)) M3
  | .ref n => match M3.get n with
    | some (.lst xs) => .ok (.lst (cutT xs l u)) M3
    | _ => .stuck
  | _ => .stuck := nr rfl
@[simp] theorem sNil_run : sNil τ M = .ok (.nx τ) M := nr rfl
@[simp] theorem sPass_run : sPass τ M = .ok (.nx τ) M := nr rfl
@[simp] theorem sSeq_run : sSeq f g τ M = (f τ M).bind fun fl M' => match fl with | .nx τ' => g τ' M' | fl => .ok fl M' := nr rfl
@[simp] theorem sExpr_run : sExpr a τ M = (a τ M).bind fun _ M' => .ok (.nx τ) M' := nr rfl
@[simp] theorem sRet_run : sRet a τ M = (a τ M).bind fun t M' => .ok (.rt t) M' := nr rfl
@[simp] theorem sIf_run : sIf p f g τ M = (p τ M).bind fun b M' => if b then f τ M' else g τ M' := nr rfl
@[simp] theorem sAsg_run {g : Tg} : sAsg a g τ M = (a τ M).bind fun t M1 => (g t τ M1).bind fun τ' M2 => .ok (.nx τ') M2 := nr rfl
@[simp] theorem gN_run : gN i t τ M = .ok (τ.set i (some t)) M := nr rfl
@[simp] theorem gTup_run {k gs} {ts : List T} : gTup k gs (.tup ts) τ M = if ts.length = k then gs ts τ M else .stuck := nr rfl
@[simp] theorem gCons_run {g : Tg} {gs} {ts : List T} : gCons g gs (t :: ts) τ M = (g t τ M).bind fun τ' M' => gs ts τ' M' := nr rfl
@[simp] theorem gNil_run : gNil [] τ M = .ok τ M := nr rfl
@[simp] theorem cYes_run : cYes τ M = .ok true M := nr rfl
@[simp] theorem eCall_run {n dts k} : eCall n dts k fs τ M = (fs τ M).bind fun ts M' => if ts.length + dts.length = n then k (ts ++ dts) M' else .stuck := nr rfl
@[simp] theorem iLst_run : iLst a τ M = (a τ M).bind fun t M' => match t with | .lst ts => .ok ts M' | _ => .stuck := nr rfl
@[simp] theorem iTpl_run : iTpl a τ M = (a τ M).bind fun t M' => match t with | .tup ts => .ok ts M' | _ => .stuck := nr rfl
@[simp] theorem iEn_run : iEn a τ M = (a τ M).bind fun t M' => match t with | .lst ts => .ok (enFrom 0 ts) M' | _ => .stuck := nr rfl
@[simp] theorem iRg1_run : iRg1 a τ M = (a τ M).bind fun t M' => match t with | .int j => if j < 4611686018427387904 ∧ -4611686018427387904 ≤ j then .ok (rgT 0 j.toNat) M' else .stuck | _ => .stuck := nr rfl
@[simp] theorem eLrg1_run : eLrg1 a τ M = (a τ M).bind fun t M' => match t with | .int j => if okRg 0 j then .ok (.lst (rgT 0 j.toNat)) M' else .stuck | _ => .stuck := nr rfl
@[simp] theorem eLenSet_run : eLenSet a τ M = (a τ M).bind fun t M' => match t with
  | .lst ts => (match inTs ts with
    | some ns => if ndI ns && decide (ns.length ≤ 4000) then .ok (.int (ns.length : Nat)) M' else .stuck
    | none => .stuck)
  | _ => .stuck := nr rfl
@[simp] theorem sFor_run {fi} {g : Tg} : sFor fi g f τ M = (fi τ M).bind fun ts M' => forL g f ts τ M' := nr rfl
@[simp] theorem eBm_run {k} : eBm k a fs τ M = (a τ M).bind fun o M1 => if isL o M1 then (fs τ M1).bind fun ts M2 => k o ts M2 else .stuck := nr rfl
@[simp] theorem eComp_run {fi} {g : Tg} {vs} : eComp fi g p a vs τ M = (fi τ M).bind fun ts M1 => if ts.length ≤ 16777216 then (compL g p a (wipeT τ vs) ts M1).bind fun ys M2 => .ok (.lst ys) M2 else .stuck := nr rfl
end
/-! ### values -/
abbrev li (xs : List Int) : T := .lst (xs.map T.int)
theorem toD_li (xs : List Int) : toD (li xs) = some (.list (xs.map .int)) := by simp [toD, toDs_ints]
theorem canAll_ints : ∀ xs : List Int, PyData.canLayAll0 (xs.map .int) = true
  | [] => rfl
  | x :: xs => by
    have := canAll_ints xs
    simpa [PyData.canLayAll0, PyData.canLay0] using this
theorem shaped_li (xs : List Int) : SeqAt.shaped (.list (xs.map .int)) = true := by
  have h1 : (PyData.list (xs.map .int)).canLay0 = true := canAll_ints xs
  have h2 := depth_ints xs
  unfold SeqAt.shaped
  rw [h1, Bool.true_and, decide_eq_true_eq]
  omega
theorem eqvAll_ints : ∀ xs ys : List Int, PyData.eqvAll (xs.map .int) (ys.map .int) = decide (xs = ys)
  | [], [] => rfl
  | [], _ :: _ => rfl
  | _ :: _, [] => rfl
  | x :: xs, y :: ys => by
    have := eqvAll_ints xs ys
    show (PyData.eqv (.int x) (.int y) && PyData.eqvAll (xs.map .int) (ys.map .int)) = _
    rw [this]
    show ((x == y) && _) = _
    by_cases h1 : x = y <;> by_cases h2 : xs = ys <;> simp [h1, h2]
@[simp] theorem kEq_li (xs ys : List Int) : kEq0 (.lst (xs.map T.int)) (.lst (ys.map T.int)) = some (decide (xs = ys)) := by
  unfold kEq0
  rw [toD_li, toD_li]
  show (if SeqAt.shaped _ && SeqAt.shaped _ then some (PyData.eqvAll (xs.map .int) (ys.map .int)) else none) = _
  rw [shaped_li, shaped_li, eqvAll_ints]; rfl
@[simp] theorem kNe_li (xs ys : List Int) : kNe0 (.lst (xs.map T.int)) (.lst (ys.map T.int)) = some (!decide (xs = ys)) := by
  unfold kNe0
  rw [toD_li, toD_li]
  show (if SeqAt.shaped _ && SeqAt.shaped _ then some (!PyData.eqvAll (xs.map .int) (ys.map .int)) else none) = _
  rw [shaped_li, shaped_li, eqvAll_ints]; rfl
@[simp] theorem kEq_int (i j : Int) : kEq0 (.int i) (.int j) = some (decide (i = j)) := by
  show some (i == j) = _
  congr 1
@[simp] theorem kNe_int (i j : Int) : kNe0 (.int i) (.int j) = some (!decide (i = j)) := by
  show some (!(i == j)) = _
  congr 1
theorem kVw_some {k0 : T → T → Option Bool} {a b : T} {M : Sto} {c : Bool} (h : k0 a b = some c) : kVw k0 a b M = .ok (.bl c) M := by unfold kVw; rw [h]
@[simp] theorem vEq_li {xs ys : List Int} {M : Sto} : kVw kEq0 (.lst (xs.map T.int)) (.lst (ys.map T.int)) M = .ok (.bl (decide (xs = ys))) M := kVw_some (kEq_li _ _)
@[simp] theorem vNe_li {xs ys : List Int} {M : Sto} : kVw kNe0 (.lst (xs.map T.int)) (.lst (ys.map T.int)) M = .ok (.bl (!decide (xs = ys))) M := kVw_some (kNe_li _ _)
@[simp] theorem vEq_int {i j : Int} {M : Sto} : kVw kEq0 (.int i) (.int j) M = .ok (.bl (decide (i = j))) M := kVw_some (kEq_int _ _)
@[simp] theorem vNe_int {i j : Int} {M : Sto} : kVw kNe0 (.int i) (.int j) M = .ok (.bl (!decide (i = j))) M := kVw_some (kNe_int _ _)
theorem flTs_ints : ∀ xs : List Int, flTs (xs.map T.int) = some (xs.map V.int)
  | [] => rfl
  | x :: xs => by show (match flT (T.int x), flTs (xs.map T.int) with | some d, some ds => some (d :: ds) | _, _ => none) = _; rw [flTs_ints xs]; rfl
theorem eqV_int (i j : Int) : eqV (.int i) (.int j) = decide (i = j) := by
  unfold eqV
  first | rfl | simp
theorem inV_ints (i : Int) : ∀ xs : List Int, inV (.int i) (xs.map V.int) = decide (i ∈ xs)
  | [] => by simp [inV]
  | x :: xs => by
    have := inV_ints i xs
    unfold inV at this ⊢
    rw [List.map_cons, List.any_cons, this, eqV_int]
    by_cases h : x = i <;> by_cases h2 : i ∈ xs <;> simp [h, h2, eq_comm]
    · intro e; exact absurd e.symm h
@[simp] theorem kIn_li (i : Int) (xs : List Int) : kIn0 (.int i) (.lst (xs.map T.int)) = some (decide (i ∈ xs)) := by
  unfold kIn0
  show (match flT (T.int i), flTs (xs.map T.int) with | some v, some vs => some (inV v vs) | _, _ => _) = _
  rw [flTs_ints]
  show some (inV (.int i) (xs.map V.int)) = _
  rw [inV_ints]
@[simp] theorem vIn_li {i : Int} {xs : List Int} {M : Sto} : kVw kIn0 (.int i) (.lst (xs.map T.int)) M = .ok (.bl (decide (i ∈ xs))) M := kVw_some (kIn_li _ _)
@[simp] theorem vNin_li {i : Int} {xs : List Int} {M : Sto} : kVw (fun a b => (kIn0 a b).map not) (.int i) (.lst (xs.map T.int)) M = .ok (.bl (!decide (i ∈ xs))) M := kVw_some (by show (kIn0 (.int i) (.lst (xs.map T.int))).map not = _; rw [kIn_li]; rfl)
theorem kIx_li {xs : List T} {i : Int} {M : Sto} {t : T} (h0 : 0 ≤ i) (h : xs[i.toNat]? = some t) : kIx (.lst xs) (.int i) M = .ok t M := by
  have hl : i.toNat < xs.length := by
    rcases Nat.lt_or_ge i.toNat xs.length with h1 | h1
    · exact h1
    · rw [List.getElem?_eq_none h1] at h; cases h
  have : atI xs i = some t := by
    unfold atI ixN
    rw [if_pos h0, if_pos (by omega)]
    exact h
  show (match atI xs i with | some t => Res.ok t M | none => .stuck) = _
  rw [this]
@[simp] theorem kLen_lst {xs : List T} {M : Sto} : kLen [.lst xs] M = .ok (.int xs.length) M := nr rfl
@[simp] theorem kIsi_int {i : Int} {M : Sto} {c : Cl} : kIsi c (.int i) M = .ok (.bl (match c with | .int => true | _ => false)) M := nr rfl
@[simp] theorem kIsi_lst {xs : List T} {M : Sto} {c : Cl} : kIsi c (.lst xs) M = .ok (.bl (match c with | .list => true | _ => false)) M := nr rfl
@[simp] theorem kIsi_tup {xs : List T} {M : Sto} {c : Cl} : kIsi c (.tup xs) M = .ok (.bl (match c with | .tuple => true | _ => false)) M := nr rfl
@[simp] theorem kIsi_str {x : Str} {M : Sto} {c : Cl} : kIsi c (.str x) M = .ok (.bl (match c with | .str => true | _ => false)) M := nr rfl
@[simp] theorem kIsi_bl {x : Bool} {M : Sto} {c : Cl} : kIsi c (.bl x) M = .ok (.bl (match c with | .bool => true | .int => true | _ => false)) M := nr rfl
@[simp] theorem kIsi_non {M : Sto} {c : Cl} : kIsi c .non M = .ok (.bl false) M := nr rfl
@[simp] theorem kNot_bl {b : Bool} {M : Sto} : kNot (.bl b) M = .ok (.bl (!b)) M := nr rfl
@[simp] theorem kAddI_int {i j : Int} {M : Sto} : kAddI (.int i) (.int j) M = .ok (.int (i + j)) M := nr rfl
@[simp] theorem kSub_int {i j : Int} {M : Sto} : kSub (.int i) (.int j) M = .ok (.int (i - j)) M := nr rfl
@[simp] theorem kLt_int {i j : Int} {M : Sto} : kLt (.int i) (.int j) M = .ok (.bl (decide (i < j))) M := nr rfl
@[simp] theorem kLe_int {i j : Int} {M : Sto} : kLe (.int i) (.int j) M = .ok (.bl (decide (i ≤ j))) M := nr rfl
@[simp] theorem kGt_int {i j : Int} {M : Sto} : kGt (.int i) (.int j) M = .ok (.bl (decide (j < i))) M := nr rfl
@[simp] theorem kGe_int {i j : Int} {M : Sto} : kGe (.int i) (.int j) M = .ok (.bl (decide (j ≤ i))) M := nr rfl
@[simp] theorem kMax_int {i j : Int} {M : Sto} : kMax [.int i, .int j] M = .ok (.int (if j > i then j else i)) M := nr rfl
@[simp] theorem kMin_int {i j : Int} {M : Sto} : kMin [.int i, .int j] M = .ok (.int (if j < i then j else i)) M := nr rfl
@[simp] theorem kAddL_lst {xs ys : List T} {M : Sto} : kAddL (.lst xs) (.lst ys) M = if xs.length + ys.length ≤ 16777216 then .ok (.lst (xs ++ ys)) M else .stuck := nr rfl
@[simp] theorem kRev_lst {xs : List T} {M : Sto} : kRev (.lst xs) M = .ok (.lst xs.reverse) M := nr rfl
@[simp] theorem kAll_bls {bs : List Bool} {M : Sto} : kAll [.lst (bs.map T.bl)] M = .ok (.bl (bs.all id)) M := by
  show (match blTs (bs.map T.bl) with | some bs => Res.ok (T.bl (bs.all id)) M | none => .stuck) = _
  rw [blTs_map]
@[simp] theorem kSorted_li {xs : List Int} {M : Sto} : kSorted [.lst (xs.map T.int)] M = .ok (.lst ((srtI xs).map T.int)) M := by
  show (match inTs (xs.map T.int) with | some ns => Res.ok (T.lst ((srtI ns).map T.int)) M | none => .stuck) = _
  rw [inTs_map]
@[simp] theorem kIsN_non {a : T} {M : Sto} : kIsN a .non M = .ok (.bl (isNonT a)) M := by cases a <;> rfl
@[simp] theorem kNotN_non {a : T} {M : Sto} : kNotN a .non M = .ok (.bl (!isNonT a)) M := by cases a <;> rfl
@[simp] theorem inTs_li {xs : List Int} : inTs (xs.map T.int) = some xs := inTs_map xs
theorem rgT_ints {n : Nat} : rgT 0 n = ((List.range n).map fun (i : Nat) => (i : Int)).map T.int := by
  unfold rgT
  rw [List.map_map]
  exact List.map_congr_left fun i _ => by simp
theorem ndI_iff : ∀ {l : List Int}, ndI l = true ↔ l.Nodup
  | [] => by simp [ndI]
  | n :: r => by
    unfold ndI
    rw [Bool.and_eq_true, ndI_iff, List.nodup_cons]
    refine and_congr ?_ Iff.rfl
    simp only [Bool.not_eq_true', List.any_eq_false, decide_eq_true_eq]
    exact ⟨fun h hm => h n hm rfl, fun h m hm e => h (e ▸ hm)⟩
/-- slices with bounds that are counts -/
theorem cut_to {xs : List T} {i : Int} (h : 0 ≤ i) : cutT xs none (some i) = xs.take i.toNat := by
  unfold cutT HT.sIx
  simp only [if_neg (show ¬ i < 0 by omega), Nat.sub_zero, List.drop_zero]
  rw [← List.take_eq_take_min]
theorem cut_from {xs : List T} {i : Int} (h : 0 ≤ i) : cutT xs (some i) none = xs.drop i.toNat := by
  unfold cutT HT.sIx
  simp only [if_neg (show ¬ i < 0 by omega)]
  rcases Nat.le_total i.toNat xs.length with h1 | h1
  · rw [Nat.min_eq_left h1, ← List.length_drop, List.take_length]
  · rw [Nat.min_eq_right h1, List.drop_length, List.drop_eq_nil_of_le h1, List.take_nil]
/-- the place of the first -/
theorem ixV_ints {c : Int} : ∀ {xs : List Int}, c ∈ xs → ixV (.int c) (xs.map V.int) = some (xs.idxOf c)
  | [], h => nomatch h
  | x :: xs, h => by
    rw [List.map_cons]
    unfold ixV
    rw [eqV_int]
    by_cases e : x = c
    · simp [e]
    · have hm : c ∈ xs := by
        rcases List.mem_cons.mp h with e2 | hm
        · exact absurd e2.symm e
        · exact hm
      rw [if_neg (by simpa using e), ixV_ints hm]
      simp [List.idxOf_cons, beq_eq_false_iff_ne.mpr e]
theorem kIdx_li {c : Int} {xs : List Int} {M : Sto} (h : c ∈ xs) : kIdx (.lst (xs.map T.int)) [.int c] M = .ok (.int (xs.idxOf c : Nat)) M := by
  show (match flT (T.int c), flTs (xs.map T.int) with | some v, some vs => (match ixV v vs with | some j => Res.ok (T.int (j : Nat)) M | none => .stuck) | _, _ => .stuck) = _
  rw [flTs_ints]
  show (match ixV (.int c) (xs.map V.int) with | some j => Res.ok (T.int (j : Nat)) M | none => .stuck) = _
  rw [ixV_ints h]
end TL
end
section
set_option Elab.async false
set_option linter.all false
set_option maxRecDepth 100000
/-! TL29: loops that draw; the store's purse and what stands behind. -/
namespace TL
open PySem PySem.Spec PyProof.Rows L2
/-- what a loop's turn may end in -/
def Turn (P : Tau → Sto → Prop) (Φ : Fl → Sto → Prop) : Fl → Sto → Prop
  | .nx τ, M => P τ M
  | .ct τ, M => P τ M
  | .bk τ, M => Φ (.nx τ) M
  | .rt t, M => Φ (.rt t) M
theorem forL_all {g : Tg} {f : Ev Fl} {P : List T → Tau → Sto → Prop} {Φ : Fl → Sto → Prop} (step : ∀ t ts τ M, P (t :: ts) τ M → Wp ((g t τ M).bind f) (Turn (P ts) Φ)) (fin : ∀ τ M, P [] τ M → Φ (.nx τ) M) :
    ∀ {ts : List T} {τ : Tau} {M : Sto}, P ts τ M → Wp (forL g f ts τ M) Φ
  | [], τ, M, h => ⟨fin τ M h⟩
  | t :: ts, τ, M, h => by
    have s := step t ts τ M h
    unfold forL
    rw [wp_bind] at s ⊢
    refine s.mono fun τ1 M1 q => ?_
    rw [wp_bind]
    refine q.mono fun fl M2 q => ?_
    cases fl with
    | nx τ2 => exact forL_all step fin q
    | ct τ2 => exact forL_all step fin q
    | bk τ2 => exact ⟨q⟩
    | rt t => exact ⟨q⟩
theorem while_all {c : Ev Bool} {f : Ev Fl} {P : Nat → Tau → Sto → Prop} {Φ : Fl → Sto → Prop}
    (step : ∀ k τ M, P k τ M → Wp (c τ M) fun b M1 => if b then ∃ k', k = k' + 1 ∧ Wp (f τ M1) (Turn (P k') Φ) else Φ (.nx τ) M1) :
    ∀ {k n : Nat} {τ : Tau} {M : Sto}, k < n → P k τ M → Wp (sWhile c f n τ M) Φ
  | k, 0, _, _, hk, _ => absurd hk (Nat.not_lt_zero _)
  | k, n + 1, τ, M, hk, h => by
    have s := step k τ M h
    unfold sWhile
    rw [wp_bind]
    refine s.mono fun b M1 q => ?_
    cases b with
    | false => exact ⟨q⟩
    | true =>
      obtain ⟨k', e, q⟩ := q
      show Wp (Res.bind (f τ M1) _) Φ
      rw [wp_bind]
      refine q.mono fun fl M2 q => ?_
      cases fl with
      | nx τ2 => exact while_all step (k := k') (by omega) q
      | ct τ2 => exact while_all step (k := k') (by omega) q
      | bk τ2 => exact ⟨q⟩
      | rt t => exact ⟨q⟩
/-! ### stores -/
theorem lk_app {n : Nat} {a b : List (Nat × MO)} : lkM n (a ++ b) = (match lkM n a with | some o => some o | none => lkM n b) := by
  induction a with
  | nil => rfl
  | cons p a ih =>
    obtain ⟨k, o⟩ := p
    show (if Nat.beq k n then some o else lkM n (a ++ b)) = (match (if Nat.beq k n then some o else lkM n a) with | some o => some o | none => lkM n b)
    by_cases h : Nat.beq k n = true
    · rw [if_pos h, if_pos h]
    · rw [if_neg h, if_neg h, ih]
theorem st_app_l {n : Nat} {o : MO} {a b : List (Nat × MO)} (h : ∃ u, lkM n a = some u) : stM n o (a ++ b) = stM n o a ++ b := by
  induction a with
  | nil => obtain ⟨u, h⟩ := h; cases h
  | cons p a ih =>
    obtain ⟨k, v⟩ := p
    show (if Nat.beq k n then (k, o) :: (a ++ b) else (k, v) :: stM n o (a ++ b)) = (if Nat.beq k n then (k, o) :: a else (k, v) :: stM n o a) ++ b
    obtain ⟨u, h⟩ := h
    have h : (if Nat.beq k n then some v else lkM n a) = some u := h
    by_cases e : Nat.beq k n = true
    · rw [if_pos e, if_pos e]; rfl
    · rw [if_neg e] at h
      rw [if_neg e, if_neg e, ih ⟨u, h⟩]; rfl
theorem st_app_r {n : Nat} {o : MO} {a b : List (Nat × MO)} (h : lkM n a = none) : stM n o (a ++ b) = a ++ stM n o b := by
  induction a with
  | nil => rfl
  | cons p a ih =>
    obtain ⟨k, v⟩ := p
    have h : (if Nat.beq k n then some v else lkM n a) = none := h
    show (if Nat.beq k n then (k, o) :: (a ++ b) else (k, v) :: stM n o (a ++ b)) = _
    by_cases e : Nat.beq k n = true
    · rw [if_pos e] at h; cases h
    · rw [if_neg e] at h
      rw [if_neg e, ih h]; rfl
theorem dl_app {n : Nat} {a b : List (Nat × MO)} : dlM n (a ++ b) = dlM n a ++ dlM n b := by
  induction a with
  | nil => rfl
  | cons p a ih =>
    obtain ⟨k, v⟩ := p
    show (if Nat.beq k n then dlM n (a ++ b) else (k, v) :: dlM n (a ++ b)) = (if Nat.beq k n then dlM n a else (k, v) :: dlM n a) ++ dlM n b
    by_cases e : Nat.beq k n = true
    · rw [if_pos e, if_pos e, ih]
    · rw [if_neg e, if_neg e, ih]; rfl
theorem dl_none {n : Nat} {a : List (Nat × MO)} (h : lkM n a = none) : dlM n a = a := by
  induction a with
  | nil => rfl
  | cons p a ih =>
    obtain ⟨k, v⟩ := p
    have h : (if Nat.beq k n then some v else lkM n a) = none := h
    show (if Nat.beq k n then dlM n a else (k, v) :: dlM n a) = _
    by_cases e : Nat.beq k n = true
    · rw [if_pos e] at h; cases h
    · rw [if_neg e] at h
      rw [if_neg e, ih h]
theorem lk_st {n k : Nat} {o : MO} {a : List (Nat × MO)} (h : k ≠ n) : lkM k (stM n o a) = lkM k a := by
  induction a with
  | nil => rfl
  | cons p a ih =>
    obtain ⟨j, v⟩ := p
    show lkM k (if Nat.beq j n then (j, o) :: a else (j, v) :: stM n o a) = (if Nat.beq j k then some v else lkM k a)
    by_cases e : Nat.beq j n = true
    · rw [if_pos e]
      have := Nat.eq_of_beq_eq_true e
      show (if Nat.beq j k then some o else lkM k a) = _
      have e2 : ¬ Nat.beq j k = true := fun z => h ((Nat.eq_of_beq_eq_true z).symm.trans this)
      rw [if_neg e2, if_neg e2]
    · rw [if_neg e]
      show (if Nat.beq j k then some v else lkM k (stM n o a)) = _
      rw [ih]
theorem lk_st_same {n : Nat} {o u : MO} {a : List (Nat × MO)} (h : lkM n a = some u) : lkM n (stM n o a) = some o := by
  have := lkM_set (k := n) (o := o) (l := a) ⟨u, h⟩
  rwa [if_pos rfl] at this
theorem st_st {n : Nat} {o o' : MO} {a : List (Nat × MO)} : stM n o' (stM n o a) = stM n o' a := by
  have := set_set (M := ⟨a, 0⟩) (n := n) (o := o) (o' := o')
  exact congrArg Sto.m this
/-- the store with its purse n at j, and more behind -/
def PB (M : Sto) (n j : Nat) (r : List (Nat × MO)) (nx : Nat) : Sto := ⟨stM n (.purse j) M.m ++ r, nx⟩
structure Pu (M : Sto) (n k : Nat) : Prop where
  at_ : M.get n = some (.purse k)
  free : ∀ i, M.nx ≤ i → M.get i = none
section
variable {M : Sto} {n k j : Nat} {r : List (Nat × MO)} {nx : Nat}
theorem Pu.lt (h : Pu M n k) : n < M.nx := by
  rcases Nat.lt_or_ge n M.nx with h1 | h1
  · exact h1
  · have := h.free n h1
    rw [h.at_] at this; cases this
theorem PB_purse (h : Pu M n k) : (PB M n j r nx).get n = some (.purse j) := by
  show lkM n (stM n (.purse j) M.m ++ r) = _
  rw [lk_app, lk_st_same (show lkM n M.m = some _ from h.at_)]
theorem PB_draw (h : Pu M n k) : (PB M n j r nx).set n (.purse (j + 1)) = PB M n (j + 1) r nx := by
  show (⟨stM n _ (stM n (.purse j) M.m ++ r), nx⟩ : Sto) = ⟨_, nx⟩
  rw [st_app_l ⟨_, lk_st_same (show lkM n M.m = some _ from h.at_)⟩, st_st]
theorem lk_out (h : Pu M n k) {i : Nat} (hi : M.nx ≤ i) : lkM i (stM n (.purse j) M.m) = none := by
  rw [lk_st (by have := h.lt; omega)]
  exact h.free i hi
theorem PB_get (h : Pu M n k) {i : Nat} (hi : M.nx ≤ i) : (PB M n j r nx).get i = lkM i r := by
  show lkM i (stM n (.purse j) M.m ++ r) = _
  rw [lk_app, lk_out h hi]
theorem PB_set (h : Pu M n k) {i : Nat} {o : MO} (hi : M.nx ≤ i) : (PB M n j r nx).set i o = PB M n j (stM i o r) nx := by
  show (⟨stM i o (stM n (.purse j) M.m ++ r), nx⟩ : Sto) = ⟨_, nx⟩
  rw [st_app_r (lk_out h hi)]
theorem PB_del (h : Pu M n k) {i : Nat} (hi : M.nx ≤ i) : (PB M n j r nx).del i = PB M n j (dlM i r) nx := by
  show (⟨dlM i (stM n (.purse j) M.m ++ r), nx⟩ : Sto) = ⟨_, nx⟩
  rw [dl_app, dl_none (lk_out h hi)]
theorem PB_add {o : MO} : (PB M n j r nx).add o = PB M n j (r ++ [(nx, o)]) (nx + 1) := by
  show (⟨(stM n (.purse j) M.m ++ r) ++ [(nx, o)], nx + 1⟩ : Sto) = ⟨_, _⟩
  rw [List.append_assoc]
theorem st_id {n : Nat} {o : MO} {a : List (Nat × MO)} (h : lkM n a = some o) : stM n o a = a := by
  induction a with
  | nil => rfl
  | cons p a ih =>
    obtain ⟨k, v⟩ := p
    have h : (if Nat.beq k n then some v else lkM n a) = some o := h
    show (if Nat.beq k n then (k, o) :: a else (k, v) :: stM n o a) = _
    by_cases e : Nat.beq k n = true
    · rw [if_pos e] at h ⊢
      cases h; rfl
    · rw [if_neg e] at h ⊢
      rw [ih h]
theorem PB_self (h : Pu M n k) : M = PB M n k [] M.nx := by
  show M = ⟨stM n (.purse k) M.m ++ [], M.nx⟩
  rw [List.append_nil, st_id (show lkM n M.m = some _ from h.at_)]
theorem PB_PB (h : Pu M n k) {j' : Nat} {r' : List (Nat × MO)} {nx' : Nat} : PB (PB M n j r nx) n j' r' nx' = PB M n j' (r ++ r') nx' := by
  show (⟨stM n _ (stM n (.purse j) M.m ++ r) ++ r', nx'⟩ : Sto) = ⟨_, nx'⟩
  rw [st_app_l ⟨_, lk_st_same (show lkM n M.m = some _ from h.at_)⟩, st_st, List.append_assoc]
/-- all of r stands at or behind M.nx, and ahead of nx -/
def Beh (a nx : Nat) (r : List (Nat × MO)) : Prop := ∀ p ∈ r, a ≤ p.1 ∧ p.1 < nx
theorem lk_beh {a i : Nat} (hb : Beh a nx r) (hi : nx ≤ i) : lkM i r = none := by
  induction r with
  | nil => rfl
  | cons p r ih =>
    obtain ⟨c, o⟩ := p
    have h1 := (hb (c, o) List.mem_cons_self).2
    show (if Nat.beq c i then some o else lkM i r) = none
    rw [if_neg fun z => by have := Nat.eq_of_beq_eq_true z; simp at h1; omega]
    exact ih fun p hp => hb p (List.mem_cons_of_mem _ hp)
theorem Pu.pb (h : Pu M n k) (hb : Beh M.nx nx r) (hn : M.nx ≤ nx) : Pu (PB M n j r nx) n j :=
  ⟨PB_purse h, fun i hi => by rw [PB_get h (Nat.le_trans hn hi)]; exact lk_beh hb hi⟩
theorem draw_run (h : Pu M n k) {m : Int} (h0 : 0 < m) (h1 : m < 134217728) (hj : j < 1000000) : rDraw [.ref n, .int m] (PB M n j r nx) = .pick m.toNat fun d => .ok (.int (d : Nat)) (PB M n (j + 1) r nx) := by
  unfold rDraw
  simp only [PB_purse h]
  rw [if_pos ⟨h0, h1, hj⟩]
  simp only [PB_draw h]
/-- the purse may have been used, more may stand behind -/
def Bp (M : Sto) (n K : Nat) (M' : Sto) : Prop := ∃ j r, j ≤ K ∧ M.nx ≤ M'.nx ∧ Beh M.nx M'.nx r ∧ M' = PB M n j r M'.nx
end
/-! ### orders of a list -/
def insEv (x : Int) : List Int → List (List Int)
  | [] => [[x]]
  | y :: l => (x :: y :: l) :: (insEv x l).map (y :: ·)
def permsI : List Int → List (List Int)
  | [] => [[]]
  | x :: l => (permsI l).flatMap (insEv x)
theorem mem_insEv {x : Int} : ∀ {a b : List Int}, a ++ x :: b ∈ insEv x (a ++ b)
  | [], [] => by simp [insEv]
  | [], _ :: _ => by simp [insEv]
  | y :: a, b => by
    show y :: (a ++ x :: b) ∈ insEv x (y :: (a ++ b))
    unfold insEv
    exact List.mem_cons_of_mem _ (List.mem_map.mpr ⟨_, mem_insEv, rfl⟩)
theorem mem_permsI : ∀ {l p : List Int}, p.Perm l → p ∈ permsI l
  | [], p, h => by rw [List.Perm.eq_nil h]; simp [permsI]
  | x :: l, p, h => by
    obtain ⟨a, b, e⟩ := List.append_of_mem (h.mem_iff.mpr (List.mem_cons_self (a := x) (l := l)))
    subst e
    have h2 : (a ++ b).Perm l := (List.perm_middle.symm.trans h).cons_inv
    exact List.mem_flatMap.mpr ⟨_, mem_permsI h2, mem_insEv⟩
end TL
end
section
set_option Elab.async false
set_option linter.all false
set_option maxRecDepth 100000
/-! TL31: behind a call whose answer is plain, what the call laid into the store is forgotten. -/
namespace TL
open PySem PySem.Spec PyProof.Rows L2
def gcL (n : Nat) : List (Nat × MO) → List (Nat × MO)
  | [] => []
  | (k, o) :: r => if k < n then (k, o) :: gcL n r else gcL n r
def gcM (n : Nat) (M : Sto) : Sto := ⟨gcL n M.m, M.nx⟩
theorem lk_gc {n k : Nat} : ∀ {l : List (Nat × MO)}, lkM k (gcL n l) = if k < n then lkM k l else none
  | [] => by show none = _; split <;> rfl
  | (j, u) :: r => by
    have ih := lk_gc (n := n) (k := k) (l := r)
    unfold gcL
    by_cases h : j < n
    · rw [if_pos h]
      have h' := h
      show (if Nat.beq j k then some u else lkM k (gcL n r)) = if k < n then (if Nat.beq j k then some u else lkM k r) else none
      rw [ih]
      by_cases e : Nat.beq j k = true
      · have e2 := Nat.eq_of_beq_eq_true e
        subst e2
        rw [if_pos e, if_pos e, if_pos h']
      · rw [if_neg e, if_neg e]
    · rw [if_neg h, ih]
      have h' := h
      show _ = if k < n then (if Nat.beq j k then some u else lkM k r) else none
      by_cases e : Nat.beq j k = true
      · have e2 := Nat.eq_of_beq_eq_true e
        subst e2
        rw [if_neg h', if_neg h']
      · rw [if_neg e]
def Wd.gc (w : Wd) (n : Nat) : Wd := { w with M := gcM n w.M }
section
variable {mg : Str → Option Value} {w : Wd} {n : Nat}
theorem get_gc (k : Nat) : (gcM n w.M).get k = if k < n then w.M.get k else none := lk_gc
theorem Ex.gc {a : Addr} (h : Ex (w.gc n) a) : Ex w a := by
  rcases h with h | ⟨k, x, e, rfl⟩
  · exact .inl h
  · rw [show (w.gc n).M.get k = _ from get_gc k] at e
    by_cases hk : k < n
    · rw [if_pos hk] at e; exact .inr ⟨k, x, e, rfl⟩
    · rw [if_neg hk] at e; cases e
theorem Ext.gc : Ext w (w.gc n) :=
  ⟨fun _ _ _ h m => ⟨h, fun z => m (Ex.gc z)⟩, fun _ _ _ _ h m => ⟨h, fun z => m (Ex.gc z)⟩, fun _ _ h m => ⟨h, fun z => m (Ex.gc z)⟩, fun _ h => h, Nat.le_refl _, fun _ _ => rfl, fun _ h => h, fun _ _ => rfl, fun _ _ _ h => h⟩
theorem Good.gc (g : Good mg w) : Good mg (w.gc n) := by
  have f : ∀ {k : Nat} {y : MO}, (w.gc n).M.get k = some y → w.M.get k = some y := fun {k y} e => by
    rw [show (w.gc n).M.get k = _ from get_gc k] at e
    by_cases hk : k < n
    · rw [if_pos hk] at e; exact e
    · rw [if_neg hk] at e; cases e
  exact ⟨fun k y e => let ⟨a, b, c⟩ := g.own k y (f e); ⟨a, b, c.mono Ext.gc⟩, fun k m y z e1 e2 e3 => g.inj k m y z (f e1) (f e2) e3, g.Rd⟩
end
def gcRun (g : List T → Sto → Res T) : List T → Sto → Res T := fun ts M => (g ts M).bind fun t M' => .ok t (gcM M.nx M')
theorem fn_gc {P : Program} {w : World} {K : PySem.W.Frag} {mg : Str → Option Value} {base : Heap} {CX : CXT} {k n : Nat} {f : Addr} {fd : FuncData} {ps : List Str} {g : List T → Sto → Res T} (F : FnOk P w K mg base CX k f fd ps (spRun mg false n g)) :
    FnOk P w K mg base CX k f fd ps (spRun mg false n (gcRun g)) :=
  F.imp fun vs H Q E q0 => by
    obtain ⟨hl, w, ts, e, gd, r, q⟩ := q0
    refine ⟨hl, w, ts, e, gd, r, Res.all_mono (fun t M' q => ?_) (Res.all_bind q)⟩
    intro w1 v x1 g1 e1 r1 _
    subst e1
    exact q (w1.gc w.M.nx) v (x1.trans Ext.gc) (Good.gc g1) rfl (r1.mono Ext.gc) fun z => nomatch z
end TL
end
section
set_option Elab.async false
set_option linter.all false
set_option maxRecDepth 100000
/-! TL32: slices with a step; range(i, j, c). -/
namespace TL
open PySem PySem.Spec PyProof.Rows L2
def stepIx (lo hi st : Option Int) (n : Nat) : List Nat := sliceRange (sliceBounds lo hi st n).1 (sliceBounds lo hi st n).2.1 (sliceBounds lo hi st n).2.2
def pickV {α : Type} (xs : List α) (lo hi st : Option Int) : List α := (stepIx lo hi st xs.length).filterMap (xs[·]?)
def tSlSt (K : PySem.W.Frag) (te : TE) (tl th ts : TO) : TE := fun σ H Q => te σ H fun x H1 => tl σ H1 fun l H2 => th σ H2 fun u H3 => ts σ H3 fun s H4 => ∃ a xs, x = .ref a ∧ SqL K H4 a xs ∧ s ≠ some 0 ∧ ∀ p, H4 p = none → Q (.ref p) (upd H4 p (.lst (pickV xs l u s)))
theorem vals_pick : ∀ {xs : List V} {us : List Value}, Vals xs us → ∀ is : List Nat, Vals (is.filterMap (xs[·]?)) (is.filterMap (us[·]?))
  | xs, us, r, [] => .nil
  | xs, us, r, i :: is => by
    have ih := vals_pick r is
    cases hx : xs[i]? with
    | none =>
      have hu : us[i]? = none := by
        rw [List.getElem?_eq_none_iff] at hx ⊢
        have := r.length
        omega
      rw [List.filterMap_cons_none hx, List.filterMap_cons_none hu]; exact ih
    | some x =>
      obtain ⟨u, hu, ru⟩ := r.get hx
      rw [List.filterMap_cons_some hx, List.filterMap_cons_some hu]
      exact .cons ru ih
theorem pe_slSt {X : Cx} {e st : Expr} {lo hi : Option Expr} {te : TE} {tl th ts : TO} {p2 pos : Pos} (he : PE X e te) (hl : PO X lo tl) (hu : PO X hi th) (hs : PO X (some st) ts) : PE X (.Subscript e (.Slice lo hi (some st) p2) pos) (tSlSt X.K te tl th ts) := by
  refine ⟨fun pins s σ H Q I h => ?_⟩
  refine Subscript_ (thn (he.run pins s σ H _ I h) fun v s1 ⟨x, H1, I1, r1, q1⟩ => ?_)
  refine wpAny_Slice (thn (hl.run pins s1 σ H1 _ I1 q1) fun vl s2 ⟨l, H2, I2, pl, q2⟩ => thn (hu.run pins s2 σ H2 _ I2 q2) fun vu s3 ⟨u, H3, I3, pu, q3⟩ => thn (hs.run pins s3 σ H3 _ I3 q3) fun vs s4 ⟨o, H4, I4, ps, q4⟩ => ?_)
  obtain ⟨a, xs, ex, hx, h0, q⟩ := q4
  subst ex
  cases r1
  have I5 : Inv X pins σ H4 { s4 with heap := s4.heap.push { cls := .type "slice", data := .fields #[vl, vu, vs] } } := I4.kept (t' := s4.toks) fun b ob q => Heap.get?_push_of_some _ q
  obtain ⟨its, r, ht, hz⟩ := I5.list hx
  have hlen := r.length
  show wpAny (model X.prog X.w) X.A (subscriptTail e (.Slice lo hi (some st) p2) (.ref a) (.ref s4.heap.objs.size)) (EP X pins σ Q) X.xe { s4 with heap := s4.heap.push { cls := .type "slice", data := .fields #[vl, vu, vs] } }
  refine tail_any (ops := [.ref a, .ref s4.heap.objs.size]) ht.isList.typeIs (PySem.slot_list_getitem.lookup) ?_ (by with_unfolding_all rfl)
  refine wpAny_getItem_list_slice ht.isList (Heap.IsSliceOf.new _ vl vu vs) pl pu ps h0 ?_ (by rw [List.size_toArray]; omega)
  have epick : slicePick its.toArray l u o = ((stepIx l u o its.length).filterMap (its[·]?)).toArray := by
    unfold slicePick stepIx
    simp
  have hle := slicePick_size_le its.toArray l u o
  rw [epick] at hle ⊢
  have rv := vals_pick r (stepIx l u o its.length)
  have hpl : pickV xs l u o = (stepIx l u o its.length).filterMap (xs[·]?) := by unfold pickV; rw [hlen]
  have hle2 : (pickV xs l u o).length ≤ sizeLine := by
    rw [hpl, rv.length]
    simp only [List.size_toArray] at hle
    omega
  refine ⟨.ref _, _, I5.laid (t' := s4.toks) (o := .lst (pickV xs l u o)) (fun b ob q => Heap.get?_push_of_some _ q) (Nat.le_refl _) ?_, rfl, q _ (I5.hok.fresh (Nat.le_refl _))⟩
  exact ⟨hle2, _, 0, by rw [hpl]; exact rv, Heap.get?_push_size _ rfl⟩
theorem RepL.pick {w : Wd} {vs : List V} {ts : List T} (r : RepL w vs ts) : ∀ is : List Nat, RepL w (is.filterMap (vs[·]?)) (is.filterMap (ts[·]?))
  | [] => .nil
  | i :: is => by
    have ih := r.pick is
    cases ht : ts[i]? with
    | none =>
      have hv : vs[i]? = none := by
        rw [List.getElem?_eq_none_iff] at ht ⊢
        have := r.length
        omega
      rw [List.filterMap_cons_none hv, List.filterMap_cons_none ht]; exact ih
    | some t =>
      obtain ⟨v, hv, rv⟩ := r.get ht
      rw [List.filterMap_cons_some hv, List.filterMap_cons_some ht]
      exact .cons rv ih
def eSlSt (f : Ev T) (lo hi st : Ev (Option Int)) : Ev T := fun τ M => (f τ M).bind fun t M1 => (lo τ M1).bind fun l M2 => (hi τ M2).bind fun u M3 => (st τ M3).bind fun s M4 => match t, s with
  | .lst xs, some c => if c = 0 then .stuck else .ok (.lst (pickV xs l u (some c))) M4
  | _, _ => .stuck
section
variable {X : Cx} {a b c st : Expr} {fa fb fc fe : Ev T} {pos : Pos}
theorem se_slSt {lo hi : Option Expr} {fl fh fs : Ev (Option Int)} {p2 : Pos} (ha : SE false X a fa) (hl : SO X lo fl) (hh : SO X hi fh) (hs : SO X (some st) fs) : SE true X (.Subscript a (.Slice lo hi (some st) p2) pos) (eSlSt fa fl fh fs) := by
  obtain ⟨tl, pl, il⟩ := hl
  obtain ⟨th, ph, ih⟩ := hh
  obtain ⟨ts, ps, is⟩ := hs
  refine pe_imp (pe_slSt ha pl ph ps) fun σ H Q ⟨w, τ, e, g, n, q⟩ => ?_
  subst e
  refine ⟨w, τ, rfl, g, n, Res.all_mono (fun t M1 q w1 v x1 g1 e1 r1 _ => ?_) (Res.all_bind q)⟩
  subst e1
  refine il _ _ _ ⟨w1, τ, rfl, g1, n.mono x1, Res.all_mono (fun l M2 q w2 x2 g2 e2 => ?_) (Res.all_bind q)⟩
  subst e2
  refine ih _ _ _ ⟨w2, τ, rfl, g2, (n.mono x1).mono x2, Res.all_mono (fun u M3 q w3 x3 g3 e3 => ?_) (Res.all_bind q)⟩
  subst e3
  refine is _ _ _ ⟨w3, τ, rfl, g3, ((n.mono x1).mono x2).mono x3, Res.all_mono (fun s M4 q w4 x4 g4 e4 => ?_) (Res.all_bind q)⟩
  subst e4
  have xx := ((x1.trans x2).trans x3).trans x4
  split at q
  · rename_i xs c
    split at q
    · exact q.elim
    · rename_i hc
      cases ((r1.mono x2).mono x3).mono x4 with
      | lst n d l =>
        refine ⟨_, _, rfl, .inl d, fun z => hc (Option.some.inj z), fun p hp => post_lst (post_ext q xx) g4 hp ?_⟩
        unfold pickV
        rw [l.length]
        exact l.pick _
  · exact q.elim
/-- lo, lo + c, .. -/
def rgC (lo c : Int) (n : Nat) : List T := (List.range n).map fun i => T.int (lo + (i : Nat) * c)
theorem rgC_length (lo c : Int) (n : Nat) : (rgC lo c n).length = n := by unfold rgC; rw [List.length_map, List.length_range]
theorem yld_rngC {mg : Str → Option Value} {w : Wd} (lo c : Int) (n : Nat) : Yld mg (Itc lo c n) w (rgC lo c n) where
  go := fun i w1 x1 g1 hi => by rw [rgC_length] at hi; exact hi
  yl := fun i w1 x H' x1 g1 hy t ht => by
    obtain ⟨rfl, rfl⟩ := hy
    unfold rgC at ht
    by_cases hi : i < n
    · rw [List.getElem?_map, List.getElem?_range hi] at ht
      cases ht
      exact ⟨w1, rfl, .refl w1, g1, rfl, .int _⟩
    · rw [List.getElem?_eq_none (by simpa using hi)] at ht; cases ht
  stop := fun i w1 x1 g1 hi => by rw [rgC_length] at hi; exact hi
def iRg3 (f g h : Ev T) : Ev (List T) := fun τ M => (f τ M).bind fun t M1 => (g τ M1).bind fun u M2 => (h τ M2).bind fun v M3 => match t, u, v with
  | .int i, .int j, .int c => if c ≠ 0 ∧ c.natAbs < 1073741824 ∧ Builtin.Range.small i j c = true ∧ 0 ≤ Builtin.Range.rangeSize i j c then .ok (rgC i c (Builtin.Range.rangeSize i j c).toNat) M3 else .stuck
  | _, _, _ => .stuck
theorem si_range3 {tg : Expr} {p : Pos} (B : Blt X.mg) (ha : SE false X a fa) (hb : SE false X b fb) (hc : SE false X c fc) (hg : Gl X "range" := by rfl) (hs : starEach [a, b, c] X.env = (false, eval a X.env) :: starEach [b, c] X.env := by rfl)
    (hs2 : starEach [b, c] X.env = (false, eval b X.env) :: starEach [c] X.env := by rfl) (hs3 : starEach [c] X.env = (false, eval c X.env) :: starEach [] X.env := by rfl) (hpl : (backTo pos (starEach [b, c] X.env)).any (·.1) = false := by rfl) :
    SI X tg (.Call (.Name "range" p) [a, b, c] [] pos) (iRg3 fa fb fc) := by
  refine pi_imp (pi_range3 hg B.range (pa_cons ha (pa_cons hb (pa_cons hc pa_nil hs3) hs2) hs) hs hpl) fun σ H R ⟨w, τ, e, g, n, q⟩ => ?_
  subst e
  refine ⟨w, τ, rfl, g, n, Res.all_mono (fun t M' q w1 v x1 g1 e1 r1 _ => ?_) (Res.all_bind q)⟩
  subst e1
  refine ⟨w1, τ, rfl, g1, n.mono x1, Res.all_mono (fun u M2 q w2 z x2 g2 e2 r2 _ => ?_) (Res.all_bind q)⟩
  subst e2
  refine ⟨w2, τ, rfl, g2, (n.mono x1).mono x2, Res.all_mono (fun y M3 q w3 z3 x3 g3 e3 r3 _ => ?_) (Res.all_bind q)⟩
  subst e3
  split at q
  · split at q
    · rename_i hj
      cases (r1.mono x2).mono x3
      cases r2.mono x3
      cases r3
      exact ⟨_, _, _, _, rfl, ⟨hj.1, hj.2.1, hj.2.2.1, by omega⟩, q w3 _ ((x1.trans x2).trans x3) g3 rfl (yld_rngC _ _ _)⟩
    · exact q.elim
  · exact q.elim
end
end TL
end
section
set_option Elab.async false
set_option linter.all false
set_option maxRecDepth 100000
/-! TL33: [elt for .. in .. for .. in ..]. -/
namespace TL
open PySem PySem.Spec PyProof.Rows L2
def comp1A (g : Tg) (c : Ev Bool) (f : Ev T) (τ : Tau) : List T → List T → Sto → Res (List T)
  | [], acc, M => .ok acc M
  | t :: ts, acc, M => (g t τ M).bind fun τ1 M1 => (c τ1 M1).bind fun b M2 => if b then (f τ1 M2).bind fun y M3 => if acc.length < 16777216 then comp1A g c f τ ts (acc ++ [y]) M3 else .stuck else comp1A g c f τ ts acc M2
def comp2A (g : Tg) (c : Ev Bool) (fi1 : Ev (List T)) (g1 : Tg) (c1 : Ev Bool) (f : Ev T) (vs1 : List Nat) (τ : Tau) : List T → List T → Sto → Res (List T)
  | [], acc, M => .ok acc M
  | t :: ts, acc, M => (g t τ M).bind fun τ1 M1 => (c τ1 M1).bind fun b M2 => if b then (fi1 τ1 M2).bind fun us M3 => (comp1A g1 c1 f (wipeT τ1 vs1) us acc M3).bind fun acc' M4 => comp2A g c fi1 g1 c1 f vs1 τ ts acc' M4 else comp2A g c fi1 g1 c1 f vs1 τ ts acc M2
def eComp2 (fi : Ev (List T)) (g : Tg) (c : Ev Bool) (fi1 : Ev (List T)) (g1 : Tg) (c1 : Ev Bool) (f : Ev T) (vs vs1 : List Nat) : Ev T := fun τ M => (fi τ M).bind fun ts M1 => (comp2A g c fi1 g1 c1 f vs1 (wipeT τ vs) ts [] M1).bind fun ys M2 => .ok (.lst ys) M2
section
variable {mg : Str → Option Value} {fi fi1 : Ev (List T)} {gt gt1 : Tg} {fc fc1 : Ev Bool} {fe : Ev T} {vs vs1 sl sl1 : List Nat}
def AccSt (mg : Str → Option Value) (wb : Wd) (D : Addr) (H : Hp) (P : List T → Sto → Prop) : Prop := ∃ wi accV accT, wi.H = H ∧ Good mg wi ∧ Ext wb wi ∧ wi.R D ∧ wi.H D = some (.lst accV) ∧ RepL wi accV accT ∧ P accT wi.M
def AccS2 (mg : Str → Option Value) (wb wc : Wd) (D : Addr) (H : Hp) (P : List T → Sto → Prop) : Prop := ∃ wi accV accT, wi.H = H ∧ Good mg wi ∧ Ext wb wi ∧ KF wc wi ∧ wi.R D ∧ wi.H D = some (.lst accV) ∧ RepL wi accV accT ∧ P accT wi.M
theorem lc2_turns {Q : VK} {w1 : Wd} {σ : L2.St} {τ : Tau} {J : It} {ts : List T} {D : Addr} (hs : ∀ j ∈ sl, j ∈ vs) (hs1 : ∀ j ∈ sl1, j ∈ vs1) (g1 : Good mg w1) (n : Nm w1 σ τ) (y : Yld mg J w1 ts) (hD : w1.H D = none)
    (q : (comp2A gt fc fi1 gt1 fc1 fe vs1 (wipeT τ vs) ts [] w1.M).all fun ys M' => ∀ w2 v, Ext w1 w2 → Good mg w2 → w2.M = M' → Rep w2 v (.lst ys) → Fr mg w1 w2 v (.lst ys) → Q v w2.H) :
    ∃ W : Nat → Nat → Hp → Prop, (∃ m, W 0 m (upd w1.H D (.lst []))) ∧ ∀ i m H, W i m H →
      (J.stop i H ∧ Q (.ref D) H) ∨ (J.go i H ∧ ∃ Nx : Hp → Prop, (∀ H', Nx H' → ∃ m', m' < m ∧ W (i + 1) m' H') ∧ ∀ x H', J.yld i H x H' → tG mg sl gt x (L2.wipe σ vs) H' fun σ2 H2 => L2.wipe σ2 vs = L2.wipe σ vs ∧ tT mg fc σ2 H2 fun b H3 =>
        if b = true then tI mg fi1 σ2 H3 fun J1 H4 => ∃ W1 : Nat → Nat → Hp → Prop, (∃ m, W1 0 m H4) ∧ ∀ j k H, W1 j k H →
          (J1.stop j H ∧ Nx H) ∨ (J1.go j H ∧ ∃ Nx1 : Hp → Prop, (∀ H', Nx1 H' → ∃ k', k' < k ∧ W1 (j + 1) k' H') ∧ ∀ x H', J1.yld j H x H' → tG mg sl1 gt1 x (L2.wipe σ2 vs1) H' fun σ3 H5 => L2.wipe σ3 vs1 = L2.wipe σ2 vs1 ∧ tT mg fc1 σ3 H5 fun b H6 =>
            if b = true then tE mg false fe σ3 H6 fun y H7 => ∃ acc, H7 D = some (.lst acc) ∧ acc.length < sizeLine ∧ Nx1 (upd H7 D (.lst (acc ++ [y]))) else Nx1 H6)
        else Nx H3) := by
  let Fin : List T → Sto → Prop := fun ys M' => ∀ w2 v, Ext w1 w2 → Good mg w2 → w2.M = M' → Rep w2 v (.lst ys) → Fr mg w1 w2 v (.lst ys) → Q v w2.H
  refine ⟨fun i m H => m = ts.length - i ∧ i ≤ ts.length ∧ AccSt mg w1 D H fun acc M => (comp2A gt fc fi1 gt1 fc1 fe vs1 (wipeT τ vs) (ts.drop i) acc M).all Fin,
    ⟨ts.length, by simp, Nat.zero_le _, w1.hold D (.lst []), [], [], rfl, g1.hold hD, Ext.hold g1 hD, .inr rfl, upd_same, .nil, by rw [List.drop_zero]; exact q⟩, ?_⟩
  rintro i m H ⟨rfl, hi, wi, accV, accT, rfl, gi, xi, RD, eD, rl, q'⟩
  by_cases hlt : i < ts.length
  · refine .inr ⟨y.go i wi xi.toKF gi hlt, fun H' => i + 1 ≤ ts.length ∧ AccSt mg w1 D H' fun acc M => (comp2A gt fc fi1 gt1 fc1 fe vs1 (wipeT τ vs) (ts.drop (i + 1)) acc M).all Fin, fun H' ⟨h, r⟩ => ⟨ts.length - (i + 1), by omega, rfl, h, r⟩, fun x H' hy => ?_⟩
    rw [List.drop_eq_getElem_cons hlt] at q'
    obtain ⟨w2, rfl, x2, g2, m2, r2⟩ := y.yl i wi x H' xi.toKF gi hy _ (List.getElem?_eq_getElem hlt)
    rw [← m2] at q'
    refine ⟨w2, wipeT τ vs, _, rfl, g2, (n.wipe vs).mono (xi.trans x2), r2, Res.all_mono (fun τ1 M1 q w3 σ2 x3 g3 e3 n3 k3 => ?_) (Res.all_bind q')⟩
    subst e3
    refine ⟨wipe_eq hs k3, w3, τ1, rfl, g3, n3, Res.all_mono (fun b M2 q w4 x4 g4 e4 => ?_) (Res.all_bind q)⟩
    subst e4
    have xx := (x2.trans x3).trans x4
    cases b with
    | false => exact ⟨hlt, w4, accV, accT, rfl, g4, xi.trans xx, xx.R D RD, (xx.Rk D RD).trans eD, rl.mono xx, q⟩
    | true =>
      refine ⟨w4, τ1, rfl, g4, n3.mono x4, Res.all_mono (fun us M3 q w5 J1 x5 g5 e5 y1 => ?_) (Res.all_bind q)⟩
      subst e5
      have xx5 := xx.trans x5
      refine ⟨fun j k H => k = us.length - j ∧ j ≤ us.length ∧ AccS2 mg w1 w5 D H fun acc M => (comp1A gt1 fc1 fe (wipeT τ1 vs1) (us.drop j) acc M).all fun acc' M' => (comp2A gt fc fi1 gt1 fc1 fe vs1 (wipeT τ vs) (ts.drop (i + 1)) acc' M').all Fin,
        ⟨us.length, by simp, Nat.zero_le _, w5, accV, accT, rfl, g5, xi.trans xx5, .refl w5, xx5.R D RD, (xx5.Rk D RD).trans eD, rl.mono xx5, by rw [List.drop_zero]; exact Res.all_bind q⟩, ?_⟩
      rintro j k H ⟨rfl, hj, wj, bV, bT, rfl, gj, xij, xj, RDj, eDj, rlj, qj⟩
      by_cases hltj : j < us.length
      · refine .inr ⟨y1.go j wj xj gj hltj, fun H' => j + 1 ≤ us.length ∧ AccS2 mg w1 w5 D H' fun acc M => (comp1A gt1 fc1 fe (wipeT τ1 vs1) (us.drop (j + 1)) acc M).all fun acc' M' => (comp2A gt fc fi1 gt1 fc1 fe vs1 (wipeT τ vs) (ts.drop (i + 1)) acc' M').all Fin, fun H' ⟨h, r⟩ => ⟨us.length - (j + 1), by omega, rfl, h, r⟩, fun x H' hy => ?_⟩
        rw [List.drop_eq_getElem_cons hltj] at qj
        obtain ⟨w6, rfl, x6, g6, m6, r6⟩ := y1.yl j wj x H' xj gj hy _ (List.getElem?_eq_getElem hltj)
        rw [← m6] at qj
        refine ⟨w6, wipeT τ1 vs1, _, rfl, g6, ((((n3.mono x4).mono x5).kept xj.toKeep).wipe vs1).mono x6, r6, Res.all_mono (fun τ3 M4 q w7 σ3 x7 g7 e7 n7 k7 => ?_) (Res.all_bind qj)⟩
        subst e7
        refine ⟨wipe_eq hs1 k7, w7, τ3, rfl, g7, n7, Res.all_mono (fun b M5 q w8 x8 g8 e8 => ?_) (Res.all_bind q)⟩
        subst e8
        have x68 := (x6.trans x7).trans x8
        cases b with
        | false => exact ⟨hltj, w8, bV, bT, rfl, g8, xij.trans x68, xj.trans x68.toKF, x68.R D RDj, (x68.Rk D RDj).trans eDj, rlj.mono x68, q⟩
        | true =>
          refine ⟨w8, τ3, rfl, g8, n7.mono x8, Res.all_mono (fun t M6 q w9 v x9 g9 e9 r9 _ => ?_) (Res.all_bind q)⟩
          subst e9
          have x69 := x68.trans x9
          have RD9 := x69.R D RDj
          split at q
          · rename_i hsz
            refine ⟨bV, (x69.Rk D RDj).trans eDj, by rw [line_eq, rlj.length]; exact hsz, hltj, w9.wrR D (.lst (bV ++ [v])), bV ++ [v], bT ++ [t], rfl, g9.wrR RD9, Ext.wrR (xij.trans x69) g9 g1 hD RD9, ?_, RD9, upd_same, ?_, q⟩
            · exact (xj.trans x69.toKF).trans (KF.wrR RD9 fun o u z => by rw [(x69.Rk D RDj).trans eDj] at z; cases z)
            · exact ((rlj.mono x69).append (.cons r9 .nil)).kept (Keep.wrR RD9)
          · exact q.elim
      · have e : us.drop j = [] := List.drop_of_length_le (by omega)
        rw [e] at qj
        exact .inl ⟨y1.stop j wj xj gj (by omega), hlt, wj, bV, bT, rfl, gj, xij, RDj, eDj, rlj, qj⟩
  · have e : ts.drop i = [] := List.drop_of_length_le (by omega)
    rw [e] at q'
    refine .inl ⟨y.stop i wi xi.toKF gi (by omega), ?_⟩
    have q' : Fin accT wi.M := q'
    have hn : (wi.cut D w1.R).H D = none := if_pos rfl
    have gc := gi.cut xi g1 hD RD
    have rc : RepL (wi.cut D w1.R) accV accT := rl.kept (Keep.cut RD xi.R)
    have q' := q' ((wi.cut D w1.R).put D (.lst accV)) (.ref D) ((Ext.cut xi g1 hD RD).trans (Ext.put gc hn)) (gc.put hn) rfl (put_lst gc hn rc) ⟨wi.cut D w1.R, D, rfl, Ext.cut xi g1 hD RD, gc, hn, .inl ⟨accV, accT, rfl, rc, rfl⟩⟩
    rw [cut_put eD] at q'
    exact q'
theorem lc2_imp {Q : VK} {σ : L2.St} {H : Hp} (hs : ∀ j ∈ sl, j ∈ vs) (hs1 : ∀ j ∈ sl1, j ∈ vs1) (h : tE mg true (eComp2 fi gt fc fi1 gt1 fc1 fe vs vs1) σ H Q) : tLc2 (tI mg fi) (tG mg sl gt) (tT mg fc) (tI mg fi1) (tG mg sl1 gt1) (tT mg fc1) (tE mg false fe) vs vs1 σ H Q := by
  obtain ⟨w, τ, rfl, g, n, q⟩ := h
  refine ⟨w, τ, rfl, g, n, Res.all_mono (fun ts M' q w1 J x1 g1 e1 y D hD => ?_) (Res.all_bind q)⟩
  subst e1
  refine lc2_turns hs hs1 g1 (n.mono x1) y hD (Res.all_mono (fun ys M2 q w2 v x2 g2 e2 r2 f2 => ?_) (Res.all_bind q))
  exact q w2 v (x1.trans x2) g2 e2 r2 fun _ => f2.ext x1
end
section
variable {X : Cx} {elt tg iter tg1 iter1 : Expr} {ifs ifs1 : List Expr} {scope : Scope} {pos : Pos} {fi fi1 : Ev (List T)} {gt gt1 : Tg} {fc fc1 : Ev Bool} {fe : Ev T} {sl sl1 : List Nat} {F : Bool}
theorem se_comp2 (own : List (Str × Nat)) (vs1 : List Nat) (hN : X.N.Nodup) (hi : SI X tg iter fi) (hg : ∀ (s : Shared) (H : Hp) (C : Addr) (cl : List (Str × Addr)) (fp : List Addr), SG sl (X.blk s H scope (compEnvC scope cl C X.env) fp) tg gt)
    (ht : ∀ (s : Shared) (H : Hp) (C : Addr) (cl : List (Str × Addr)) (fp : List Addr), STs (X.blk s H scope (compEnvC scope cl C X.env) fp) ifs fc)
    (hi1 : ∀ (s : Shared) (H : Hp) (C : Addr) (cl : List (Str × Addr)) (fp : List Addr), SI (X.blk s H scope (compEnvC scope cl C X.env) fp) tg1 iter1 fi1)
    (hg1 : ∀ (s : Shared) (H : Hp) (C : Addr) (cl : List (Str × Addr)) (fp : List Addr), SG sl1 (X.blk s H scope (compEnvC scope cl C X.env) fp) tg1 gt1)
    (ht1 : ∀ (s : Shared) (H : Hp) (C : Addr) (cl : List (Str × Addr)) (fp : List Addr), STs (X.blk s H scope (compEnvC scope cl C X.env) fp) ifs1 fc1)
    (he : ∀ (s : Shared) (H : Hp) (C : Addr) (cl : List (Str × Addr)) (fp : List Addr), SE false (X.blk s H scope (compEnvC scope cl C X.env) fp) elt fe)
    (ok : blkC X.N X.env.scope scope own = true := by decide +kernel) (hsl : ∀ j ∈ sl, j ∈ own.map (·.2) := by decide) (hsl1 : ∀ j ∈ sl1, j ∈ vs1 := by decide) (hv : ∀ i ∈ vs1, i ∈ own.map (·.2) := by decide) (hc : X.calm = true := by rfl) (hs : ∀ x, foldedSetIterable iter X.env x = pure x := by intro _; rfl) (hs1 : ∀ env x, foldedSetIterable iter1 env x = pure x := by intro _ _; rfl) :
    SE true X (.ListComp elt [⟨tg, iter, ifs, 0⟩, ⟨tg1, iter1, ifs1, 0⟩] scope pos) (eComp2 fi gt fc fi1 gt1 fc1 fe (own.map (·.2)) vs1) :=
  pe_imp (pe_lc2 (g := tG X.mg sl gt) (tt := tT X.mg fc) (wi1 := tI X.mg fi1) (g1 := tG X.mg sl1 gt1) (tt1 := tT X.mg fc1) (te := tE X.mg false fe) hc hN hi (blkOk_by ok) hv hg ht hi1 hg1 ht1 he hs hs1) fun σ H Q h => lc2_imp hsl hsl1 h
end
end TL
end
section
set_option Elab.async false
set_option linter.all false
set_option maxRecDepth 100000
/-! TL34: {k: v for .., .. in x.items()}, the dict locked. -/
namespace TL
open PySem PySem.Spec PyProof.Rows L2
def itmL : List Key → List T → List T
  | k :: ks, t :: ts => .tup [ofK k, t] :: itmL ks ts
  | _, _ => []
theorem itmL_get : ∀ {ks : List Key} {ts : List T}, ks.length = ts.length → ∀ j : Nat, (itmL ks ts)[j]? = (match ks[j]?, ts[j]? with | some k, some t => some (T.tup [ofK k, t]) | _, _ => none)
  | [], [], _, j => by simp [itmL]
  | k :: ks, t :: ts, h, 0 => rfl
  | k :: ks, t :: ts, h, j + 1 => by
    show (itmL ks ts)[j]? = _
    rw [itmL_get (by simpa using h) j]
    rfl
theorem itmL_length : ∀ {ks : List Key} {ts : List T}, ks.length = ts.length → (itmL ks ts).length = ts.length
  | [], [], _ => rfl
  | k :: ks, t :: ts, h => by show (itmL ks ts).length + 1 = ts.length + 1; rw [itmL_length (by simpa using h)]
theorem yld_items {mg : Str → Option Value} {w : Wd} {d : Addr} {o : Obj} {kvs : List (Key × V)} {ts : List T} (h : w.H d = some (.frz o (.dK kvs))) (l : RepL w (kvs.map Prod.snd) ts) : Yld mg (Iti d o kvs) w (itmL (kvs.map Prod.fst) ts) := by
  have hl : (kvs.map Prod.fst).length = ts.length := by rw [List.length_map, ← l.length, List.length_map]
  have hl2 : (itmL (kvs.map Prod.fst) ts).length = kvs.length := by rw [itmL_length hl, ← hl, List.length_map]
  refine ⟨fun i w1 x1 g1 hi => ⟨x1.frz d _ _ h, by rw [hl2] at hi; exact hi⟩, fun i w1 x H' x1 g1 hy t ht => ?_, fun i w1 x1 g1 hi => ⟨x1.frz d _ _ h, by rw [hl2] at hi; exact hi⟩⟩
  obtain ⟨T0, k, v, e, rfl, hp, rfl⟩ := hy
  rw [itmL_get hl] at ht
  have e1 : (kvs.map Prod.fst)[i]? = some k := by rw [List.getElem?_map, e]; rfl
  have e2 : (kvs.map Prod.snd)[i]? = some v := by rw [List.getElem?_map, e]; rfl
  cases ht0 : ts[i]? with
  | none => rw [e1, ht0] at ht; cases ht
  | some u =>
    rw [e1, ht0] at ht
    cases ht
    obtain ⟨v', hv, r⟩ := l.get ht0
    rw [e2] at hv
    cases hv
    exact yld_pair (w1 := w1) g1 hp (ofK_rep k) (r.kept x1.toKeep)
def iItm (i : Nat) : Ev (List T) := fun τ M => match τ[i]? with
  | some (some (.dic ks ts)) => .ok (itmL ks ts) M
  | _ => .stuck
section
variable {X : Cx} {kx vx : Expr} {ifs : List Expr} {elts : List Expr} {kk : Nat} {tpos : Pos} {scope : Scope} {pos apos cpos p1 : Pos} {gt : Tg} {fc : Ev Bool} {fk fv : Ev T} {sl : List Nat}
theorem se_dcompI {i : Nat} {x : Str} (own : List (Str × Nat)) (hN : X.N.Nodup) (hg : ∀ (s : Shared) (H : Hp) (C : Addr) (cl : List (Str × Addr)) (fp : List Addr), SG sl (X.blk s H scope (compEnvC scope cl C X.env) fp) (.Tuple elts kk tpos) gt)
    (ht : ∀ (s : Shared) (H : Hp) (C : Addr) (cl : List (Str × Addr)) (fp : List Addr), STs (X.blk s H scope (compEnvC scope cl C X.env) fp) ifs fc) (hk : ∀ (s : Shared) (H : Hp) (C : Addr) (cl : List (Str × Addr)) (fp : List Addr), SE false (X.blk s H scope (compEnvC scope cl C X.env) fp) kx fk)
    (he : ∀ (s : Shared) (H : Hp) (C : Addr) (cl : List (Str × Addr)) (fp : List Addr), SE false (X.blk s H scope (compEnvC scope cl C X.env) fp) vx fv)
    (ok : blkC X.N X.env.scope scope own = true := by decide +kernel) (hx : X.N[i]? = some x := by rfl) (hv : Vis X.env.scope x := by first | exact .inl rfl | exact .inr (.inl rfl) | exact .inr (.inr rfl)) (hd : (x == ("__debug__" : Str)) = false := by decide) (hcd : (x == ("__classdict__" : Str)) = false := by decide)
    (hbase : attributeBase (.Name x p1) "items" X.env (eval (.Name x p1) X.env) = eval (.Name x p1) X.env := by rfl) (hline : (apos.endLine == cpos.line) = true := by rfl)
    (hsl : ∀ j ∈ sl, j ∈ own.map (·.2) := by decide) (hc : X.calm = true := by rfl) (hs : ∀ y, foldedSetIterable (.Call (.Attribute (.Name x p1) "items" apos) [] [] cpos) X.env y = pure y := by intro _; rfl) :
    SE true X (.DictComp kx vx [⟨.Tuple elts kk tpos, .Call (.Attribute (.Name x p1) "items" apos) [] [] cpos, ifs, 0⟩] scope pos) (eDcomp (iItm i) gt fc fk fv (own.map (·.2))) := by
  have L : PI X (.Tuple elts kk tpos) (.Call (.Attribute (.Name x p1) "items" apos) [] [] cpos) (fun σ H R => ∃ d o kvs, σ[i]? = some (some (.ref d)) ∧ H d = some (.frz o (.dK kvs)) ∧ R (Iti d o kvs) H) :=
    pi_imp (pi_items (pe_var hx hv hd hcd) hbase hline) fun σ H R ⟨d, o, kvs, hl, hf, r⟩ => ⟨_, hl, d, o, kvs, rfl, hf, r⟩
  have P := pe_dc (pos := pos) (g := tG X.mg sl gt) (tt := tT X.mg fc) (tk := tE X.mg false fk) (tv := tE X.mg false fv) hc hN L (blkOk_by ok) hg ht hk he hs
  have K : ∀ (w : Wd) (σ : L2.St) τ Q d o kvs ts, Good X.mg w → Nm w σ τ → σ[i]? = some (some (.ref d)) → w.H d = some (.frz o (.dK kvs)) → RepL w (kvs.map Prod.snd) ts → τ[i]? = some (some (.dic (kvs.map Prod.fst) ts)) → post X.mg true Q w (eDcomp (iItm i) gt fc fk fv (own.map (·.2)) τ w.M) →
      tDc (fun σ H R => ∃ d o kvs, σ[i]? = some (some (.ref d)) ∧ H d = some (.frz o (.dK kvs)) ∧ R (Iti d o kvs) H) (tG X.mg sl gt) (tT X.mg fc) (tE X.mg false fk) (tE X.mg false fv) (own.map (·.2)) σ w.H Q := fun w σ τ Q d o kvs ts g n hl hd rl ht q => by
    refine ⟨d, o, kvs, hl, hd, fun D hD => ?_⟩
    have e1 : iItm i τ w.M = .ok (itmL (kvs.map Prod.fst) ts) w.M := by unfold iItm; rw [ht]
    unfold eDcomp at q
    rw [e1] at q
    have q : post X.mg true Q w ((dcompL gt fc fk fv (wipeT τ (own.map (·.2))) (itmL (kvs.map Prod.fst) ts) [] [] w.M).bind fun r M2 => .ok (.dic r.1 r.2) M2) := q
    refine dc_turns hsl g n (yld_items hd rl) hD (Res.all_mono (fun r M2 q w2 v x2 g2 e2 r2 f2 => ?_) (Res.all_bind q))
    exact q w2 v x2 g2 e2 r2 fun _ => f2
  refine pe_imp (pe_orE (pe_lock P) P) fun σ H Q h => ?_
  obtain ⟨w, τ, rfl, g, n, q⟩ := h
  have hf : (∃ ks ts, τ[i]? = some (some (.dic ks ts))) ∨ iItm i τ w.M = .stuck := by
    unfold iItm
    split
    · rename_i ks ts h; exact .inl ⟨ks, ts, h⟩
    · exact .inr rfl
  rcases hf with ⟨ks, ts, hti⟩ | hf
  · obtain ⟨v, h1, r⟩ := n.at_ i _ hti
    cases r with
    | dic nE dR e nd l =>
      rename_i a kvs
      subst e
      rcases dR with hd | ⟨o, hd⟩
      · refine .inl ⟨a, .dK kvs, hd, True.intro, fun od => ?_⟩
        refine K (w.lk a od kvs) σ τ _ a od kvs ts (g.lk hd nE) (n.mono (Ext.lk g hd nE)) h1 upd_same (l.mono (Ext.lk g hd nE)) hti (Res.all_mono (fun t M' q w1 v x1 g1 e1 r1 f1 => ?_) q)
        have h1 : w1.H a = some (.frz od (.dK kvs)) := x1.frz a _ _ upd_same
        exact ⟨h1, q (w1.ul a kvs) v (Ext.ul g hd nE x1) (g1.ul h1 (notEx_ul g hd nE x1)) e1 (r1.kept (Keep.ul h1)) fun z => (f1 z).ul g hd nE⟩
      · exact .inr (K w σ τ Q a o kvs ts g n h1 hd l hti q)
  · have q : post X.mg true Q w (((iItm i τ w.M).bind fun ts M1 => (dcompL gt fc fk fv (wipeT τ (own.map (·.2))) ts [] [] M1).bind fun r M2 => .ok (.dic r.1 r.2) M2)) := q
    rw [hf] at q
    exact q.elim
end
end TL
end
section
set_option Elab.async false
set_option linter.all false
set_option maxRecDepth 100000
/-! Printed by gen.py: the defs of the law's text as functions of trees. -/
set_option maxHeartbeats 0
namespace TL
open PySem PySem.Spec PyProof.Rows L2
def topS (i : Nat) : Stmt := PySem.Challenge.pw_suretricks_k85_whole_tables_and_deals.main.body.getD i (.Pass ⟨0, 0, 0, 0⟩)
section
variable {P : Program} {w : World} {K : PySem.W.Frag} {mg : Str → Option Value} {base : Heap} {f : Addr} {fd : FuncData}

/-! ### is_whole -/
abbrev s_is_whole : Stmt := topS 2
theorem sc_is_whole : FnScope ["value"] ["value"] (defScope s_is_whole) := ⟨rfl, rfl, rfl, by decide +kernel, rfl, by decide +kernel, by decide +kernel⟩
def b_is_whole : Ev Fl :=
    (sRet (vAnd (e1 (kIsi .int) (eVar 0)) (e1 kNot (e1 (kIsi .bool) (eVar 0)))))
def r_is_whole : List T → Sto → Res T := fnRun false 1 (b_is_whole)
theorem ok_is_whole (B : Blt mg)  (F0 : FunD K "is_whole" "is_whole" (defArgs s_is_whole) (defBody s_is_whole) (defScope s_is_whole) [] [] f fd) : FnOk P w K mg base CX0 1 f fd ["value"] (spRun mg false 1 (r_is_whole)) := by
  have sc := sc_is_whole
  refine fn_okN ["value"] ["value"] false 0 1 1 (b_is_whole) F0 sc rfl rfl ?_
  exact fun cdv A outer s H E hr =>
    (sb_one (ss_ret (se_and (se_isi B .int (se_var (i := 0))) (se_one (se_not (se_isi B .bool (se_var (i := 0))))))))
/-! ### is_count -/
abbrev s_is_count : Stmt := topS 3
theorem sc_is_count : FnScope ["value", "least"] ["value", "least"] (defScope s_is_count) := ⟨rfl, rfl, rfl, by decide +kernel, rfl, by decide +kernel, by decide +kernel⟩
def b_is_count : Ev Fl :=
    (sRet (vAnd (eCall 1 [] (r_is_whole) (eCons (eVar 0) eNil)) (e2 kGe (eVar 0) (eA kMax (eCons (eVar 1) (eCons (eC (.int 0)) eNil))))))
def r_is_count : List T → Sto → Res T := fnRun false 2 (b_is_count)
theorem ok_is_count (B : Blt mg) (C_is_whole_0 : CallF P w K mg base 1 "is_whole" false 1 [] (r_is_whole)) (F0 : FunD K "is_count" "is_count" (defArgs s_is_count) (defBody s_is_count) (defScope s_is_count) [.int 0] [] f fd) : FnOk P w K mg base CX0 2 f fd ["value", "least"] (spRun mg false 2 (r_is_count)) := by
  have sc := sc_is_count
  refine fn_okN ["value", "least"] ["value", "least"] false 1 2 2 (b_is_count) F0 sc rfl rfl ?_
  exact fun cdv A outer s H E hr =>
    (sb_one (ss_ret (se_and (se_call C_is_whole_0 (hr.mono (by decide)) (sa_cons (se_var (i := 0)) sa_nil)) (se_one (se_cmp c_ge (se_var (i := 0)) (se_max B (sa_cons (se_var (i := 1)) (sa_cons se_int sa_nil))))))))
/-! ### is_tuple_of -/
abbrev s_is_tuple_of : Stmt := topS 4
theorem sc_is_tuple_of : FnScope ["value", "size"] ["value", "size"] (defScope s_is_tuple_of) := ⟨rfl, rfl, rfl, by decide +kernel, rfl, by decide +kernel, by decide +kernel⟩
def b_is_tuple_of : Ev Fl :=
    (sRet (vAnd (e1 (kIsi .tuple) (eVar 0)) (e2 (kVw kEq0) (eA kLen (eCons (eVar 0) eNil)) (eVar 1))))
def r_is_tuple_of : List T → Sto → Res T := fnRun false 2 (b_is_tuple_of)
theorem ok_is_tuple_of (B : Blt mg)  (F0 : FunD K "is_tuple_of" "is_tuple_of" (defArgs s_is_tuple_of) (defBody s_is_tuple_of) (defScope s_is_tuple_of) [] [] f fd) : FnOk P w K mg base CX0 1 f fd ["value", "size"] (spRun mg false 2 (r_is_tuple_of)) := by
  have sc := sc_is_tuple_of
  refine fn_okN ["value", "size"] ["value", "size"] false 0 2 2 (b_is_tuple_of) F0 sc rfl rfl ?_
  exact fun cdv A outer s H E hr =>
    (sb_one (ss_ret (se_and (se_isi B .tuple (se_var (i := 0))) (se_one (se_cmp (p_eq hr).ok (se_len B (sa_cons (se_var (i := 0)) sa_nil)) (se_var (i := 1)))))))
/-! ### is_said -/
abbrev s_is_said : Stmt := topS 5
theorem sc_is_said : FnScope ["value", "word", "size"] ["value", "word", "size"] (defScope s_is_said) := ⟨rfl, rfl, rfl, by decide +kernel, rfl, by decide +kernel, by decide +kernel⟩
def b_is_said : Ev Fl :=
    (sRet (vAnd (eCall 2 [] (r_is_tuple_of) (eCons (eVar 0) (eCons (eVar 2) eNil))) (vAnd (e1 (kIsi .str) (e2 kIx (eVar 0) (eC (.int 0)))) (e2 (kVw kEq0) (e2 kIx (eVar 0) (eC (.int 0))) (eVar 1)))))
def r_is_said : List T → Sto → Res T := fnRun false 3 (b_is_said)
theorem ok_is_said (B : Blt mg) (C_is_tuple_of_0 : CallF P w K mg base 1 "is_tuple_of" false 2 [] (r_is_tuple_of)) (F0 : FunD K "is_said" "is_said" (defArgs s_is_said) (defBody s_is_said) (defScope s_is_said) [] [] f fd) : FnOk P w K mg base CX0 2 f fd ["value", "word", "size"] (spRun mg false 3 (r_is_said)) := by
  have sc := sc_is_said
  refine fn_okN ["value", "word", "size"] ["value", "word", "size"] false 1 3 3 (b_is_said) F0 sc rfl rfl ?_
  exact fun cdv A outer s H E hr =>
    (sb_one (ss_ret (se_and (se_call C_is_tuple_of_0 (hr.mono (by decide)) (sa_cons (se_var (i := 0)) (sa_cons (se_var (i := 2)) sa_nil))) (se_and (se_isi B .str (se_ix hr (se_var (i := 0)) se_int)) (se_one (se_cmp (p_eq hr).ok (se_ix hr (se_var (i := 0)) se_int) (se_var (i := 1))))))))
/-! ### copied -/
abbrev s_copied : Stmt := topS 6
theorem sc_copied : FnScope ["thing", "item", "key"] ["thing"] (defScope s_copied) := ⟨rfl, rfl, rfl, by decide +kernel, rfl, by decide +kernel, by decide +kernel⟩
def b_copied (k : Nat) (r_copied : Nat → List T → Sto → Res T) : Ev Fl :=
    (sSeq (sIf (eB (e1 (kIsi .list) (eVar 0))) (sRet (eComp (iLst (eVar 0)) (gN 1) cYes (eCall 1 [] (r_copied k) (eCons (eVar 1) eNil)) [1])) sNil)
    (sSeq (sIf (eB (e1 (kIsi .tuple) (eVar 0))) (sRet (eA kTupC (eCons (eComp (iTpl (eVar 0)) (gN 1) cYes (eCall 1 [] (r_copied k) (eCons (eVar 1) eNil)) [1]) eNil))) sNil)
    (sSeq (sIf (eB (e1 (kIsi .dict) (eVar 0))) (sRet (eDcomp (iItm 0) (gTup 2 (gCons (gN 2) (gCons (gN 1) gNil))) cYes (eVar 2) (eCall 1 [] (r_copied k) (eCons (eVar 1) eNil)) [2, 1])) sNil)
    (sRet (eVar 0)))))
def r_copied : Nat → List T → Sto → Res T
  | 0 => gNo
  | k + 1 => fnRun false 3 (b_copied k fun _ => r_copied k)
theorem ok_copied (B : Blt mg)  {ds : List Value} (D : Def K mg "copied" "copied" s_copied ["thing"] [] f fd ds) : ∀ k : Nat, FnOk P w K mg base CX0 (0 + k + 1) f fd ["thing"] (spRun mg false 1 (r_copied k))
  | 0 => fn_ok0N ["thing", "item", "key"] ["thing"] false 0 1 D.fun_ sc_copied rfl
  | k + 1 => by
    have C_copied_0 : CallF P w K mg base (0 + k + 1) "copied" false 1 [] (r_copied k) := D.call (ok_copied B  D k)
    have sc := sc_copied
    refine fn_okN ["thing", "item", "key"] ["thing"] false (0 + k + 1) 3 1 (b_copied k fun _ => r_copied k) D.fun_ sc rfl rfl ?_
    exact fun cdv A outer s H E hr =>
    (sb_cons (ss_if (st_val (se_isi B .list (se_var (i := 0)))) (sb_one (ss_ret (SE.drop (se_comp [("item", 1)] sc.nd (si_list (se_var (i := 0))) (fun _ _ _ _ _ => (sg_name (i := 1) sc.nd)) (fun _ _ _ _ _ => sts_nil) (fun _ _ _ _ _ => (se_call C_copied_0 (hr.mono (by omega)) (sa_cons (se_var (i := 1)) sa_nil))) (by first | (show blkC ["thing", "item", "key"] (defScope s_copied) _ _ = true; decide +kernel) | (show blkC ["thing", "item", "key"] (relabel _ (envOfC "" (defScope s_copied) 0 0 .none)) _ _ = true; decide +kernel)))))) sb_nil)
    (sb_cons (ss_if (st_val (se_isi B .tuple (se_var (i := 0)))) (sb_one (ss_ret (se_tupC B (sa_cons (SE.drop (se_comp [("item", 1)] sc.nd (si_tup (se_var (i := 0))) (fun _ _ _ _ _ => (sg_name (i := 1) sc.nd)) (fun _ _ _ _ _ => sts_nil) (fun _ _ _ _ _ => (se_call C_copied_0 (hr.mono (by omega)) (sa_cons (se_var (i := 1)) sa_nil))) (by first | (show blkC ["thing", "item", "key"] (defScope s_copied) _ _ = true; decide +kernel) | (show blkC ["thing", "item", "key"] (relabel _ (envOfC "" (defScope s_copied) 0 0 .none)) _ _ = true; decide +kernel)))) sa_nil)))) sb_nil)
    (sb_cons (ss_if (st_val (se_isi B .dict (se_var (i := 0)))) (sb_one (ss_ret (SE.drop (se_dcompI (i := 0) [("key", 2), ("item", 1)] sc.nd (fun _ _ _ _ _ => (sg_tup (n := 2) (sgs_cons (sg_name (i := 2) sc.nd) (sgs_cons (sg_name (i := 1) sc.nd) sgs_nil)))) (fun _ _ _ _ _ => sts_nil) (fun _ _ _ _ _ => (se_var (i := 2))) (fun _ _ _ _ _ => (se_call C_copied_0 (hr.mono (by omega)) (sa_cons (se_var (i := 1)) sa_nil))) (by first | (show blkC ["thing", "item", "key"] (defScope s_copied) _ _ = true; decide +kernel) | (show blkC ["thing", "item", "key"] (relabel _ (envOfC "" (defScope s_copied) 0 0 .none)) _ _ = true; decide +kernel)))))) sb_nil)
    (sb_one (ss_ret (se_var (i := 0)))))))
/-! ### is_pack -/
abbrev s_is_pack : Stmt := topS 17
theorem sc_is_pack : FnScope ["value", "card"] ["value"] (defScope s_is_pack) := ⟨rfl, rfl, rfl, by decide +kernel, rfl, by decide +kernel, by decide +kernel⟩
def b_is_pack : Ev Fl :=
    (sSeq (sIf (eOr (eNot (eB (e1 (kIsi .list) (eVar 0)))) (eNot (eB (eA kAll (eCons (eComp (iLst (eVar 0)) (gN 1) cYes (eCall 2 [.int 0] (r_is_count) (eCons (eVar 1) eNil)) [1]) eNil))))) (sRet (eC (.bl false))) sNil)
    (sRet (e2 (kVw kEq0) (eLenSet (eVar 0)) (eA kLen (eCons (eVar 0) eNil)))))
def r_is_pack : List T → Sto → Res T := fnRun false 2 (b_is_pack)
theorem ok_is_pack (B : Blt mg) (C_is_count_1 : CallF P w K mg base 2 "is_count" false 2 [.int 0] (r_is_count)) (F0 : FunD K "is_pack" "is_pack" (defArgs s_is_pack) (defBody s_is_pack) (defScope s_is_pack) [] [] f fd) : FnOk P w K mg base CX0 3 f fd ["value"] (spRun mg false 1 (r_is_pack)) := by
  have sc := sc_is_pack
  refine fn_okN ["value", "card"] ["value"] false 2 2 1 (b_is_pack) F0 sc rfl rfl ?_
  exact fun cdv A outer s H E hr =>
    (sb_cons (ss_if (SW.st (sw_or (st_not (st_val (se_isi B .list (se_var (i := 0))))) (ST.or1 (st_not (st_val (se_all B (sa_cons (SE.drop (se_comp [("card", 1)] sc.nd (si_list (se_var (i := 0))) (fun _ _ _ _ _ => (sg_name (i := 1) sc.nd)) (fun _ _ _ _ _ => sts_nil) (fun _ _ _ _ _ => (se_call C_is_count_1 (hr.mono (by decide)) (sa_cons (se_var (i := 1)) sa_nil) (fun _ => .cons (.int 0) .nil))) (by first | (show blkC ["value", "card"] (defScope s_is_pack) _ _ = true; decide +kernel) | (show blkC ["value", "card"] (relabel _ (envOfC "" (defScope s_is_pack) 0 0 .none)) _ _ = true; decide +kernel)))) sa_nil))))))) (sb_one (ss_ret se_bl)) sb_nil)
    (sb_one (ss_ret (se_cmp (p_eq hr).ok (se_lenSet B (se_var (i := 0))) (se_len B (sa_cons (se_var (i := 0)) sa_nil))))))
/-! ### check_pack -/
abbrev s_check_pack : Stmt := topS 18
theorem sc_check_pack : FnScope ["value"] ["value"] (defScope s_check_pack) := ⟨rfl, rfl, rfl, by decide +kernel, rfl, by decide +kernel, by decide +kernel⟩
def b_check_pack : Ev Fl :=
    (sIf (eNot (eB (eCall 1 [] (r_is_pack) (eCons (eVar 0) eNil)))) eStuck sNil)
def r_check_pack : List T → Sto → Res T := fnRun false 1 (b_check_pack)
theorem ok_check_pack (B : Blt mg) (C_is_pack_0 : CallF P w K mg base 3 "is_pack" false 1 [] (r_is_pack)) (F0 : FunD K "check_pack" "check_pack" (defArgs s_check_pack) (defBody s_check_pack) (defScope s_check_pack) [] [] f fd) : FnOk P w K mg base CX0 4 f fd ["value"] (spRun mg false 1 (r_check_pack)) := by
  have sc := sc_check_pack
  refine fn_okN ["value"] ["value"] false 3 1 1 (b_check_pack) F0 sc rfl rfl ?_
  exact fun cdv A outer s H E hr =>
    (sb_one (ss_if (st_not (st_val (se_call C_is_pack_0 (hr.mono (by decide)) (sa_cons (se_var (i := 0)) sa_nil)))) (sb_one ss_never) sb_nil))
/-! ### is_move_there -/
abbrev s_is_move_there : Stmt := topS 19
theorem sc_is_move_there : FnScope ["many", "value", "place"] ["many", "value"] (defScope s_is_move_there) := ⟨rfl, rfl, rfl, by decide +kernel, rfl, by decide +kernel, by decide +kernel⟩
def b_is_move_there : Ev Fl :=
    (sSeq (sIf (eOr (eNot (eB (e1 (kIsi .list) (eVar 1)))) (eOr (eB (e2 (kVw kNe0) (eA kLen (eCons (eVar 1) eNil)) (eVar 0))) (eNot (eB (eA kAll (eCons (eComp (iLst (eVar 1)) (gN 2) cYes (eCall 2 [.int 0] (r_is_count) (eCons (eVar 2) eNil)) [2]) eNil)))))) (sRet (eC (.bl false))) sNil)
    (sRet (e2 (kVw kEq0) (eA kSorted (eCons (eVar 1) eNil)) (eLrg1 (eVar 0)))))
def r_is_move_there : List T → Sto → Res T := fnRun false 3 (b_is_move_there)
theorem ok_is_move_there (B : Blt mg) (C_is_count_1 : CallF P w K mg base 2 "is_count" false 2 [.int 0] (r_is_count)) (F0 : FunD K "is_move_there" "is_move_there" (defArgs s_is_move_there) (defBody s_is_move_there) (defScope s_is_move_there) [] [] f fd) : FnOk P w K mg base CX0 3 f fd ["many", "value"] (spRun mg false 2 (r_is_move_there)) := by
  have sc := sc_is_move_there
  refine fn_okN ["many", "value", "place"] ["many", "value"] false 2 3 2 (b_is_move_there) F0 sc rfl rfl ?_
  exact fun cdv A outer s H E hr =>
    (sb_cons (ss_if (SW.st (sw_or (st_not (st_val (se_isi B .list (se_var (i := 1))))) (sw_or (st_cmp (p_ne hr).ok (se_len B (sa_cons (se_var (i := 1)) sa_nil)) (se_var (i := 0))) (ST.or1 (st_not (st_val (se_all B (sa_cons (SE.drop (se_comp [("place", 2)] sc.nd (si_list (se_var (i := 1))) (fun _ _ _ _ _ => (sg_name (i := 2) sc.nd)) (fun _ _ _ _ _ => sts_nil) (fun _ _ _ _ _ => (se_call C_is_count_1 (hr.mono (by decide)) (sa_cons (se_var (i := 2)) sa_nil) (fun _ => .cons (.int 0) .nil))) (by first | (show blkC ["many", "value", "place"] (defScope s_is_move_there) _ _ = true; decide +kernel) | (show blkC ["many", "value", "place"] (relabel _ (envOfC "" (defScope s_is_move_there) 0 0 .none)) _ _ = true; decide +kernel)))) sa_nil)))))))) (sb_one (ss_ret se_bl)) sb_nil)
    (sb_one (ss_ret (se_cmp (p_eq hr).ok (SE.drop (se_sorted B (sa_cons (se_var (i := 1)) sa_nil))) (SE.drop (se_listRg1 B (se_var (i := 0))))))))
/-! ### check_many -/
abbrev s_check_many : Stmt := topS 20
theorem sc_check_many : FnScope ["many"] ["many"] (defScope s_check_many) := ⟨rfl, rfl, rfl, by decide +kernel, rfl, by decide +kernel, by decide +kernel⟩
def b_check_many : Ev Fl :=
    (sIf (eNot (eB (eCall 2 [.int 0] (r_is_count) (eCons (eVar 0) eNil)))) eStuck sNil)
def r_check_many : List T → Sto → Res T := fnRun false 1 (b_check_many)
theorem ok_check_many (B : Blt mg) (C_is_count_1 : CallF P w K mg base 2 "is_count" false 2 [.int 0] (r_is_count)) (F0 : FunD K "check_many" "check_many" (defArgs s_check_many) (defBody s_check_many) (defScope s_check_many) [] [] f fd) : FnOk P w K mg base CX0 3 f fd ["many"] (spRun mg false 1 (r_check_many)) := by
  have sc := sc_check_many
  refine fn_okN ["many"] ["many"] false 2 1 1 (b_check_many) F0 sc rfl rfl ?_
  exact fun cdv A outer s H E hr =>
    (sb_one (ss_if (st_not (st_val (se_call C_is_count_1 (hr.mono (by decide)) (sa_cons (se_var (i := 0)) sa_nil) (fun _ => .cons (.int 0) .nil)))) (sb_one ss_never) sb_nil))
/-! ### whole_pack -/
abbrev s_whole_pack : Stmt := topS 22
theorem sc_whole_pack : FnScope ["many"] ["many"] (defScope s_whole_pack) := ⟨rfl, rfl, rfl, by decide +kernel, rfl, by decide +kernel, by decide +kernel⟩
def b_whole_pack : Ev Fl :=
    (sSeq (sExpr (eCall 1 [] (r_check_many) (eCons (eVar 0) eNil)))
    (sRet (eLrg1 (eVar 0))))
def r_whole_pack : List T → Sto → Res T := fnRun false 1 (b_whole_pack)
theorem ok_whole_pack (B : Blt mg) (C_check_many_packs_0 : CallF P w K mg base 3 "check_many_packs" false 1 [] (r_check_many)) (F0 : FunD K "whole_pack" "whole_pack" (defArgs s_whole_pack) (defBody s_whole_pack) (defScope s_whole_pack) [] [] f fd) : FnOk P w K mg base CX0 4 f fd ["many"] (spRun mg false 1 (r_whole_pack)) := by
  have sc := sc_whole_pack
  refine fn_okN ["many"] ["many"] false 3 1 1 (b_whole_pack) F0 sc rfl rfl ?_
  exact fun cdv A outer s H E hr =>
    (sb_cons (ss_expr (se_call C_check_many_packs_0 (hr.mono (by decide)) (sa_cons (se_var (i := 0)) sa_nil)))
    (sb_one (ss_ret (SE.drop (se_listRg1 B (se_var (i := 0)))))))
/-! ### moved_there -/
abbrev s_moved_there : Stmt := topS 23
theorem sc_moved_there : FnScope ["pack", "move", "place"] ["pack", "move"] (defScope s_moved_there) := ⟨rfl, rfl, rfl, by decide +kernel, rfl, by decide +kernel, by decide +kernel⟩
def b_moved_there : Ev Fl :=
    (sRet (eComp (iLst (eVar 1)) (gN 2) cYes (e2 kIx (eVar 0) (eVar 2)) [2]))
def r_moved_there : List T → Sto → Res T := fnRun false 3 (b_moved_there)
theorem ok_moved_there (B : Blt mg)  (F0 : FunD K "moved_there" "moved_there" (defArgs s_moved_there) (defBody s_moved_there) (defScope s_moved_there) [] [] f fd) : FnOk P w K mg base CX0 1 f fd ["pack", "move"] (spRun mg false 2 (r_moved_there)) := by
  have sc := sc_moved_there
  refine fn_okN ["pack", "move", "place"] ["pack", "move"] false 0 3 2 (b_moved_there) F0 sc rfl rfl ?_
  exact fun cdv A outer s H E hr =>
    (sb_one (ss_ret (SE.drop (se_comp [("place", 2)] sc.nd (si_list (se_var (i := 1))) (fun _ _ _ _ _ => (sg_name (i := 2) sc.nd)) (fun _ _ _ _ _ => sts_nil) (fun _ _ _ _ _ => (se_ix hr (se_var (i := 0)) (se_var (i := 2)))) (by first | (show blkC ["pack", "move", "place"] (defScope s_moved_there) _ _ = true; decide +kernel) | (show blkC ["pack", "move", "place"] (relabel _ (envOfC "" (defScope s_moved_there) 0 0 .none)) _ _ = true; decide +kernel))))))
/-! ### moved -/
abbrev s_moved : Stmt := topS 24
theorem sc_moved : FnScope ["pack", "move"] ["pack", "move"] (defScope s_moved) := ⟨rfl, rfl, rfl, by decide +kernel, rfl, by decide +kernel, by decide +kernel⟩
def b_moved : Ev Fl :=
    (sSeq (sExpr (eCall 1 [] (r_check_pack) (eCons (eVar 0) eNil)))
    (sSeq (sIf (eNot (eB (eCall 2 [] (r_is_move_there) (eCons (eA kLen (eCons (eVar 0) eNil)) (eCons (eVar 1) eNil))))) eStuck sNil)
    (sRet (eCall 2 [] (r_moved_there) (eCons (eVar 0) (eCons (eVar 1) eNil))))))
def r_moved : List T → Sto → Res T := fnRun false 2 (b_moved)
theorem ok_moved (B : Blt mg) (C_check_pack_0 : CallF P w K mg base 4 "check_pack" false 1 [] (r_check_pack)) (C_is_move_there_0 : CallF P w K mg base 3 "is_move_there" false 2 [] (r_is_move_there)) (C_moved_there_0 : CallF P w K mg base 1 "moved_there" false 2 [] (r_moved_there)) (F0 : FunD K "moved" "moved" (defArgs s_moved) (defBody s_moved) (defScope s_moved) [] [] f fd) : FnOk P w K mg base CX0 5 f fd ["pack", "move"] (spRun mg false 2 (r_moved)) := by
  have sc := sc_moved
  refine fn_okN ["pack", "move"] ["pack", "move"] false 4 2 2 (b_moved) F0 sc rfl rfl ?_
  exact fun cdv A outer s H E hr =>
    (sb_cons (ss_expr (se_call C_check_pack_0 (hr.mono (by decide)) (sa_cons (se_var (i := 0)) sa_nil)))
    (sb_cons (ss_if (st_not (st_val (se_call C_is_move_there_0 (hr.mono (by decide)) (sa_cons (se_len B (sa_cons (se_var (i := 0)) sa_nil)) (sa_cons (se_var (i := 1)) sa_nil))))) (sb_one ss_never) sb_nil)
    (sb_one (ss_ret (se_call C_moved_there_0 (hr.mono (by decide)) (sa_cons (se_var (i := 0)) (sa_cons (se_var (i := 1)) sa_nil)))))))
/-! ### is_act -/
abbrev s_is_act : Stmt := topS 29
theorem sc_is_act : FnScope ["value", "words", "word"] ["value"] (defScope s_is_act) := ⟨rfl, rfl, rfl, by decide +kernel, rfl, by decide +kernel, by decide +kernel⟩
def b_is_act : Ev Fl :=
    (sSeq (sIf (eB (eCall 3 [] (r_is_said) (eCons (eVar 0) (eCons (eC (.str ⟨#[109, 111, 118, 101]⟩)) (eCons (eC (.int 3)) eNil))))) (sRet (vAnd (eCall 2 [.int 0] (r_is_count) (eCons (e2 kIx (eVar 0) (eC (.int 1))) eNil)) (vAnd (e1 (kIsi .list) (e2 kIx (eVar 0) (eC (.int 2)))) (eCall 2 [] (r_is_move_there) (eCons (eA kLen (eCons (e2 kIx (eVar 0) (eC (.int 2))) eNil)) (eCons (e2 kIx (eVar 0) (eC (.int 2))) eNil)))))) sNil)
    (sSeq (sAsg (eTup (eCons (eC (.str ⟨#[99, 117, 116]⟩)) (eCons (eC (.str ⟨#[116, 117, 114, 110]⟩)) (eCons (eC (.str ⟨#[115, 112, 108, 105, 116]⟩)) (eCons (eC (.str ⟨#[106, 111, 105, 110]⟩)) (eCons (eC (.str ⟨#[100, 101, 97, 108]⟩)) eNil)))))) (gN 1))
    (sSeq (sIf (eNot (eB (eA kAny (eCons (eComp (iTpl (eVar 1)) (gN 2) cYes (eCall 3 [] (r_is_said) (eCons (eVar 0) (eCons (eVar 2) (eCons (eC (.int 3)) eNil)))) [2]) eNil)))) (sRet (eC (.bl false))) sNil)
    (sRet (vAnd (eCall 2 [.int 0] (r_is_count) (eCons (e2 kIx (eVar 0) (eC (.int 1))) eNil)) (eCall 2 [.int 0] (r_is_count) (eCons (e2 kIx (eVar 0) (eC (.int 2))) eNil)))))))
def r_is_act : List T → Sto → Res T := fnRun false 3 (b_is_act)
theorem ok_is_act (B : Blt mg) (C_is_said_0 : CallF P w K mg base 2 "is_said" false 3 [] (r_is_said)) (C_is_count_1 : CallF P w K mg base 2 "is_count" false 2 [.int 0] (r_is_count)) (C_is_move_there_0 : CallF P w K mg base 3 "is_move_there" false 2 [] (r_is_move_there)) (F0 : FunD K "is_act" "is_act" (defArgs s_is_act) (defBody s_is_act) (defScope s_is_act) [] [] f fd) : FnOk P w K mg base CX0 4 f fd ["value"] (spRun mg false 1 (r_is_act)) := by
  have sc := sc_is_act
  refine fn_okN ["value", "words", "word"] ["value"] false 3 3 1 (b_is_act) F0 sc rfl rfl ?_
  exact fun cdv A outer s H E hr =>
    (sb_cons (ss_if (st_val (se_call C_is_said_0 (hr.mono (by decide)) (sa_cons (se_var (i := 0)) (sa_cons se_str (sa_cons se_int sa_nil))))) (sb_one (ss_ret (se_and (se_call C_is_count_1 (hr.mono (by decide)) (sa_cons (se_ix hr (se_var (i := 0)) se_int) sa_nil) (fun _ => .cons (.int 0) .nil)) (se_and (se_isi B .list (se_ix hr (se_var (i := 0)) se_int)) (se_one (se_call C_is_move_there_0 (hr.mono (by decide)) (sa_cons (se_len B (sa_cons (se_ix hr (se_var (i := 0)) se_int) sa_nil)) (sa_cons (se_ix hr (se_var (i := 0)) se_int) sa_nil)))))))) sb_nil)
    (sb_cons (ss_set (i := 1) sc.nd (se_tup (sa_cons se_str (sa_cons se_str (sa_cons se_str (sa_cons se_str (sa_cons se_str sa_nil)))))))
    (sb_cons (ss_if (st_not (st_val (se_any B (sa_cons (SE.drop (se_comp [("word", 2)] sc.nd (si_tup (se_var (i := 1))) (fun _ _ _ _ _ => (sg_name (i := 2) sc.nd)) (fun _ _ _ _ _ => sts_nil) (fun _ _ _ _ _ => (se_call C_is_said_0 (hr.mono (by decide)) (sa_cons (se_var (i := 0)) (sa_cons (se_var (i := 2)) (sa_cons se_int sa_nil))))) (by first | (show blkC ["value", "words", "word"] (defScope s_is_act) _ _ = true; decide +kernel) | (show blkC ["value", "words", "word"] (relabel _ (envOfC "" (defScope s_is_act) 0 0 .none)) _ _ = true; decide +kernel)))) sa_nil)))) (sb_one (ss_ret se_bl)) sb_nil)
    (sb_one (ss_ret (se_and (se_call C_is_count_1 (hr.mono (by decide)) (sa_cons (se_ix hr (se_var (i := 0)) se_int) sa_nil) (fun _ => .cons (.int 0) .nil)) (se_one (se_call C_is_count_1 (hr.mono (by decide)) (sa_cons (se_ix hr (se_var (i := 0)) se_int) sa_nil) (fun _ => .cons (.int 0) .nil)))))))))
/-! ### fits -/
abbrev s_fits : Stmt := topS 30
theorem sc_fits : FnScope ["state", "act", "heaps", "many"] ["state", "act"] (defScope s_fits) := ⟨rfl, rfl, rfl, by decide +kernel, rfl, by decide +kernel, by decide +kernel⟩
def b_fits : Ev Fl :=
    (sSeq (sAsg (e2 kIx (eVar 0) (eC (.str ⟨#[104, 101, 97, 112, 115]⟩))) (gN 2))
    (sSeq (sIf (eB (e2 (kVw (fun a b => (kIn0 a b).map not)) (e2 kIx (eVar 1) (eC (.int 1))) (eVar 2))) (sRet (eC (.bl false))) sNil)
    (sSeq (sAsg (eA kLen (eCons (e2 kIx (eVar 2) (e2 kIx (eVar 1) (eC (.int 1)))) eNil)) (gN 3))
    (sSeq (sIf (eB (e2 (kVw kEq0) (e2 kIx (eVar 1) (eC (.int 0))) (eC (.str ⟨#[106, 111, 105, 110]⟩)))) (sRet (vAnd (e2 (kVw kIn0) (e2 kIx (eVar 1) (eC (.int 2))) (eVar 2)) (e2 (kVw kNe0) (e2 kIx (eVar 1) (eC (.int 2))) (e2 kIx (eVar 1) (eC (.int 1)))))) sNil)
    (sSeq (sIf (eB (e2 (kVw kEq0) (e2 kIx (eVar 1) (eC (.int 0))) (eC (.str ⟨#[109, 111, 118, 101]⟩)))) (sRet (e2 (kVw kEq0) (eA kLen (eCons (e2 kIx (eVar 1) (eC (.int 2))) eNil)) (eVar 3))) sNil)
    (sSeq (sIf (eB (e2 (kVw kEq0) (e2 kIx (eVar 1) (eC (.int 0))) (eC (.str ⟨#[115, 112, 108, 105, 116]⟩)))) (sRet (eChain kLe kLt (eC (.int 1)) (e2 kIx (eVar 1) (eC (.int 2))) (eVar 3))) sNil)
    (sRet (eIf (eB (e2 (kVw kEq0) (e2 kIx (eVar 1) (eC (.int 0))) (eC (.str ⟨#[100, 101, 97, 108]⟩)))) (eChain kLe kLe (eC (.int 2)) (e2 kIx (eVar 1) (eC (.int 2))) (eVar 3)) (e2 kLe (e2 kIx (eVar 1) (eC (.int 2))) (eVar 3))))))))))
def r_fits : List T → Sto → Res T := fnRun false 4 (b_fits)
theorem ok_fits (B : Blt mg)  (F0 : FunD K "fits" "fits" (defArgs s_fits) (defBody s_fits) (defScope s_fits) [] [] f fd) : FnOk P w K mg base CX0 1 f fd ["state", "act"] (spRun mg false 2 (r_fits)) := by
  have sc := sc_fits
  refine fn_okN ["state", "act", "heaps", "many"] ["state", "act"] false 0 4 2 (b_fits) F0 sc rfl rfl ?_
  exact fun cdv A outer s H E hr =>
    (sb_cons (ss_set (i := 2) sc.nd (se_ix hr (se_var (i := 0)) se_str))
    (sb_cons (ss_if (st_cmp (p_nin hr).ok (se_ix hr (se_var (i := 1)) se_int) (se_var (i := 2))) (sb_one (ss_ret se_bl)) sb_nil)
    (sb_cons (ss_set (i := 3) sc.nd (se_len B (sa_cons (se_ix hr (se_var (i := 2)) (se_ix hr (se_var (i := 1)) se_int)) sa_nil)))
    (sb_cons (ss_if (st_cmp (p_eq hr).ok (se_ix hr (se_var (i := 1)) se_int) se_str) (sb_one (ss_ret (se_and (se_cmp (p_in hr).ok (se_ix hr (se_var (i := 1)) se_int) (se_var (i := 2))) (se_one (se_cmp (p_ne hr).ok (se_ix hr (se_var (i := 1)) se_int) (se_ix hr (se_var (i := 1)) se_int)))))) sb_nil)
    (sb_cons (ss_if (st_cmp (p_eq hr).ok (se_ix hr (se_var (i := 1)) se_int) se_str) (sb_one (ss_ret (se_cmp (p_eq hr).ok (se_len B (sa_cons (se_ix hr (se_var (i := 1)) se_int) sa_nil)) (se_var (i := 3))))) sb_nil)
    (sb_cons (ss_if (st_cmp (p_eq hr).ok (se_ix hr (se_var (i := 1)) se_int) se_str) (sb_one (ss_ret (se_chain c_le c_lt se_int (se_ix hr (se_var (i := 1)) se_int) (se_var (i := 3))))) sb_nil)
    (sb_one (ss_ret (se_if (st_cmp (p_eq hr).ok (se_ix hr (se_var (i := 1)) se_int) se_str) (se_chain c_le c_le se_int (se_ix hr (se_var (i := 1)) se_int) (se_var (i := 3))) (se_cmp c_le (se_ix hr (se_var (i := 1)) se_int) (se_var (i := 3))))))))))))
/-! ### without -/
abbrev s_without : Stmt := topS 31
theorem sc_without : FnScope ["heaps", "number", "late"] ["heaps", "number"] (defScope s_without) := ⟨rfl, rfl, rfl, by decide +kernel, rfl, by decide +kernel, by decide +kernel⟩
def b_without : Ev Fl :=
    (sRet (eDcomp (iK (pkVar 0)) (gN 2) (eB (e2 (kVw kNe0) (eVar 2) (eVar 1))) (eVar 2) (e2 kIx (eVar 0) (eVar 2)) [2]))
def r_without : List T → Sto → Res T := fnRun true 3 (b_without)
theorem ok_without (B : Blt mg)  (F0 : FunD K "without" "without" (defArgs s_without) (defBody s_without) (defScope s_without) [] [] f fd) : FnOk P w K mg base CX0 1 f fd ["heaps", "number"] (spRun mg true 2 (r_without)) := by
  have sc := sc_without
  refine fn_okN ["heaps", "number", "late"] ["heaps", "number"] true 0 3 2 (b_without) F0 sc rfl rfl ?_
  exact fun cdv A outer s H E hr =>
    (sb_one (ss_ret (se_dcompK [("late", 2)] sc.nd (lo_var (i := 0)) (fun _ _ _ _ _ => (sg_name (i := 2) sc.nd)) (fun _ _ _ _ _ => (sts_one (st_cmp (p_ne hr).ok (se_var (i := 2)) (se_var (i := 1))))) (fun _ _ _ _ _ => (se_var (i := 2))) (fun _ _ _ _ _ => (se_ix hr (se_var (i := 0)) (se_var (i := 2)))) (by first | (show blkC ["heaps", "number", "late"] (defScope s_without) _ _ = true; decide +kernel) | (show blkC ["heaps", "number", "late"] (relabel _ (envOfC "" (defScope s_without) 0 0 .none)) _ _ = true; decide +kernel)))))
/-! ### dealt -/
abbrev s_house_dealt : Stmt := topS 32
theorem sc_house_dealt : FnScope ["state", "act", "late", "at", "heap", "many", "begun", "place"] ["state", "act"] (defScope s_house_dealt) := ⟨rfl, rfl, rfl, by decide +kernel, rfl, by decide +kernel, by decide +kernel⟩
def b_house_dealt : Ev Fl :=
    (sSeq (sAsg (eTup (eCons (e2 kIx (e2 kIx (eVar 0) (eC (.str ⟨#[104, 101, 97, 112, 115]⟩))) (e2 kIx (eVar 1) (eC (.int 1)))) (eCons (e2 kIx (eVar 1) (eC (.int 2))) (eCons (e2 kIx (eVar 0) (eC (.str ⟨#[110, 101, 120, 116]⟩))) eNil)))) (gTup 3 (gCons (gN 4) (gCons (gN 5) (gCons (gN 6) gNil)))))
    (sSeq (sAsg (eNew (eCall 2 [] (r_without) (eCons (e2 kIx (eVar 0) (eC (.str ⟨#[104, 101, 97, 112, 115]⟩))) (eCons (e2 kIx (eVar 1) (eC (.int 1))) eNil)))) (gN 2))
    (sSeq (sFor (iRg1 (eVar 5)) (gN 3) (sAsg (e1 kRev (eComp (iRg3 (eVar 3) (eA kLen (eCons (eVar 4) eNil)) (eVar 5)) (gN 7) cYes (e2 kIx (eVar 4) (eVar 7)) [7])) (gAt (eVar 2) (e2 kAddI (eVar 6) (eVar 3)))))
    (sRet (eDisp [((eC (.str ⟨#[104, 101, 97, 112, 115]⟩)), (eFrz (eVar 2))), ((eC (.str ⟨#[110, 101, 120, 116]⟩)), (e2 kAddI (eVar 6) (eVar 5)))])))))
def r_house_dealt : List T → Sto → Res T := fnRun false 8 (b_house_dealt)
theorem ok_house_dealt (B : Blt mg) (C_without_0 : CallF P w K mg base 1 "without" true 2 [] (r_without)) (F0 : FunD K "dealt" "dealt" (defArgs s_house_dealt) (defBody s_house_dealt) (defScope s_house_dealt) [] [] f fd) : FnOk P w K mg base CX0 2 f fd ["state", "act"] (spRun mg false 2 (r_house_dealt)) := by
  have sc := sc_house_dealt
  refine fn_okN ["state", "act", "late", "at", "heap", "many", "begun", "place"] ["state", "act"] false 1 8 2 (b_house_dealt) F0 sc rfl rfl ?_
  exact fun cdv A outer s H E hr =>
    (sb_cons (ss_asg (se_tup (sa_cons (se_ix hr (se_ix hr (se_var (i := 0)) se_str) (se_ix hr (se_var (i := 1)) se_int)) (sa_cons (se_ix hr (se_var (i := 1)) se_int) (sa_cons (se_ix hr (se_var (i := 0)) se_str) sa_nil)))) (sg_tup (n := 3) (sgs_cons (sg_name (i := 4) sc.nd) (sgs_cons (sg_name (i := 5) sc.nd) (sgs_cons (sg_name (i := 6) sc.nd) sgs_nil)))))
    (sb_cons (ss_set (i := 2) sc.nd (SE.new (se_call C_without_0 (hr.mono (by decide)) (sa_cons (se_ix hr (se_var (i := 0)) se_str) (sa_cons (se_ix hr (se_var (i := 1)) se_int) sa_nil)))))
    (sb_cons (ss_for (si_range1 B (se_var (i := 5))) (sg_name (i := 3) sc.nd) (sb_one (ss_asg (SE.drop (se_rev (k := 0) (SE.drop (se_comp [("place", 7)] sc.nd (si_range3 B (se_var (i := 3)) (se_len B (sa_cons (se_var (i := 4)) sa_nil)) (se_var (i := 5))) (fun _ _ _ _ _ => (sg_name (i := 7) sc.nd)) (fun _ _ _ _ _ => sts_nil) (fun _ _ _ _ _ => (se_ix hr (se_var (i := 4)) (se_var (i := 7)))) (by first | (show blkC ["state", "act", "late", "at", "heap", "many", "begun", "place"] (defScope s_house_dealt) _ _ = true; decide +kernel) | (show blkC ["state", "act", "late", "at", "heap", "many", "begun", "place"] (relabel _ (envOfC "" (defScope s_house_dealt) 0 0 .none)) _ _ = true; decide +kernel)))))) (sg_at hr (se_var (i := 2)) (se_addI (se_var (i := 6)) (se_var (i := 3)))))))
    (sb_one (ss_ret (SE.drop (se_disp (sps_cons se_str (SE.frz (se_var (i := 2))) (sps_cons se_str (se_addI (se_var (i := 6)) (se_var (i := 5))) sps_nil)))))))))
/-! ### over_there -/
abbrev s_over_there : Stmt := topS 27
theorem sc_over_there : FnScope ["faced", "at", "card", "face"] ["faced", "at"] (defScope s_over_there) := ⟨rfl, rfl, rfl, by decide +kernel, rfl, by decide +kernel, by decide +kernel⟩
def b_over_there : Ev Fl :=
    (sRet (e2 kAddL (eComp (iLst (e1 kRev (eSl (eVar 0) eNone (ePart (eVar 1))))) (gTup 2 (gCons (gN 2) (gCons (gN 3) gNil))) cYes (eTup (eCons (eVar 2) (eCons (e2 kSub (eC (.int 1)) (eVar 3)) eNil))) [2, 3]) (eSl (eVar 0) (ePart (eVar 1)) eNone)))
def r_over_there : List T → Sto → Res T := fnRun false 4 (b_over_there)
theorem ok_over_there (B : Blt mg)  (F0 : FunD K "over_there" "over_there" (defArgs s_over_there) (defBody s_over_there) (defScope s_over_there) [] [] f fd) : FnOk P w K mg base CX0 1 f fd ["faced", "at"] (spRun mg false 2 (r_over_there)) := by
  have sc := sc_over_there
  refine fn_okN ["faced", "at", "card", "face"] ["faced", "at"] false 0 4 2 (b_over_there) F0 sc rfl rfl ?_
  exact fun cdv A outer s H E hr =>
    (sb_one (ss_ret (SE.drop (se_addL (SE.drop (se_comp [("card", 2), ("face", 3)] sc.nd (si_list (SE.drop (se_rev (k := 0) (SE.drop (se_sl (se_var (i := 0)) so_none (so_some (se_var (i := 1)))))))) (fun _ _ _ _ _ => (sg_tup (n := 2) (sgs_cons (sg_name (i := 2) sc.nd) (sgs_cons (sg_name (i := 3) sc.nd) sgs_nil)))) (fun _ _ _ _ _ => sts_nil) (fun _ _ _ _ _ => (se_tup (sa_cons (se_var (i := 2)) (sa_cons (se_sub se_int (se_var (i := 3))) sa_nil)))) (by first | (show blkC ["faced", "at", "card", "face"] (defScope s_over_there) _ _ = true; decide +kernel) | (show blkC ["faced", "at", "card", "face"] (relabel _ (envOfC "" (defScope s_over_there) 0 0 .none)) _ _ = true; decide +kernel)))) (SE.drop (se_sl (se_var (i := 0)) (so_some (se_var (i := 1))) so_none))))))
/-! ### changed -/
abbrev s_changed : Stmt := topS 34
theorem sc_changed : FnScope ["heap", "act", "place"] ["heap", "act"] (defScope s_changed) := ⟨rfl, rfl, rfl, by decide +kernel, rfl, by decide +kernel, by decide +kernel⟩
def b_changed : Ev Fl :=
    (sSeq (sIf (eB (e2 (kVw kEq0) (e2 kIx (eVar 1) (eC (.int 0))) (eC (.str ⟨#[99, 117, 116]⟩)))) (sRet (e2 kAddL (eSl (eVar 0) (ePart (e2 kIx (eVar 1) (eC (.int 2)))) eNone) (eSl (eVar 0) eNone (ePart (e2 kIx (eVar 1) (eC (.int 2))))))) sNil)
    (sSeq (sIf (eB (e2 (kVw kEq0) (e2 kIx (eVar 1) (eC (.int 0))) (eC (.str ⟨#[116, 117, 114, 110]⟩)))) (sRet (eCall 2 [] (r_over_there) (eCons (eVar 0) (eCons (e2 kIx (eVar 1) (eC (.int 2))) eNil)))) sNil)
    (sRet (eComp (iLst (e2 kIx (eVar 1) (eC (.int 2)))) (gN 2) cYes (e2 kIx (eVar 0) (eVar 2)) [2]))))
def r_changed : List T → Sto → Res T := fnRun false 3 (b_changed)
theorem ok_changed (B : Blt mg) (C_over_there_0 : CallF P w K mg base 1 "over_there" false 2 [] (r_over_there)) (F0 : FunD K "changed" "changed" (defArgs s_changed) (defBody s_changed) (defScope s_changed) [] [] f fd) : FnOk P w K mg base CX0 2 f fd ["heap", "act"] (spRun mg false 2 (r_changed)) := by
  have sc := sc_changed
  refine fn_okN ["heap", "act", "place"] ["heap", "act"] false 1 3 2 (b_changed) F0 sc rfl rfl ?_
  exact fun cdv A outer s H E hr =>
    (sb_cons (ss_if (st_cmp (p_eq hr).ok (se_ix hr (se_var (i := 1)) se_int) se_str) (sb_one (ss_ret (SE.drop (se_addL (SE.drop (se_sl (se_var (i := 0)) (so_some (se_ix hr (se_var (i := 1)) se_int)) so_none)) (SE.drop (se_sl (se_var (i := 0)) so_none (so_some (se_ix hr (se_var (i := 1)) se_int)))))))) sb_nil)
    (sb_cons (ss_if (st_cmp (p_eq hr).ok (se_ix hr (se_var (i := 1)) se_int) se_str) (sb_one (ss_ret (se_call C_over_there_0 (hr.mono (by decide)) (sa_cons (se_var (i := 0)) (sa_cons (se_ix hr (se_var (i := 1)) se_int) sa_nil))))) sb_nil)
    (sb_one (ss_ret (SE.drop (se_comp [("place", 2)] sc.nd (si_list (se_ix hr (se_var (i := 1)) se_int)) (fun _ _ _ _ _ => (sg_name (i := 2) sc.nd)) (fun _ _ _ _ _ => sts_nil) (fun _ _ _ _ _ => (se_ix hr (se_var (i := 0)) (se_var (i := 2)))) (by first | (show blkC ["heap", "act", "place"] (defScope s_changed) _ _ = true; decide +kernel) | (show blkC ["heap", "act", "place"] (relabel _ (envOfC "" (defScope s_changed) 0 0 .none)) _ _ = true; decide +kernel))))))))
/-! ### moved -/
abbrev s_house_moved : Stmt := topS 35
theorem sc_house_moved : FnScope ["state", "act", "heap", "heaps", "begun", "late"] ["state", "act"] (defScope s_house_moved) := ⟨rfl, rfl, rfl, by decide +kernel, rfl, by decide +kernel, by decide +kernel⟩
def b_house_moved : Ev Fl :=
    (sSeq (sPar 3 4 (eCons (e2 kIx (eVar 0) (eC (.str ⟨#[104, 101, 97, 112, 115]⟩))) (eCons (e2 kIx (eVar 0) (eC (.str ⟨#[110, 101, 120, 116]⟩))) eNil)))
    (sSeq (sIf (eB (e2 (kVw kEq0) (e2 kIx (eVar 1) (eC (.int 0))) (eC (.str ⟨#[100, 101, 97, 108]⟩)))) (sRet (eCall 2 [] (r_house_dealt) (eCons (eVar 0) (eCons (eVar 1) eNil)))) sNil)
    (sSeq (sIf (eB (e2 (kVw kEq0) (e2 kIx (eVar 1) (eC (.int 0))) (eC (.str ⟨#[106, 111, 105, 110]⟩)))) (sSeq (sAsg (eNew (eCall 2 [] (r_without) (eCons (eVar 3) (eCons (e2 kIx (eVar 1) (eC (.int 1))) eNil)))) (gN 5))
    (sSeq (sAsg (e2 kAddL (e2 kIx (eVar 3) (e2 kIx (eVar 1) (eC (.int 1)))) (e2 kIx (eVar 3) (e2 kIx (eVar 1) (eC (.int 2))))) (gAt (eVar 5) (e2 kIx (eVar 1) (eC (.int 2)))))
    (sRet (eDisp [((eC (.str ⟨#[104, 101, 97, 112, 115]⟩)), (eFrz (eVar 5))), ((eC (.str ⟨#[110, 101, 120, 116]⟩)), (eVar 4))])))) sNil)
    (sSeq (sAsg (e2 kIx (eVar 3) (e2 kIx (eVar 1) (eC (.int 1)))) (gN 2))
    (sSeq (sIf (eB (e2 (kVw kEq0) (e2 kIx (eVar 1) (eC (.int 0))) (eC (.str ⟨#[115, 112, 108, 105, 116]⟩)))) (sRet (eDisp [((eC (.str ⟨#[104, 101, 97, 112, 115]⟩)), eStuck), ((eC (.str ⟨#[110, 101, 120, 116]⟩)), (e2 kAddI (eVar 4) (eC (.int 1))))])) sNil)
    (sRet (eDisp [((eC (.str ⟨#[104, 101, 97, 112, 115]⟩)), (eDStar (eVar 3) [((e2 kIx (eVar 1) (eC (.int 1))), (eCall 2 [] (r_changed) (eCons (eVar 2) (eCons (eVar 1) eNil))))])), ((eC (.str ⟨#[110, 101, 120, 116]⟩)), (eVar 4))])))))))
def r_house_moved : List T → Sto → Res T := fnRun false 6 (b_house_moved)
theorem ok_house_moved (B : Blt mg) (C_dealt_house_0 : CallF P w K mg base 2 "dealt_house" false 2 [] (r_house_dealt)) (C_without_0 : CallF P w K mg base 1 "without" true 2 [] (r_without)) (C_changed_0 : CallF P w K mg base 2 "changed" false 2 [] (r_changed)) (F0 : FunD K "moved" "moved" (defArgs s_house_moved) (defBody s_house_moved) (defScope s_house_moved) [] [] f fd) : FnOk P w K mg base CX0 3 f fd ["state", "act"] (spRun mg false 2 (r_house_moved)) := by
  have sc := sc_house_moved
  refine fn_okN ["state", "act", "heap", "heaps", "begun", "late"] ["state", "act"] false 2 6 2 (b_house_moved) F0 sc rfl rfl ?_
  exact fun cdv A outer s H E hr =>
    (sb_cons (ss_par (i := 3) (j := 4) sc.nd (sa_cons (se_ix hr (se_var (i := 0)) se_str) (sa_cons (se_ix hr (se_var (i := 0)) se_str) sa_nil)))
    (sb_cons (ss_if (st_cmp (p_eq hr).ok (se_ix hr (se_var (i := 1)) se_int) se_str) (sb_one (ss_ret (se_call C_dealt_house_0 (hr.mono (by decide)) (sa_cons (se_var (i := 0)) (sa_cons (se_var (i := 1)) sa_nil))))) sb_nil)
    (sb_cons (ss_if (st_cmp (p_eq hr).ok (se_ix hr (se_var (i := 1)) se_int) se_str) (sb_cons (ss_set (i := 5) sc.nd (SE.new (se_call C_without_0 (hr.mono (by decide)) (sa_cons (se_var (i := 3)) (sa_cons (se_ix hr (se_var (i := 1)) se_int) sa_nil)))))
    (sb_cons (ss_asg (SE.drop (se_addL (se_ix hr (se_var (i := 3)) (se_ix hr (se_var (i := 1)) se_int)) (se_ix hr (se_var (i := 3)) (se_ix hr (se_var (i := 1)) se_int)))) (sg_at hr (se_var (i := 5)) (se_ix hr (se_var (i := 1)) se_int)))
    (sb_one (ss_ret (SE.drop (se_disp (sps_cons se_str (SE.frz (se_var (i := 5))) (sps_cons se_str (se_var (i := 4)) sps_nil)))))))) sb_nil)
    (sb_cons (ss_set (i := 2) sc.nd (se_ix hr (se_var (i := 3)) (se_ix hr (se_var (i := 1)) se_int)))
    (sb_cons (ss_if (st_cmp (p_eq hr).ok (se_ix hr (se_var (i := 1)) se_int) se_str) (sb_one (ss_ret (SE.drop (se_disp (sps_cons se_str se_never (sps_cons se_str (se_addI (se_var (i := 4)) se_int) sps_nil)))))) sb_nil)
    (sb_one (ss_ret (SE.drop (se_disp (sps_cons se_str (SE.drop (se_dstar (se_var (i := 3)) (sps_cons (se_ix hr (se_var (i := 1)) se_int) (se_call C_changed_0 (hr.mono (by decide)) (sa_cons (se_var (i := 2)) (sa_cons (se_var (i := 1)) sa_nil))) sps_nil))) (sps_cons se_str (se_var (i := 4)) sps_nil)))))))))))
/-! ### acted -/
abbrev s_acted : Stmt := topS 37
theorem sc_acted : FnScope ["state", "act", "late", "heaps", "other", "number"] ["state", "act"] (defScope s_acted) := ⟨rfl, rfl, rfl, by decide +kernel, rfl, by decide +kernel, by decide +kernel⟩
def b_acted : Ev Fl :=
    (sSeq (sAsg (eCall 2 [] (r_house_moved) (eCons (eVar 0) (eCons (eVar 1) eNil))) (gN 2))
    (sSeq (sIf (eB (e2 (kVw kEq0) (e2 kIx (eVar 2) (eC (.str ⟨#[104, 101, 97, 112, 115]⟩))) (e2 kIx (eVar 0) (eC (.str ⟨#[104, 101, 97, 112, 115]⟩))))) (sRet (eTup (eCons (eVar 0) (eCons (eTup (eCons (eC (.str ⟨#[105, 100, 108, 101]⟩)) eNil)) eNil)))) sNil)
    (sSeq (sAsg (eDcomp (iLst (eA kSorted (eCons (e2 kIx (eVar 2) (eC (.str ⟨#[104, 101, 97, 112, 115]⟩))) eNil))) (gN 5) cYes (eVar 5) (e2 kIx (e2 kIx (eVar 2) (eC (.str ⟨#[104, 101, 97, 112, 115]⟩))) (eVar 5)) [5]) (gN 3))
    (sSeq (sAsg (eComp (iK (pkVar 3)) (gN 5) (eB (e2 (kVw kNe0) (eGet (e2 kIx (eVar 0) (eC (.str ⟨#[104, 101, 97, 112, 115]⟩))) (eVar 5)) (e2 kIx (eVar 3) (eVar 5)))) (eVar 5) [5]) (gN 4))
    (sRet (eTup (eCons (eDisp [((eC (.str ⟨#[104, 101, 97, 112, 115]⟩)), (eVar 3)), ((eC (.str ⟨#[110, 101, 120, 116]⟩)), (e2 kIx (eVar 2) (eC (.str ⟨#[110, 101, 120, 116]⟩)))), ((eC (.str ⟨#[109, 97, 110, 121]⟩)), (e2 kIx (eVar 0) (eC (.str ⟨#[109, 97, 110, 121]⟩))))]) (eCons (eTup (eCons (eC (.str ⟨#[100, 111, 110, 101]⟩)) (eCons (eVar 4) eNil))) eNil))))))))
def r_acted : List T → Sto → Res T := fnRun false 6 (b_acted)
theorem ok_acted (B : Blt mg) (C_moved_house_0 : CallF P w K mg base 3 "moved_house" false 2 [] (r_house_moved)) (F0 : FunD K "acted" "acted" (defArgs s_acted) (defBody s_acted) (defScope s_acted) [] [] f fd) : FnOk P w K mg base CX0 4 f fd ["state", "act"] (spRun mg false 2 (r_acted)) := by
  have sc := sc_acted
  refine fn_okN ["state", "act", "late", "heaps", "other", "number"] ["state", "act"] false 3 6 2 (b_acted) F0 sc rfl rfl ?_
  exact fun cdv A outer s H E hr =>
    (sb_cons (ss_set (i := 2) sc.nd (se_call C_moved_house_0 (hr.mono (by decide)) (sa_cons (se_var (i := 0)) (sa_cons (se_var (i := 1)) sa_nil))))
    (sb_cons (ss_if (st_cmp (p_eq hr).ok (se_ix hr (se_var (i := 2)) se_str) (se_ix hr (se_var (i := 0)) se_str)) (sb_one (ss_ret (se_tup (sa_cons (se_var (i := 0)) (sa_cons (se_tup (sa_cons se_str sa_nil)) sa_nil))))) sb_nil)
    (sb_cons (ss_set (i := 3) sc.nd (SE.drop (se_dcomp [("number", 5)] sc.nd (si_list (SE.drop (se_sorted B (sa_cons (se_ix hr (se_var (i := 2)) se_str) sa_nil)))) (fun _ _ _ _ _ => (sg_name (i := 5) sc.nd)) (fun _ _ _ _ _ => sts_nil) (fun _ _ _ _ _ => (se_var (i := 5))) (fun _ _ _ _ _ => (se_ix hr (se_ix hr (se_var (i := 2)) se_str) (se_var (i := 5)))) (by first | (show blkC ["state", "act", "late", "heaps", "other", "number"] (defScope s_acted) _ _ = true; decide +kernel) | (show blkC ["state", "act", "late", "heaps", "other", "number"] (relabel _ (envOfC "" (defScope s_acted) 0 0 .none)) _ _ = true; decide +kernel)))))
    (sb_cons (ss_setLcK (i := 4) [("number", 5)] sc.nd (lo_var (i := 3)) (fun _ _ _ _ _ => (sg_name (i := 5) sc.nd)) (fun _ _ _ _ _ => (sts_one (st_cmp (p_ne hr).ok (se_get1 hr (se_ix hr (se_var (i := 0)) se_str) (se_var (i := 5))) (se_ix hr (se_var (i := 3)) (se_var (i := 5)))))) (fun _ _ _ _ _ => (se_var (i := 5))) (ok := (by first | (show blkC ["state", "act", "late", "heaps", "other", "number"] (defScope s_acted) _ _ = true; decide +kernel) | (show blkC ["state", "act", "late", "heaps", "other", "number"] (relabel _ (envOfC "" (defScope s_acted) 0 0 .none)) _ _ = true; decide +kernel))))
    (sb_one (ss_ret (se_tup (sa_cons (SE.drop (se_disp (sps_cons se_str (se_var (i := 3)) (sps_cons se_str (se_ix hr (se_var (i := 2)) se_str) (sps_cons se_str (se_ix hr (se_var (i := 0)) se_str) sps_nil))))) (sa_cons (se_tup (sa_cons se_str (sa_cons (se_var (i := 4)) sa_nil))) sa_nil)))))))))
/-! ### House.__init__ -/
abbrev s_House___init__ : Stmt := inClass (topS 38) 0
theorem sc_House___init__ : FnScope ["self", "many", "card"] ["self", "many"] (defScope s_House___init__) := ⟨rfl, rfl, rfl, by decide +kernel, rfl, by decide +kernel, by decide +kernel⟩
def b_House___init__ : Ev Fl :=
    (sSeq (sIf (eNot (eB (eCall 2 [] (r_is_count) (eCons (eVar 1) (eCons (eC (.int 1)) eNil))))) eStuck sNil)
    (sSeq (sFld ⟨#[72, 111, 117, 115, 101]⟩ ⟨#[114, 111, 119]⟩ (eVar 0) (eLst (eCons (eTup (eCons (eC .non) (eCons (eDisp [((eC (.str ⟨#[104, 101, 97, 112, 115]⟩)), (eDisp [((eC (.int 0)), (eComp (iRg1 (eVar 1)) (gN 2) cYes (eTup (eCons (eVar 2) (eCons (eC (.int 0)) eNil))) [2]))])), ((eC (.str ⟨#[110, 101, 120, 116]⟩)), (eC (.int 1))), ((eC (.str ⟨#[109, 97, 110, 121]⟩)), (eVar 1))]) (eCons (eC .non) eNil)))) eNil)))
    (sFld ⟨#[72, 111, 117, 115, 101]⟩ ⟨#[97, 116]⟩ (eVar 0) (eC (.int 0)))))
def r_House___init__ : List T → Sto → Res T := fnRun false 3 (b_House___init__)
theorem ok_House___init__ (B : Blt mg) (C_is_count_0 : CallF P w K mg base 2 "is_count" false 2 [] (r_is_count)) (K_House : ClsF K mg "House" ["row", "at"]) (F0 : FunD K "__init__" "House.__init__" (defArgs s_House___init__) (defBody s_House___init__) (defScope s_House___init__) [] [] f fd) : FnOk P w K mg base CX0 3 f fd ["self", "many"] (spRun mg false 2 (r_House___init__)) := by
  have sc := sc_House___init__
  refine fn_okN ["self", "many", "card"] ["self", "many"] false 2 3 2 (b_House___init__) F0 sc rfl rfl ?_
  exact fun cdv A outer s H E hr =>
    (sb_cons (ss_if (st_not (st_val (se_call C_is_count_0 (hr.mono (by decide)) (sa_cons (se_var (i := 1)) (sa_cons se_int sa_nil))))) (sb_one ss_never) sb_nil)
    (sb_cons (ss_fld K_House (se_var (i := 0)) (SE.drop (se_lst (sa_cons (se_tup (sa_cons se_non (sa_cons (SE.drop (se_disp (sps_cons se_str (SE.drop (se_disp (sps_cons se_int (SE.drop (se_comp [("card", 2)] sc.nd (si_range1 B (se_var (i := 1))) (fun _ _ _ _ _ => (sg_name (i := 2) sc.nd)) (fun _ _ _ _ _ => sts_nil) (fun _ _ _ _ _ => (se_tup (sa_cons (se_var (i := 2)) (sa_cons se_int sa_nil)))) (by first | (show blkC ["self", "many", "card"] (defScope s_House___init__) _ _ = true; decide +kernel) | (show blkC ["self", "many", "card"] (relabel _ (envOfC "" (defScope s_House___init__) 0 0 .none)) _ _ = true; decide +kernel)))) sps_nil))) (sps_cons se_str se_int (sps_cons se_str (se_var (i := 1)) sps_nil))))) (sa_cons se_non sa_nil)))) sa_nil))))
    (sb_one (ss_fld K_House (se_var (i := 0)) se_int))))
/-! ### House.state -/
abbrev s_House_state : Stmt := inClass (topS 38) 1
theorem sc_House_state : FnScope ["self"] ["self"] (defScope s_House_state) := ⟨rfl, rfl, rfl, by decide +kernel, rfl, by decide +kernel, by decide +kernel⟩
def b_House_state : Ev Fl :=
    (sRet (e2 kIx (e2 kIx (e1 (kFld ⟨#[72, 111, 117, 115, 101]⟩ ⟨#[114, 111, 119]⟩) (eVar 0)) (e1 (kFld ⟨#[72, 111, 117, 115, 101]⟩ ⟨#[97, 116]⟩) (eVar 0))) (eC (.int 1))))
def r_House_state : List T → Sto → Res T := fnRun false 1 (b_House_state)
theorem ok_House_state (B : Blt mg) (K_House : ClsF K mg "House" ["row", "at"]) (F0 : FunD K "state" "House.state" (defArgs s_House_state) (defBody s_House_state) (defScope s_House_state) [] [] f fd) : FnOk P w K mg base CX0 1 f fd ["self"] (spRun mg false 1 (r_House_state)) := by
  have sc := sc_House_state
  refine fn_okN ["self"] ["self"] false 0 1 1 (b_House_state) F0 sc rfl rfl ?_
  exact fun cdv A outer s H E hr =>
    (sb_one (ss_ret (se_ix hr (se_ix hr (se_attr K_House (se_var (i := 0))) (se_attr K_House (se_var (i := 0)))) se_int)))
/-! ### House.do -/
abbrev s_House_do : Stmt := inClass (topS 38) 2
theorem sc_House_do : FnScope ["self", "act", "late", "answer"] ["self", "act"] (defScope s_House_do) := ⟨rfl, rfl, rfl, by decide +kernel, rfl, by decide +kernel, by decide +kernel⟩
def b_House_do : Ev Fl :=
    (sSeq (sIf (eOr (eNot (eB (eCall 1 [] (r_is_act) (eCons (eVar 1) eNil)))) (eNot (eB (eCall 2 [] (r_fits) (eCons (eMeth ⟨#[72, 111, 117, 115, 101]⟩ ⟨#[115, 116, 97, 116, 101]⟩ 1 [] r_House_state (eVar 0) eNil) (eCons (eVar 1) eNil)))))) eStuck sNil)
    (sSeq (sAsg (eCall 2 [] (r_acted) (eCons (eMeth ⟨#[72, 111, 117, 115, 101]⟩ ⟨#[115, 116, 97, 116, 101]⟩ 1 [] r_House_state (eVar 0) eNil) (eCons (eVar 1) eNil))) (gTup 2 (gCons (gN 2) (gCons (gN 3) gNil))))
    (sSeq (sFld ⟨#[72, 111, 117, 115, 101]⟩ ⟨#[114, 111, 119]⟩ (eVar 0) (e2 kAddL (eSl (e1 (kFld ⟨#[72, 111, 117, 115, 101]⟩ ⟨#[114, 111, 119]⟩) (eVar 0)) eNone (ePart (e2 kAddI (e1 (kFld ⟨#[72, 111, 117, 115, 101]⟩ ⟨#[97, 116]⟩) (eVar 0)) (eC (.int 1))))) (eLst (eCons (eTup (eCons (eCall 1 [] (r_copied 5) (eCons (eVar 1) eNil)) (eCons (eVar 2) (eCons (eVar 3) eNil)))) eNil))))
    (sSeq (sFld ⟨#[72, 111, 117, 115, 101]⟩ ⟨#[97, 116]⟩ (eVar 0) (e2 kAddI (e1 (kFld ⟨#[72, 111, 117, 115, 101]⟩ ⟨#[97, 116]⟩) (eVar 0)) (eC (.int 1))))
    (sRet (eCall 1 [] (r_copied 5) (eCons (eVar 3) eNil)))))))
def r_House_do : List T → Sto → Res T := fnRun false 4 (b_House_do)
theorem ok_House_do (B : Blt mg) (C_is_act_0 : CallF P w K mg base 4 "is_act" false 1 [] (r_is_act)) (C_fits_0 : CallF P w K mg base 1 "fits" false 2 [] (r_fits)) (M_House_state : MethF P w K mg base 1 "House" "state" false 1 [] r_House_state) (C_acted_0 : CallF P w K mg base 4 "acted" false 2 [] (r_acted)) (K_House : ClsF K mg "House" ["row", "at"]) (C_copied_0 : CallF P w K mg base 6 "copied" false 1 [] (r_copied 5)) (F0 : FunD K "do" "House.do" (defArgs s_House_do) (defBody s_House_do) (defScope s_House_do) [] [] f fd) : FnOk P w K mg base CX0 7 f fd ["self", "act"] (spRun mg false 2 (r_House_do)) := by
  have sc := sc_House_do
  refine fn_okN ["self", "act", "late", "answer"] ["self", "act"] false 6 4 2 (b_House_do) F0 sc rfl rfl ?_
  exact fun cdv A outer s H E hr =>
    (sb_cons (ss_if (SW.st (sw_or (st_not (st_val (se_call C_is_act_0 (hr.mono (by decide)) (sa_cons (se_var (i := 1)) sa_nil)))) (ST.or1 (st_not (st_val (se_call C_fits_0 (hr.mono (by decide)) (sa_cons (se_meth0 M_House_state (hr.mono (by decide)) (se_var (i := 0))) (sa_cons (se_var (i := 1)) sa_nil)))))))) (sb_one ss_never) sb_nil)
    (sb_cons (ss_asg (se_call C_acted_0 (hr.mono (by decide)) (sa_cons (se_meth0 M_House_state (hr.mono (by decide)) (se_var (i := 0))) (sa_cons (se_var (i := 1)) sa_nil))) (sg_tup (n := 2) (sgs_cons (sg_name (i := 2) sc.nd) (sgs_cons (sg_name (i := 3) sc.nd) sgs_nil))))
    (sb_cons (ss_fld K_House (se_var (i := 0)) (SE.drop (se_addL (SE.drop (se_sl (se_attr K_House (se_var (i := 0))) so_none (so_some (se_addI (se_attr K_House (se_var (i := 0))) se_int)))) (SE.drop (se_lst (sa_cons (se_tup (sa_cons (se_call C_copied_0 (hr.mono (by decide)) (sa_cons (se_var (i := 1)) sa_nil)) (sa_cons (se_var (i := 2)) (sa_cons (se_var (i := 3)) sa_nil)))) sa_nil))))))
    (sb_cons (ss_fld K_House (se_var (i := 0)) (se_addI (se_attr K_House (se_var (i := 0))) se_int))
    (sb_one (ss_ret (se_call C_copied_0 (hr.mono (by decide)) (sa_cons (se_var (i := 3)) sa_nil))))))))
/-! ### House.heaps -/
abbrev s_House_heaps : Stmt := inClass (topS 38) 7
theorem sc_House_heaps : FnScope ["self"] ["self"] (defScope s_House_heaps) := ⟨rfl, rfl, rfl, by decide +kernel, rfl, by decide +kernel, by decide +kernel⟩
def b_House_heaps : Ev Fl :=
    (sRet (eCall 1 [] (r_copied 5) (eCons (e2 kIx (eMeth ⟨#[72, 111, 117, 115, 101]⟩ ⟨#[115, 116, 97, 116, 101]⟩ 1 [] r_House_state (eVar 0) eNil) (eC (.str ⟨#[104, 101, 97, 112, 115]⟩))) eNil)))
def r_House_heaps : List T → Sto → Res T := fnRun false 1 (b_House_heaps)
theorem ok_House_heaps (B : Blt mg) (C_copied_0 : CallF P w K mg base 6 "copied" false 1 [] (r_copied 5)) (M_House_state : MethF P w K mg base 1 "House" "state" false 1 [] r_House_state) (F0 : FunD K "heaps" "House.heaps" (defArgs s_House_heaps) (defBody s_House_heaps) (defScope s_House_heaps) [] [] f fd) : FnOk P w K mg base CX0 7 f fd ["self"] (spRun mg false 1 (r_House_heaps)) := by
  have sc := sc_House_heaps
  refine fn_okN ["self"] ["self"] false 6 1 1 (b_House_heaps) F0 sc rfl rfl ?_
  exact fun cdv A outer s H E hr =>
    (sb_one (ss_ret (se_call C_copied_0 (hr.mono (by decide)) (sa_cons (se_ix hr (se_meth0 M_House_state (hr.mono (by decide)) (se_var (i := 0))) se_str) sa_nil))))
/-! ### check_house -/
abbrev s_check_house : Stmt := topS 39
theorem sc_check_house : FnScope ["value"] ["value"] (defScope s_check_house) := ⟨rfl, rfl, rfl, by decide +kernel, rfl, by decide +kernel, by decide +kernel⟩
def b_check_house : Ev Fl :=
    (sIf (eNot (eB (e1 (kIsO ⟨#[72, 111, 117, 115, 101]⟩) (eVar 0)))) eStuck sNil)
def r_check_house : List T → Sto → Res T := fnRun false 1 (b_check_house)
theorem ok_check_house (B : Blt mg) (K_House : ClsF K mg "House" ["row", "at"]) (F0 : FunD K "check_house" "check_house" (defArgs s_check_house) (defBody s_check_house) (defScope s_check_house) [] [] f fd) : FnOk P w K mg base CX0 1 f fd ["value"] (spRun mg false 1 (r_check_house)) := by
  have sc := sc_check_house
  refine fn_okN ["value"] ["value"] false 0 1 1 (b_check_house) F0 sc rfl rfl ?_
  exact fun cdv A outer s H E hr =>
    (sb_one (ss_if (st_not (st_val (se_isiO B K_House (se_var (i := 0))))) (sb_one ss_never) sb_nil))
/-! ### cut_there -/
abbrev s_cut_there : Stmt := topS 41
theorem sc_cut_there : FnScope ["pack", "by", "at"] ["pack", "by"] (defScope s_cut_there) := ⟨rfl, rfl, rfl, by decide +kernel, rfl, by decide +kernel, by decide +kernel⟩
def b_cut_there : Ev Fl :=
    (sSeq (sAsg (eIf (eB (e2 (kVw kNe0) (eVar 0) (eLst eNil))) (e2 kMod (eVar 1) (eA kLen (eCons (eVar 0) eNil))) (eC (.int 0))) (gN 2))
    (sRet (e2 kAddL (eSl (eVar 0) (ePart (eVar 2)) eNone) (eSl (eVar 0) eNone (ePart (eVar 2))))))
def r_cut_there : List T → Sto → Res T := fnRun false 3 (b_cut_there)
theorem ok_cut_there (B : Blt mg)  (F0 : FunD K "cut_there" "cut_there" (defArgs s_cut_there) (defBody s_cut_there) (defScope s_cut_there) [] [] f fd) : FnOk P w K mg base CX0 1 f fd ["pack", "by"] (spRun mg false 2 (r_cut_there)) := by
  have sc := sc_cut_there
  refine fn_okN ["pack", "by", "at"] ["pack", "by"] false 0 3 2 (b_cut_there) F0 sc rfl rfl ?_
  exact fun cdv A outer s H E hr =>
    (sb_cons (ss_set (i := 2) sc.nd (se_if (st_cmp (p_ne hr).ok (se_var (i := 0)) (SE.drop (se_lst sa_nil))) (se_mod (se_var (i := 1)) (se_len B (sa_cons (se_var (i := 0)) sa_nil))) se_int))
    (sb_one (ss_ret (SE.drop (se_addL (SE.drop (se_sl (se_var (i := 0)) (so_some (se_var (i := 2))) so_none)) (SE.drop (se_sl (se_var (i := 0)) so_none (so_some (se_var (i := 2))))))))))
/-! ### cut_by -/
abbrev s_cut_by : Stmt := topS 42
theorem sc_cut_by : FnScope ["pack", "by"] ["pack", "by"] (defScope s_cut_by) := ⟨rfl, rfl, rfl, by decide +kernel, rfl, by decide +kernel, by decide +kernel⟩
def b_cut_by : Ev Fl :=
    (sSeq (sExpr (eCall 1 [] (r_check_pack) (eCons (eVar 0) eNil)))
    (sSeq (sIf (eNot (eB (eCall 1 [] (r_is_whole) (eCons (eVar 1) eNil)))) eStuck sNil)
    (sRet (eCall 2 [] (r_cut_there) (eCons (eVar 0) (eCons (eVar 1) eNil))))))
def r_cut_by : List T → Sto → Res T := fnRun false 2 (b_cut_by)
theorem ok_cut_by (B : Blt mg) (C_check_pack_0 : CallF P w K mg base 4 "check_pack" false 1 [] (r_check_pack)) (C_is_whole_0 : CallF P w K mg base 1 "is_whole" false 1 [] (r_is_whole)) (C_cut_there_0 : CallF P w K mg base 1 "cut_there" false 2 [] (r_cut_there)) (F0 : FunD K "cut_by" "cut_by" (defArgs s_cut_by) (defBody s_cut_by) (defScope s_cut_by) [] [] f fd) : FnOk P w K mg base CX0 5 f fd ["pack", "by"] (spRun mg false 2 (r_cut_by)) := by
  have sc := sc_cut_by
  refine fn_okN ["pack", "by"] ["pack", "by"] false 4 2 2 (b_cut_by) F0 sc rfl rfl ?_
  exact fun cdv A outer s H E hr =>
    (sb_cons (ss_expr (se_call C_check_pack_0 (hr.mono (by decide)) (sa_cons (se_var (i := 0)) sa_nil)))
    (sb_cons (ss_if (st_not (st_val (se_call C_is_whole_0 (hr.mono (by decide)) (sa_cons (se_var (i := 1)) sa_nil)))) (sb_one ss_never) sb_nil)
    (sb_one (ss_ret (se_call C_cut_there_0 (hr.mono (by decide)) (sa_cons (se_var (i := 0)) (sa_cons (se_var (i := 1)) sa_nil)))))))
/-! ### check_many -/
abbrev s_deals_check_many : Stmt := topS 46
theorem sc_deals_check_many : FnScope ["many"] ["many"] (defScope s_deals_check_many) := ⟨rfl, rfl, rfl, by decide +kernel, rfl, by decide +kernel, by decide +kernel⟩
def b_deals_check_many : Ev Fl :=
    (sIf (eNot (eB (eCall 2 [.int 0] (r_is_count) (eCons (eVar 0) eNil)))) eStuck sNil)
def r_deals_check_many : List T → Sto → Res T := fnRun false 1 (b_deals_check_many)
theorem ok_deals_check_many (B : Blt mg) (C_is_count_1 : CallF P w K mg base 2 "is_count" false 2 [.int 0] (r_is_count)) (F0 : FunD K "check_many" "check_many" (defArgs s_deals_check_many) (defBody s_deals_check_many) (defScope s_deals_check_many) [] [] f fd) : FnOk P w K mg base CX0 3 f fd ["many"] (spRun mg false 1 (r_deals_check_many)) := by
  have sc := sc_deals_check_many
  refine fn_okN ["many"] ["many"] false 2 1 1 (b_deals_check_many) F0 sc rfl rfl ?_
  exact fun cdv A outer s H E hr =>
    (sb_one (ss_if (st_not (st_val (se_call C_is_count_1 (hr.mono (by decide)) (sa_cons (se_var (i := 0)) sa_nil) (fun _ => .cons (.int 0) .nil)))) (sb_one ss_never) sb_nil))
/-! ### check_heaps -/
abbrev s_check_heaps : Stmt := topS 48
theorem sc_check_heaps : FnScope ["heaps"] ["heaps"] (defScope s_check_heaps) := ⟨rfl, rfl, rfl, by decide +kernel, rfl, by decide +kernel, by decide +kernel⟩
def b_check_heaps : Ev Fl :=
    (sIf (eNot (eB (eCall 2 [] (r_is_count) (eCons (eVar 0) (eCons (eC (.int 1)) eNil))))) eStuck sNil)
def r_check_heaps : List T → Sto → Res T := fnRun false 1 (b_check_heaps)
theorem ok_check_heaps (B : Blt mg) (C_is_count_0 : CallF P w K mg base 2 "is_count" false 2 [] (r_is_count)) (F0 : FunD K "check_heaps" "check_heaps" (defArgs s_check_heaps) (defBody s_check_heaps) (defScope s_check_heaps) [] [] f fd) : FnOk P w K mg base CX0 3 f fd ["heaps"] (spRun mg false 1 (r_check_heaps)) := by
  have sc := sc_check_heaps
  refine fn_okN ["heaps"] ["heaps"] false 2 1 1 (b_check_heaps) F0 sc rfl rfl ?_
  exact fun cdv A outer s H E hr =>
    (sb_one (ss_if (st_not (st_val (se_call C_is_count_0 (hr.mono (by decide)) (sa_cons (se_var (i := 0)) (sa_cons se_int sa_nil))))) (sb_one ss_never) sb_nil))
/-! ### heaps_there -/
abbrev s_heaps_there : Stmt := topS 49
theorem sc_heaps_there : FnScope ["pack", "heaps", "first"] ["pack", "heaps"] (defScope s_heaps_there) := ⟨rfl, rfl, rfl, by decide +kernel, rfl, by decide +kernel, by decide +kernel⟩
def b_heaps_there : Ev Fl :=
    (sRet (eComp (iRg1 (eVar 1)) (gN 2) cYes (e1 kRev (eSlSt (eVar 0) (ePart (eVar 2)) eNone (ePart (eVar 1)))) [2]))
def r_heaps_there : List T → Sto → Res T := fnRun false 3 (b_heaps_there)
theorem ok_heaps_there (B : Blt mg)  (F0 : FunD K "heaps_there" "heaps_there" (defArgs s_heaps_there) (defBody s_heaps_there) (defScope s_heaps_there) [] [] f fd) : FnOk P w K mg base CX0 1 f fd ["pack", "heaps"] (spRun mg false 2 (r_heaps_there)) := by
  have sc := sc_heaps_there
  refine fn_okN ["pack", "heaps", "first"] ["pack", "heaps"] false 0 3 2 (b_heaps_there) F0 sc rfl rfl ?_
  exact fun cdv A outer s H E hr =>
    (sb_one (ss_ret (SE.drop (se_comp [("first", 2)] sc.nd (si_range1 B (se_var (i := 1))) (fun _ _ _ _ _ => (sg_name (i := 2) sc.nd)) (fun _ _ _ _ _ => sts_nil) (fun _ _ _ _ _ => (SE.drop (se_rev (k := 0) (SE.drop (se_slSt (se_var (i := 0)) (so_some (se_var (i := 2))) so_none (so_some (se_var (i := 1)))))))) (by first | (show blkC ["pack", "heaps", "first"] (defScope s_heaps_there) _ _ = true; decide +kernel) | (show blkC ["pack", "heaps", "first"] (relabel _ (envOfC "" (defScope s_heaps_there) 0 0 .none)) _ _ = true; decide +kernel))))))
/-! ### dealt -/
abbrev s_deals_dealt : Stmt := topS 50
theorem sc_deals_dealt : FnScope ["pack", "heaps"] ["pack", "heaps"] (defScope s_deals_dealt) := ⟨rfl, rfl, rfl, by decide +kernel, rfl, by decide +kernel, by decide +kernel⟩
def b_deals_dealt : Ev Fl :=
    (sSeq (sExpr (eCall 1 [] (r_check_pack) (eCons (eVar 0) eNil)))
    (sSeq (sExpr (eCall 1 [] (r_check_heaps) (eCons (eVar 1) eNil)))
    (sRet (eCall 2 [] (r_heaps_there) (eCons (eVar 0) (eCons (eVar 1) eNil))))))
def r_deals_dealt : List T → Sto → Res T := fnRun false 2 (b_deals_dealt)
theorem ok_deals_dealt (B : Blt mg) (C_check_pack_0 : CallF P w K mg base 4 "check_pack" false 1 [] (r_check_pack)) (C_check_heaps_0 : CallF P w K mg base 3 "check_heaps" false 1 [] (r_check_heaps)) (C_heaps_there_0 : CallF P w K mg base 1 "heaps_there" false 2 [] (r_heaps_there)) (F0 : FunD K "dealt" "dealt" (defArgs s_deals_dealt) (defBody s_deals_dealt) (defScope s_deals_dealt) [] [] f fd) : FnOk P w K mg base CX0 5 f fd ["pack", "heaps"] (spRun mg false 2 (r_deals_dealt)) := by
  have sc := sc_deals_dealt
  refine fn_okN ["pack", "heaps"] ["pack", "heaps"] false 4 2 2 (b_deals_dealt) F0 sc rfl rfl ?_
  exact fun cdv A outer s H E hr =>
    (sb_cons (ss_expr (se_call C_check_pack_0 (hr.mono (by decide)) (sa_cons (se_var (i := 0)) sa_nil)))
    (sb_cons (ss_expr (se_call C_check_heaps_0 (hr.mono (by decide)) (sa_cons (se_var (i := 1)) sa_nil)))
    (sb_one (ss_ret (se_call C_heaps_there_0 (hr.mono (by decide)) (sa_cons (se_var (i := 0)) (sa_cons (se_var (i := 1)) sa_nil)))))))
/-! ### is_order -/
abbrev s_is_order : Stmt := topS 52
theorem sc_is_order : FnScope ["heaps", "value", "heap"] ["heaps", "value"] (defScope s_is_order) := ⟨rfl, rfl, rfl, by decide +kernel, rfl, by decide +kernel, by decide +kernel⟩
def b_is_order : Ev Fl :=
    (sSeq (sIf (eOr (eNot (eB (e1 (kIsi .list) (eVar 1)))) (eOr (eB (e2 (kVw kNe0) (eA kLen (eCons (eVar 1) eNil)) (eVar 0))) (eNot (eB (eA kAll (eCons (eComp (iLst (eVar 1)) (gN 2) cYes (eCall 2 [.int 0] (r_is_count) (eCons (eVar 2) eNil)) [2]) eNil)))))) (sRet (eC (.bl false))) sNil)
    (sRet (e2 (kVw kEq0) (eA kSorted (eCons (eVar 1) eNil)) (eLrg1 (eVar 0)))))
def r_is_order : List T → Sto → Res T := fnRun false 3 (b_is_order)
theorem ok_is_order (B : Blt mg) (C_is_count_1 : CallF P w K mg base 2 "is_count" false 2 [.int 0] (r_is_count)) (F0 : FunD K "is_order" "is_order" (defArgs s_is_order) (defBody s_is_order) (defScope s_is_order) [] [] f fd) : FnOk P w K mg base CX0 3 f fd ["heaps", "value"] (spRun mg false 2 (r_is_order)) := by
  have sc := sc_is_order
  refine fn_okN ["heaps", "value", "heap"] ["heaps", "value"] false 2 3 2 (b_is_order) F0 sc rfl rfl ?_
  exact fun cdv A outer s H E hr =>
    (sb_cons (ss_if (SW.st (sw_or (st_not (st_val (se_isi B .list (se_var (i := 1))))) (sw_or (st_cmp (p_ne hr).ok (se_len B (sa_cons (se_var (i := 1)) sa_nil)) (se_var (i := 0))) (ST.or1 (st_not (st_val (se_all B (sa_cons (SE.drop (se_comp [("heap", 2)] sc.nd (si_list (se_var (i := 1))) (fun _ _ _ _ _ => (sg_name (i := 2) sc.nd)) (fun _ _ _ _ _ => sts_nil) (fun _ _ _ _ _ => (se_call C_is_count_1 (hr.mono (by decide)) (sa_cons (se_var (i := 2)) sa_nil) (fun _ => .cons (.int 0) .nil))) (by first | (show blkC ["heaps", "value", "heap"] (defScope s_is_order) _ _ = true; decide +kernel) | (show blkC ["heaps", "value", "heap"] (relabel _ (envOfC "" (defScope s_is_order) 0 0 .none)) _ _ = true; decide +kernel)))) sa_nil)))))))) (sb_one (ss_ret se_bl)) sb_nil)
    (sb_one (ss_ret (se_cmp (p_eq hr).ok (SE.drop (se_sorted B (sa_cons (se_var (i := 1)) sa_nil))) (SE.drop (se_listRg1 B (se_var (i := 0))))))))
/-! ### heap_move -/
abbrev s_heap_move : Stmt := topS 53
theorem sc_heap_move : FnScope ["many", "heaps", "order", "rows", "heap", "place"] ["many", "heaps", "order"] (defScope s_heap_move) := ⟨rfl, rfl, rfl, by decide +kernel, rfl, by decide +kernel, by decide +kernel⟩
def b_heap_move : Ev Fl :=
    (sSeq (sExpr (eCall 1 [] (r_deals_check_many) (eCons (eVar 0) eNil)))
    (sSeq (sExpr (eCall 1 [] (r_check_heaps) (eCons (eVar 1) eNil)))
    (sSeq (sIf (eNot (eB (eCall 2 [] (r_is_order) (eCons (eVar 1) (eCons (eVar 2) eNil))))) eStuck sNil)
    (sSeq (sAsg (eCall 2 [] (r_heaps_there) (eCons (eLrg1 (eVar 0)) (eCons (eVar 1) eNil))) (gN 3))
    (sRet (eComp2 (iLst (eVar 2)) (gN 4) cYes (iLst (e2 kIx (eVar 3) (eVar 4))) (gN 5) cYes (eVar 5) [4, 5] [5]))))))
def r_heap_move : List T → Sto → Res T := fnRun false 6 (b_heap_move)
theorem ok_heap_move (B : Blt mg) (C_check_many_deals_0 : CallF P w K mg base 3 "check_many_deals" false 1 [] (r_deals_check_many)) (C_check_heaps_0 : CallF P w K mg base 3 "check_heaps" false 1 [] (r_check_heaps)) (C_is_order_0 : CallF P w K mg base 3 "is_order" false 2 [] (r_is_order)) (C_heaps_there_0 : CallF P w K mg base 1 "heaps_there" false 2 [] (r_heaps_there)) (F0 : FunD K "heap_move" "heap_move" (defArgs s_heap_move) (defBody s_heap_move) (defScope s_heap_move) [] [] f fd) : FnOk P w K mg base CX0 4 f fd ["many", "heaps", "order"] (spRun mg false 3 (r_heap_move)) := by
  have sc := sc_heap_move
  refine fn_okN ["many", "heaps", "order", "rows", "heap", "place"] ["many", "heaps", "order"] false 3 6 3 (b_heap_move) F0 sc rfl rfl ?_
  exact fun cdv A outer s H E hr =>
    (sb_cons (ss_expr (se_call C_check_many_deals_0 (hr.mono (by decide)) (sa_cons (se_var (i := 0)) sa_nil)))
    (sb_cons (ss_expr (se_call C_check_heaps_0 (hr.mono (by decide)) (sa_cons (se_var (i := 1)) sa_nil)))
    (sb_cons (ss_if (st_not (st_val (se_call C_is_order_0 (hr.mono (by decide)) (sa_cons (se_var (i := 1)) (sa_cons (se_var (i := 2)) sa_nil))))) (sb_one ss_never) sb_nil)
    (sb_cons (ss_set (i := 3) sc.nd (se_call C_heaps_there_0 (hr.mono (by decide)) (sa_cons (SE.drop (se_listRg1 B (se_var (i := 0)))) (sa_cons (se_var (i := 1)) sa_nil))))
    (sb_one (ss_ret (SE.drop (se_comp2 [("heap", 4), ("place", 5)] [5] sc.nd (si_list (se_var (i := 2))) (fun _ _ _ _ _ => (sg_name (i := 4) sc.nd)) (fun _ _ _ _ _ => sts_nil) (fun _ _ _ _ _ => (si_list (se_ix hr (se_var (i := 3)) (se_var (i := 4))))) (fun _ _ _ _ _ => (sg_name (i := 5) sc.nd)) (fun _ _ _ _ _ => sts_nil) (fun _ _ _ _ _ => (se_var (i := 5))) (by first | (show blkC ["many", "heaps", "order", "rows", "heap", "place"] (defScope s_heap_move) _ _ = true; decide +kernel) | (show blkC ["many", "heaps", "order", "rows", "heap", "place"] (relabel _ (envOfC "" (defScope s_heap_move) 0 0 .none)) _ _ = true; decide +kernel))))))))))
/-! ### read_off -/
abbrev s_read_off : Stmt := topS 55
theorem sc_read_off : FnScope ["house", "number", "heaps", "found", "card", "face"] ["house"] (defScope s_read_off) := ⟨rfl, rfl, rfl, by decide +kernel, rfl, by decide +kernel, by decide +kernel⟩
def b_read_off : Ev Fl :=
    (sSeq (sExpr (eCall 1 [] (r_check_house) (eCons (eVar 0) eNil)))
    (sSeq (sPar 2 3 (eCons (e2 kIx (eMeth ⟨#[72, 111, 117, 115, 101]⟩ ⟨#[115, 116, 97, 116, 101]⟩ 1 [] r_House_state (eVar 0) eNil) (eC (.str ⟨#[104, 101, 97, 112, 115]⟩))) (eCons (eLst eNil) eNil)))
    (sSeq (sFor (iLst (eA kSorted (eCons (eVar 2) eNil))) (gN 1) (sAsg (e2 kAddL (eVar 3) (eComp (iLst (e2 kIx (eVar 2) (eVar 1))) (gTup 2 (gCons (gN 4) (gCons (gN 5) gNil))) cYes (eVar 4) [4, 5])) (gN 3)))
    (sRet (eVar 3)))))
def r_read_off : List T → Sto → Res T := fnRun false 6 (b_read_off)
theorem ok_read_off (B : Blt mg) (C_check_house_0 : CallF P w K mg base 1 "check_house" false 1 [] (r_check_house)) (M_House_state : MethF P w K mg base 1 "House" "state" false 1 [] r_House_state) (F0 : FunD K "read_off" "read_off" (defArgs s_read_off) (defBody s_read_off) (defScope s_read_off) [] [] f fd) : FnOk P w K mg base CX0 2 f fd ["house"] (spRun mg false 1 (r_read_off)) := by
  have sc := sc_read_off
  refine fn_okN ["house", "number", "heaps", "found", "card", "face"] ["house"] false 1 6 1 (b_read_off) F0 sc rfl rfl ?_
  exact fun cdv A outer s H E hr =>
    (sb_cons (ss_expr (se_call C_check_house_0 (hr.mono (by decide)) (sa_cons (se_var (i := 0)) sa_nil)))
    (sb_cons (ss_par (i := 2) (j := 3) sc.nd (sa_cons (se_ix hr (se_meth0 M_House_state (hr.mono (by decide)) (se_var (i := 0))) se_str) (sa_cons (SE.drop (se_lst sa_nil)) sa_nil)))
    (sb_cons (ss_for (si_list (SE.drop (se_sorted B (sa_cons (se_var (i := 2)) sa_nil)))) (sg_name (i := 1) sc.nd) (sb_one (ss_set (i := 3) sc.nd (SE.drop (se_addL (se_var (i := 3)) (SE.drop (se_comp [("card", 4), ("face", 5)] sc.nd (si_list (se_ix hr (se_var (i := 2)) (se_var (i := 1)))) (fun _ _ _ _ _ => (sg_tup (n := 2) (sgs_cons (sg_name (i := 4) sc.nd) (sgs_cons (sg_name (i := 5) sc.nd) sgs_nil)))) (fun _ _ _ _ _ => sts_nil) (fun _ _ _ _ _ => (se_var (i := 4))) (by first | (show blkC ["house", "number", "heaps", "found", "card", "face"] (defScope s_read_off) _ _ = true; decide +kernel) | (show blkC ["house", "number", "heaps", "found", "card", "face"] (relabel _ (envOfC "" (defScope s_read_off) 0 0 .none)) _ _ = true; decide +kernel)))))))))
    (sb_one (ss_ret (se_var (i := 3)))))))
/-! ### _law_purse -/
abbrev s__law_purse : Stmt := topS 57
theorem sc__law_purse : FnScope ["script", "at", "seed"] ["script", "at"] (defScope s__law_purse) := ⟨rfl, rfl, rfl, by decide +kernel, rfl, by decide +kernel, by decide +kernel⟩
def b__law_purse (o : Osc) : Ev Fl :=
    (sSeq (sAsg (eA kSum (eCons (eSlS o (eVar 0) (ePart (eVar 1)) (ePart (e2 kAddI (eVar 1) (eC (.int 1))))) eNil)) (gN 2))
    (sRet (eLst (eCons (e2 kMod (eA kInt (eCons (eA kMax (eCons (e2 kSub (eVar 2) (e2 kPow (eC (.int 10)) (eC (.int 18)))) (eCons (eC (.int 0)) eNil))) eNil)) (e2 kPow (e2 kPow (eC (.int 10)) (eC (.int 60))) (eC (.int 8)))) (eCons (e2 kMod (eA kInt (eCons (eVar 2) eNil)) (eC (.int 2147483629))) (eCons (eC (.int 0)) (eCons (eVar 1) eNil)))))))
def r__law_purse (o : Osc) : List T → Sto → Res T := fnRun true 3 (b__law_purse o)
theorem ok__law_purse {o : Osc} (hO : ScrOk K o) (B : Blt mg)  (F0 : FunD K "_law_purse" "_law_purse" (defArgs s__law_purse) (defBody s__law_purse) (defScope s__law_purse) [] [] f fd) : FnOk P w K mg base CX0 1 f fd ["script", "at"] (spRun mg true 2 (r__law_purse o)) := by
  have sc := sc__law_purse
  refine fn_okN ["script", "at", "seed"] ["script", "at"] true 0 3 2 (b__law_purse o) F0 sc rfl rfl ?_
  exact fun cdv A outer s H E hr =>
    (sb_cons (ss_set (i := 2) sc.nd (se_sum B (sa_cons (SE.drop (se_slS hO (se_var (i := 0)) (so_some (se_var (i := 1))) (so_some (se_addI (se_var (i := 1)) se_int)))) sa_nil)))
    (sb_one (ss_ret (se_lst (sa_cons (se_mod (se_intC B (sa_cons (se_max B (sa_cons (se_sub (se_var (i := 2)) (se_pow se_int se_int)) (sa_cons se_int sa_nil))) sa_nil)) (se_pow (se_pow se_int se_int) se_int)) (sa_cons (se_mod (se_intC B (sa_cons (se_var (i := 2)) sa_nil)) se_int) (sa_cons se_int (sa_cons (se_var (i := 1)) sa_nil))))))))
/-! ### _law_mixed -/
abbrev s__law_mixed : Stmt := topS 58
theorem sc__law_mixed : FnScope ["seed", "spin", "at", "mixed"] ["seed", "spin", "at"] (defScope s__law_mixed) := ⟨rfl, rfl, rfl, by decide +kernel, rfl, by decide +kernel, by decide +kernel⟩
def b__law_mixed : Ev Fl :=
    (sSeq (sAsg (e2 kAddI (e2 kMul (eVar 0) (eC (.int 69069))) (e2 kMul (e2 kMul (eC (.int 104729)) (eVar 1)) (eVar 1))) (gN 3))
    (sSeq (sAsg (e2 kMod (eA kInt (eCons (e2 kAddI (e2 kAddI (eVar 3) (e2 kMul (eC (.int 7919)) (eVar 2))) (eVar 1)) eNil)) (eC (.int 2147483647))) (gN 3))
    (sSeq (sAsg (e2 kMod (eA kInt (eCons (e2 kAddI (e2 kMul (eVar 3) (eVar 3)) (eC (.int 40503))) eNil)) (eC (.int 2147483629))) (gN 3))
    (sRet (e2 kMod (eA kInt (eCons (e2 kMul (eVar 3) (eC (.int 48271))) eNil)) (eC (.int 2147483587)))))))
def r__law_mixed : List T → Sto → Res T := fnRun false 4 (b__law_mixed)
theorem ok__law_mixed (B : Blt mg)  (F0 : FunD K "_law_mixed" "_law_mixed" (defArgs s__law_mixed) (defBody s__law_mixed) (defScope s__law_mixed) [] [] f fd) : FnOk P w K mg base CX0 1 f fd ["seed", "spin", "at"] (spRun mg false 3 (r__law_mixed)) := by
  have sc := sc__law_mixed
  refine fn_okN ["seed", "spin", "at", "mixed"] ["seed", "spin", "at"] false 0 4 3 (b__law_mixed) F0 sc rfl rfl ?_
  exact fun cdv A outer s H E hr =>
    (sb_cons (ss_set (i := 3) sc.nd (se_addI (se_mul (se_var (i := 0)) se_int) (se_mul (se_mul se_int (se_var (i := 1))) (se_var (i := 1)))))
    (sb_cons (ss_set (i := 3) sc.nd (se_mod (se_intC B (sa_cons (se_addI (se_addI (se_var (i := 3)) (se_mul se_int (se_var (i := 2)))) (se_var (i := 1))) sa_nil)) se_int))
    (sb_cons (ss_set (i := 3) sc.nd (se_mod (se_intC B (sa_cons (se_addI (se_mul (se_var (i := 3)) (se_var (i := 3))) se_int) sa_nil)) se_int))
    (sb_one (ss_ret (se_mod (se_intC B (sa_cons (se_mul (se_var (i := 3)) se_int) sa_nil)) se_int))))))
/-! ### _law_draw -/
abbrev s__law_draw0 : Stmt := topS 59
theorem sc__law_draw0 : FnScope ["purse", "many", "found", "piece", "drawn"] ["purse", "many"] (defScope s__law_draw0) := ⟨rfl, rfl, rfl, by decide +kernel, rfl, by decide +kernel, by decide +kernel⟩
def b__law_draw0 : Ev Fl :=
    (sSeq (sIf (eB (e2 kGt (e2 kIx (eVar 0) (eC (.int 0))) (eC (.int 0)))) (sSeq (sAsg (e2 kMod (eA kInt (eCons (e2 kIx (eVar 0) (eC (.int 0))) eNil)) (eVar 1)) (gN 4))
    (sSeq (sAsg (e2 kDiv (e2 kIx (eVar 0) (eC (.int 0))) (eVar 1)) (gAt (eVar 0) (eC (.int 0))))
    (sRet (eVar 4)))) sNil)
    (sSeq (sAsg (eC (.int 0)) (gN 2))
    (sSeq (sFor (iRg1 (e2 kAddI (eC (.int 1)) (e2 kDiv (e1 kBits (eVar 1)) (eC (.int 28))))) (gN 3) (sSeq (sAsg (e2 kAddI (e2 kIx (eVar 0) (eC (.int 2))) (eC (.int 1))) (gAt (eVar 0) (eC (.int 2))))
    (sAsg (e2 kAddI (e2 kMul (eVar 2) (eC (.int 2147483587))) (eCall 3 [] (r__law_mixed) (eCons (e2 kIx (eVar 0) (eC (.int 1))) (eCons (e2 kIx (eVar 0) (eC (.int 2))) (eCons (e2 kIx (eVar 0) (eC (.int 3))) eNil))))) (gN 2))))
    (sRet (e2 kMod (eA kInt (eCons (eVar 2) eNil)) (eVar 1))))))
def r__law_draw0 : List T → Sto → Res T := fnRun false 5 (b__law_draw0)
theorem ok__law_draw0 (B : Blt mg) (C__law_mixed_0 : CallF P w K mg base 1 "_law_mixed" false 3 [] (r__law_mixed)) (F0 : FunD K "_law_draw" "_law_draw" (defArgs s__law_draw0) (defBody s__law_draw0) (defScope s__law_draw0) [] [] f fd) : FnOk P w K mg base CX0 2 f fd ["purse", "many"] (spRun mg false 2 (r__law_draw0)) := by
  have sc := sc__law_draw0
  refine fn_okN ["purse", "many", "found", "piece", "drawn"] ["purse", "many"] false 1 5 2 (b__law_draw0) F0 sc rfl rfl ?_
  exact fun cdv A outer s H E hr =>
    (sb_cons (ss_if (st_cmp c_gt (se_ix hr (se_var (i := 0)) se_int) se_int) (sb_cons (ss_set (i := 4) sc.nd (se_mod (se_intC B (sa_cons (se_ix hr (se_var (i := 0)) se_int) sa_nil)) (se_var (i := 1))))
    (sb_cons (ss_asg (se_fdiv (se_ix hr (se_var (i := 0)) se_int) (se_var (i := 1))) (sg_at hr (se_var (i := 0)) se_int))
    (sb_one (ss_ret (se_var (i := 4)))))) sb_nil)
    (sb_cons (ss_set (i := 2) sc.nd se_int)
    (sb_cons (ss_for (si_range1 B (se_addI se_int (se_fdiv (se_bits (se_var (i := 1))) se_int))) (sg_name (i := 3) sc.nd) (sb_cons (ss_asg (se_addI (se_ix hr (se_var (i := 0)) se_int) se_int) (sg_at hr (se_var (i := 0)) se_int))
    (sb_one (ss_set (i := 2) sc.nd (se_addI (se_mul (se_var (i := 2)) se_int) (se_call C__law_mixed_0 (hr.mono (by decide)) (sa_cons (se_ix hr (se_var (i := 0)) se_int) (sa_cons (se_ix hr (se_var (i := 0)) se_int) (sa_cons (se_ix hr (se_var (i := 0)) se_int) sa_nil)))))))))
    (sb_one (ss_ret (se_mod (se_intC B (sa_cons (se_var (i := 2)) sa_nil)) (se_var (i := 1))))))))
def r__law_draw : List T → Sto → Res T := rDraw

/-! ### _law_shuffled -/
abbrev s__law_shuffled : Stmt := topS 60
theorem sc__law_shuffled : FnScope ["purse", "some", "found", "item"] ["purse", "some"] (defScope s__law_shuffled) := ⟨rfl, rfl, rfl, by decide +kernel, rfl, by decide +kernel, by decide +kernel⟩
def b__law_shuffled : Ev Fl :=
    (sSeq (sAsg (eNew (eLst eNil)) (gN 2))
    (sSeq (sFor (iLst (eVar 1)) (gN 3) (sExpr (eBm kIns (eVar 2) (eCons (eCall 2 [] (r__law_draw) (eCons (eVar 0) (eCons (e2 kAddI (eA kLen (eCons (eVar 2) eNil)) (eC (.int 1))) eNil))) (eCons (eVar 3) eNil)))))
    (sRet (eFrz (eVar 2)))))
def r__law_shuffled : List T → Sto → Res T := fnRun false 4 (b__law_shuffled)
theorem ok__law_shuffled (B : Blt mg) (C__law_draw_0 : CallF P w K mg base 2 "_law_draw" false 2 [] (r__law_draw)) (F0 : FunD K "_law_shuffled" "_law_shuffled" (defArgs s__law_shuffled) (defBody s__law_shuffled) (defScope s__law_shuffled) [] [] f fd) : FnOk P w K mg base CX0 3 f fd ["purse", "some"] (spRun mg false 2 (r__law_shuffled)) := by
  have sc := sc__law_shuffled
  refine fn_okN ["purse", "some", "found", "item"] ["purse", "some"] false 2 4 2 (b__law_shuffled) F0 sc rfl rfl ?_
  exact fun cdv A outer s H E hr =>
    (sb_cons (ss_set (i := 2) sc.nd (SE.new (se_lst sa_nil)))
    (sb_cons (ss_for (si_list (se_var (i := 1))) (sg_name (i := 3) sc.nd) (sb_one (ss_expr (se_insert (se_var (i := 2)) (sa_cons (se_call C__law_draw_0 (hr.mono (by decide)) (sa_cons (se_var (i := 0)) (sa_cons (se_addI (se_len B (sa_cons (se_var (i := 2)) sa_nil)) se_int) sa_nil))) (sa_cons (se_var (i := 3)) sa_nil))))))
    (sb_one (ss_ret (SE.frz (se_var (i := 2)))))))
/-! ### _law_same -/
abbrev s__law_same : Stmt := topS 61
theorem sc__law_same : FnScope ["told", "due", "is_like", "key", "one", "other"] ["told", "due"] (defScope s__law_same) := ⟨rfl, rfl, rfl, by decide +kernel, rfl, by decide +kernel, by decide +kernel⟩
def b__law_same (k : Nat) (r__law_same : Nat → List T → Sto → Res T) : Ev Fl :=
    (sSeq (sIf (eB (e1 (kIsi .dict) (eVar 1))) (sSeq (sAsg (vAnd (e1 (kIsi .dict) (eVar 0)) (vAnd (e2 (kVw kEq0) (eA kLen (eCons (eVar 0) eNil)) (eA kLen (eCons (eVar 1) eNil))) (eA kAll (eCons (eComp (iK (pkVar 1)) (gN 3) cYes (e2 (kVw kIn0) (eVar 3) (eVar 0)) [3]) eNil)))) (gN 2))
    (sRet (vAnd (eVar 2) (eA kAll (eCons (eComp (iK (pkVar 1)) (gN 3) cYes (eCall 2 [] (r__law_same k) (eCons (e2 kIx (eVar 0) (eVar 3)) (eCons (e2 kIx (eVar 1) (eVar 3)) eNil))) [3]) eNil))))) sNil)
    (sSeq (sIf (eB (e1 (kIsiT [.list, .tuple]) (eVar 1))) (sSeq (sAsg (vAnd (e2 (kVw kEq0) (e1 (kIsi .list) (eVar 0)) (e1 (kIsi .list) (eVar 1))) (e2 (kVw kEq0) (e1 (kIsi .tuple) (eVar 0)) (e1 (kIsi .tuple) (eVar 1)))) (gN 2))
    (sRet (vAnd (eVar 2) (vAnd (e2 (kVw kEq0) (eA kLen (eCons (eVar 0) eNil)) (eA kLen (eCons (eVar 1) eNil))) (eA kAll (eCons (eComp (iZp (eVar 0) (eVar 1)) (gTup 2 (gCons (gN 4) (gCons (gN 5) gNil))) cYes (eCall 2 [] (r__law_same k) (eCons (eVar 4) (eCons (eVar 5) eNil))) [4, 5]) eNil)))))) sNil)
    (sSeq (sAsg (vAnd (e1 kNot (e1 (kIsiT [.list, .tuple, .dict]) (eVar 0))) (vAnd (e2 (kVw kEq0) (e1 (kIsi .int) (eVar 0)) (e1 (kIsi .int) (eVar 1))) (e2 (kVw kEq0) (e1 (kIsi .str) (eVar 0)) (e1 (kIsi .str) (eVar 1))))) (gN 2))
    (sRet (vAnd (eVar 2) (vAnd (e2 (kVw kEq0) (e2 kIsN (eVar 0) (eC .non)) (e2 kIsN (eVar 1) (eC .non))) (vAnd (e2 (kVw kEq0) (e1 (kIsi .bool) (eVar 0)) (e1 (kIsi .bool) (eVar 1))) (e2 (kVw kEq0) (eVar 0) (eVar 1)))))))))
def r__law_same : Nat → List T → Sto → Res T
  | 0 => gNo
  | k + 1 => fnRun false 6 (b__law_same k fun _ => r__law_same k)
theorem ok__law_same (B : Blt mg)  {ds : List Value} (D : Def K mg "_law_same" "_law_same" s__law_same ["told", "due"] [] f fd ds) : ∀ k : Nat, FnOk P w K mg base CX0 (0 + k + 1) f fd ["told", "due"] (spRun mg false 2 (r__law_same k))
  | 0 => fn_ok0N ["told", "due", "is_like", "key", "one", "other"] ["told", "due"] false 0 2 D.fun_ sc__law_same rfl
  | k + 1 => by
    have C__law_same_0 : CallF P w K mg base (0 + k + 1) "_law_same" false 2 [] (r__law_same k) := D.call (ok__law_same B  D k)
    have sc := sc__law_same
    refine fn_okN ["told", "due", "is_like", "key", "one", "other"] ["told", "due"] false (0 + k + 1) 6 2 (b__law_same k fun _ => r__law_same k) D.fun_ sc rfl rfl ?_
    exact fun cdv A outer s H E hr =>
    (sb_cons (ss_if (st_val (se_isi B .dict (se_var (i := 1)))) (sb_cons (ss_set (i := 2) sc.nd (se_and (se_isi B .dict (se_var (i := 0))) (se_and (se_cmp (p_eq hr).ok (se_len B (sa_cons (se_var (i := 0)) sa_nil)) (se_len B (sa_cons (se_var (i := 1)) sa_nil))) (se_one (se_all B (sa_cons (SE.drop (se_compK [("key", 3)] sc.nd (lo_var (i := 1)) (fun _ _ _ _ _ => (sg_name (i := 3) sc.nd)) (fun _ _ _ _ _ => sts_nil) (fun _ _ _ _ _ => (se_cmp (p_in hr).ok (se_var (i := 3)) (se_var (i := 0)))) (by first | (show blkC ["told", "due", "is_like", "key", "one", "other"] (defScope s__law_same) _ _ = true; decide +kernel) | (show blkC ["told", "due", "is_like", "key", "one", "other"] (relabel _ (envOfC "" (defScope s__law_same) 0 0 .none)) _ _ = true; decide +kernel)))) sa_nil))))))
    (sb_one (ss_ret (se_and (se_var (i := 2)) (se_one (se_all B (sa_cons (SE.drop (se_compK [("key", 3)] sc.nd (lo_var (i := 1)) (fun _ _ _ _ _ => (sg_name (i := 3) sc.nd)) (fun _ _ _ _ _ => sts_nil) (fun _ _ _ _ _ => (se_call C__law_same_0 (hr.mono (by omega)) (sa_cons (se_ix hr (se_var (i := 0)) (se_var (i := 3))) (sa_cons (se_ix hr (se_var (i := 1)) (se_var (i := 3))) sa_nil)))) (by first | (show blkC ["told", "due", "is_like", "key", "one", "other"] (defScope s__law_same) _ _ = true; decide +kernel) | (show blkC ["told", "due", "is_like", "key", "one", "other"] (relabel _ (envOfC "" (defScope s__law_same) 0 0 .none)) _ _ = true; decide +kernel)))) sa_nil))))))) sb_nil)
    (sb_cons (ss_if (st_val (se_isiT B [.list, .tuple] (se_var (i := 1)) ⟨rfl, rfl, rfl, rfl, trivial⟩)) (sb_cons (ss_set (i := 2) sc.nd (se_and (se_cmp (p_eq hr).ok (se_isi B .list (se_var (i := 0))) (se_isi B .list (se_var (i := 1)))) (se_one (se_cmp (p_eq hr).ok (se_isi B .tuple (se_var (i := 0))) (se_isi B .tuple (se_var (i := 1)))))))
    (sb_one (ss_ret (se_and (se_var (i := 2)) (se_and (se_cmp (p_eq hr).ok (se_len B (sa_cons (se_var (i := 0)) sa_nil)) (se_len B (sa_cons (se_var (i := 1)) sa_nil))) (se_one (se_all B (sa_cons (SE.drop (se_comp [("one", 4), ("other", 5)] sc.nd (si_zip B (se_var (i := 0)) (se_var (i := 1))) (fun _ _ _ _ _ => (sg_tup (n := 2) (sgs_cons (sg_name (i := 4) sc.nd) (sgs_cons (sg_name (i := 5) sc.nd) sgs_nil)))) (fun _ _ _ _ _ => sts_nil) (fun _ _ _ _ _ => (se_call C__law_same_0 (hr.mono (by omega)) (sa_cons (se_var (i := 4)) (sa_cons (se_var (i := 5)) sa_nil)))) (by first | (show blkC ["told", "due", "is_like", "key", "one", "other"] (defScope s__law_same) _ _ = true; decide +kernel) | (show blkC ["told", "due", "is_like", "key", "one", "other"] (relabel _ (envOfC "" (defScope s__law_same) 0 0 .none)) _ _ = true; decide +kernel)))) sa_nil)))))))) sb_nil)
    (sb_cons (ss_set (i := 2) sc.nd (se_and (se_not (se_isiT B [.list, .tuple, .dict] (se_var (i := 0)) ⟨rfl, rfl, rfl, rfl, rfl, rfl, trivial⟩)) (se_and (se_cmp (p_eq hr).ok (se_isi B .int (se_var (i := 0))) (se_isi B .int (se_var (i := 1)))) (se_one (se_cmp (p_eq hr).ok (se_isi B .str (se_var (i := 0))) (se_isi B .str (se_var (i := 1))))))))
    (sb_one (ss_ret (se_and (se_var (i := 2)) (se_and (se_cmp (p_eq hr).ok (se_cmp c_is (se_var (i := 0)) se_non) (se_cmp c_is (se_var (i := 1)) se_non)) (se_and (se_cmp (p_eq hr).ok (se_isi B .bool (se_var (i := 0))) (se_isi B .bool (se_var (i := 1)))) (se_one (se_cmp (p_eq hr).ok (se_var (i := 0)) (se_var (i := 1))))))))))))
/-! ### _law_purses -/
abbrev s__law_purses : Stmt := topS 62
theorem sc__law_purses : FnScope ["script", "few", "at"] ["script", "few"] (defScope s__law_purses) := ⟨rfl, rfl, rfl, by decide +kernel, rfl, by decide +kernel, by decide +kernel⟩
def b__law_purses (o : Osc) : Ev Fl :=
    (sRet (eComp (iRg1 (eA kMax (eCons (eC (.int 1)) (eCons (eA kMin (eCons (eVar 1) (eCons (eA (kLenS o) (eCons (eVar 0) eNil)) eNil))) eNil)))) (gN 2) cYes (eTag (eNew (eCall 2 [] (r__law_purse o) (eCons (eVar 0) (eCons (eVar 2) eNil))))) [2]))
def r__law_purses (o : Osc) : List T → Sto → Res T := fnRun false 3 (b__law_purses o)
theorem ok__law_purses {o : Osc} (hO : ScrOk K o) (B : Blt mg) (C__law_purse_0 : CallF P w K mg base 1 "_law_purse" true 2 [] (r__law_purse o)) (F0 : FunD K "_law_purses" "_law_purses" (defArgs s__law_purses) (defBody s__law_purses) (defScope s__law_purses) [] [] f fd) : FnOk P w K mg base CX0 2 f fd ["script", "few"] (spRun mg false 2 (r__law_purses o)) := by
  have sc := sc__law_purses
  refine fn_okN ["script", "few", "at"] ["script", "few"] false 1 3 2 (b__law_purses o) F0 sc rfl rfl ?_
  exact fun cdv A outer s H E hr =>
    (sb_one (ss_ret (SE.drop (se_comp [("at", 2)] sc.nd (si_range1 B (se_max B (sa_cons se_int (sa_cons (se_min B (sa_cons (se_var (i := 1)) (sa_cons (se_lenS hO B (sa_cons (se_var (i := 0)) sa_nil)) sa_nil))) sa_nil)))) (fun _ _ _ _ _ => (sg_name (i := 2) sc.nd)) (fun _ _ _ _ _ => sts_nil) (fun _ _ _ _ _ => (SE.tag (SE.new (se_call C__law_purse_0 (hr.mono (by decide)) (sa_cons (se_var (i := 0)) (sa_cons (se_var (i := 2)) sa_nil)))))) (by first | (show blkC ["script", "few", "at"] (defScope s__law_purses) _ _ = true; decide +kernel) | (show blkC ["script", "few", "at"] (relabel _ (envOfC "" (defScope s__law_purses) 0 0 .none)) _ _ = true; decide +kernel))))))
/-! ### _law_chain -/
abbrev s__law_chain : Stmt := topS 63
theorem sc__law_chain : FnScope ["lists", "found", "late"] ["lists"] (defScope s__law_chain) := ⟨rfl, rfl, rfl, by decide +kernel, rfl, by decide +kernel, by decide +kernel⟩
def b__law_chain : Ev Fl :=
    (sSeq (sAsg (eLst eNil) (gN 1))
    (sSeq (sFor (iLst (eVar 0)) (gN 2) (sAsg (e2 kAddL (eVar 1) (eA kList (eCons (eVar 2) eNil))) (gN 1)))
    (sRet (eVar 1))))
def r__law_chain : List T → Sto → Res T := fnRun false 3 (b__law_chain)
theorem ok__law_chain (B : Blt mg)  (F0 : FunD K "_law_chain" "_law_chain" (defArgs s__law_chain) (defBody s__law_chain) (defScope s__law_chain) [] [] f fd) : FnOk P w K mg base CX0 1 f fd ["lists"] (spRun mg false 1 (r__law_chain)) := by
  have sc := sc__law_chain
  refine fn_okN ["lists", "found", "late"] ["lists"] false 0 3 1 (b__law_chain) F0 sc rfl rfl ?_
  exact fun cdv A outer s H E hr =>
    (sb_cons (ss_set (i := 1) sc.nd (SE.drop (se_lst sa_nil)))
    (sb_cons (ss_for (si_list (se_var (i := 0))) (sg_name (i := 2) sc.nd) (sb_one (ss_set (i := 1) sc.nd (SE.drop (se_addL (se_var (i := 1)) (SE.drop (se_listC B (sa_cons (se_var (i := 2)) sa_nil))))))))
    (sb_one (ss_ret (se_var (i := 1))))))
/-! ### law -/
abbrev s_law : Stmt := topS 64
theorem sc_law : FnScope ["script", "purse", "many", "spin", "house", "pack", "number", "late", "by", "heaps", "lots", "told", "fresh", "order", "at", "under", "over", "card", "one", "face"] ["script"] (defScope s_law) := ⟨rfl, rfl, rfl, by decide +kernel, rfl, by decide +kernel, by decide +kernel⟩
def p_law_1 (n : Nat) : Ev Fl :=
    (sSeq (sAsg (eTup (eCons (eMake ⟨#[72, 111, 117, 115, 101]⟩ 2 [] r_House___init__ (eCons (eVar 2) eNil)) (eCons (eCall 1 [] (r_whole_pack) (eCons (eVar 2) eNil)) eNil))) (gTup 2 (gCons (gN 4) (gCons (gN 5) gNil))))
    (sSeq (sAsg (eTup (eCons (eC (.int 0)) (eCons (eC (.int 1)) eNil))) (gTup 2 (gCons (gN 6) (gCons (gN 7) gNil))))
    (sSeq (sFor (iRg1 (eC (.int 2))) (gN 3) (sSeq (sAsg (eCall 2 [] (r__law_draw) (eCons (eVar 1) (eCons (e2 kAddI (eVar 2) (eC (.int 1))) eNil))) (gN 8))
    (sSeq (sExpr (eMeth ⟨#[72, 111, 117, 115, 101]⟩ ⟨#[100, 111]⟩ 2 [] r_House_do (eVar 4) (eCons (eTup (eCons (eC (.str ⟨#[99, 117, 116]⟩)) (eCons (eVar 6) (eCons (eVar 8) eNil)))) eNil)))
    (sSeq (sAsg (eCall 2 [] (r_cut_by) (eCons (eVar 5) (eCons (eVar 8) eNil))) (gN 5))
    (sSeq (sAsg (e2 kAddI (eC (.int 2)) (eCall 2 [] (r__law_draw) (eCons (eVar 1) (eCons (eA kMin (eCons (eC (.int 3)) (eCons (e2 kSub (eVar 2) (eC (.int 1))) eNil))) eNil)))) (gN 9))
    (sSeq (sAsg (eCall 2 [] (r_deals_dealt) (eCons (eVar 5) (eCons (eVar 9) eNil))) (gN 10))
    (sSeq (sAsg (eMeth ⟨#[72, 111, 117, 115, 101]⟩ ⟨#[100, 111]⟩ 2 [] r_House_do (eVar 4) (eCons (eTup (eCons (eC (.str ⟨#[100, 101, 97, 108]⟩)) (eCons (eVar 6) (eCons (eVar 9) eNil)))) eNil)) (gN 11))
    (sSeq (sAsg (eComp (iRg1 (eVar 9)) (gN 14) cYes (e2 kAddI (eVar 7) (eVar 14)) [14]) (gN 12))
    (sSeq (sIf (eOr (eNot (eB (eCall 2 [] (r__law_same 7) (eCons (eVar 11) (eCons (eTup (eCons (eC (.str ⟨#[100, 111, 110, 101]⟩)) (eCons (eVar 12) eNil))) eNil))))) (eNot (eB (eCall 2 [] (r__law_same 7) (eCons (eComp (iLst (eVar 12)) (gN 18) cYes (eComp (iLst (e2 kIx (eMeth ⟨#[72, 111, 117, 115, 101]⟩ ⟨#[104, 101, 97, 112, 115]⟩ 1 [] r_House_heaps (eVar 4) eNil) (eVar 18))) (gTup 2 (gCons (gN 17) (gCons (gN 19) gNil))) cYes (eVar 17) [17, 19]) [18]) (eCons (eVar 10) eNil)))))) (sRet (eC (.bl false))) sNil)
    (sSeq (sAsg (eCall 2 [] (r__law_shuffled) (eCons (eVar 1) (eCons (eLrg1 (eVar 9)) eNil))) (gN 13))
    (sSeq (sFor (iRg1 (e2 kSub (eVar 9) (eC (.int 1)))) (gN 14) (sSeq (sPar 15 16 (eCons (e2 kIx (eVar 12) (e2 kIx (eVar 13) (e2 kSub (eVar 9) (eC (.int 1))))) (eCons (e2 kIx (eVar 12) (e2 kIx (eVar 13) (e2 kSub (e2 kSub (eVar 9) (eC (.int 2))) (eVar 14)))) eNil)))
    (sIf (eB (e2 (kVw kNe0) (eMeth ⟨#[72, 111, 117, 115, 101]⟩ ⟨#[100, 111]⟩ 2 [] r_House_do (eVar 4) (eCons (eTup (eCons (eC (.str ⟨#[106, 111, 105, 110]⟩)) (eCons (eVar 16) (eCons (eVar 15) eNil)))) eNil)) (eTup (eCons (eC (.str ⟨#[100, 111, 110, 101]⟩)) (eCons (eLst (eCons (eVar 15) eNil)) eNil))))) (sRet (eC (.bl false))) sNil)))
    (sSeq (sAsg (eTup (eCons (e2 kIx (eVar 12) (e2 kIx (eVar 13) (e2 kSub (eVar 9) (eC (.int 1))))) (eCons (e2 kAddI (eVar 7) (eVar 9)) eNil))) (gTup 2 (gCons (gN 6) (gCons (gN 7) gNil))))
    (sSeq (sAsg (eCall 2 [] (r_moved) (eCons (eVar 5) (eCons (eCall 3 [] (r_heap_move) (eCons (eVar 2) (eCons (eVar 9) (eCons (eVar 13) eNil)))) eNil))) (gN 5))
    (sIf (eNot (eB (eCall 2 [] (r__law_same 7) (eCons (eLst (eCons (eCall 1 [] (r_read_off) (eCons (eVar 4) eNil)) (eCons (eVar 5) eNil))) (eCons (e2 kRep (eLst (eCons (eCall 1 [] (r__law_chain) (eCons (eComp (iLst (eVar 13)) (gN 18) cYes (e2 kIx (eVar 10) (eVar 18)) [18]) eNil)) eNil)) (eC (.int 2))) eNil))))) (sRet (eC (.bl false))) sNil))))))))))))))
    (sIf (eNot (eB (eCall 2 [] (r__law_same 7) (eCons (eMeth ⟨#[72, 111, 117, 115, 101]⟩ ⟨#[104, 101, 97, 112, 115]⟩ 1 [] r_House_heaps (eVar 4) eNil) (eCons (eDisp [((eVar 6), (eComp (iLst (eVar 5)) (gN 17) cYes (eTup (eCons (eVar 17) (eCons (eC (.int 0)) eNil))) [17]))]) eNil))))) (sRet (eC (.bl false))) sNil))))
def b_law (o : Osc) : Ev Fl :=
    (sSeq (sForB (iLst (eCall 2 [] (r__law_purses o) (eCons (eVar 0) (eCons (eC (.int 1)) eNil)))) (gN 1) fun n => (sSeq (sAsg (e2 kAddI (eC (.int 2)) (eCall 2 [] (r__law_draw) (eCons (eVar 1) (eCons (eC (.int 11)) eNil)))) (gN 2))
    (sCan n [1, 2] 100 (p_law_1 n))))
    (sRet (eC (.bl true))))
def r_law (o : Osc) : List T → Sto → Res T := fnRun false 20 (b_law o)
theorem ok_law {o : Osc} (hO : ScrOk K o) (B : Blt mg) (C__law_purses_0 : CallF P w K mg base 2 "_law_purses" false 2 [] (r__law_purses o)) (C__law_same_0 : CallF P w K mg base 8 "_law_same" false 2 [] (r__law_same 7)) (M_House_heaps : MethF P w K mg base 7 "House" "heaps" false 1 [] r_House_heaps) (C__law_draw_0 : CallF P w K mg base 2 "_law_draw" false 2 [] (r__law_draw)) (M_House_do : MethF P w K mg base 7 "House" "do" false 2 [] r_House_do) (C_cut_by_0 : CallF P w K mg base 5 "cut_by" false 2 [] (r_cut_by)) (C_dealt_deals_0 : CallF P w K mg base 5 "dealt_deals" false 2 [] (r_deals_dealt)) (C__law_shuffled_0 : CallF P w K mg base 3 "_law_shuffled" false 2 [] (r__law_shuffled)) (C_moved_packs_0 : CallF P w K mg base 5 "moved_packs" false 2 [] (r_moved)) (C_heap_move_0 : CallF P w K mg base 4 "heap_move" false 3 [] (r_heap_move)) (C__law_chain_0 : CallF P w K mg base 1 "_law_chain" false 1 [] (r__law_chain)) (C_read_off_0 : CallF P w K mg base 2 "read_off" false 1 [] (r_read_off)) (C_whole_pack_0 : CallF P w K mg base 4 "whole_pack" false 1 [] (r_whole_pack)) (N_House : MakeF P w K mg base 3 "House" 2 [] r_House___init__) (F0 : FunD K "law" "law" (defArgs s_law) (defBody s_law) (defScope s_law) [] [] f fd) : FnOk P w K mg base CX0 9 f fd ["script"] (spRun mg false 1 (r_law o)) := by
  have sc := sc_law
  refine fn_okN ["script", "purse", "many", "spin", "house", "pack", "number", "late", "by", "heaps", "lots", "told", "fresh", "order", "at", "under", "over", "card", "one", "face"] ["script"] false 8 20 1 (b_law o) F0 sc rfl rfl ?_
  exact fun cdv A outer s H E hr =>
    (sb_cons (ss_forB (si_list (se_call C__law_purses_0 (hr.mono (by decide)) (sa_cons (se_var (i := 0)) (sa_cons se_int sa_nil)))) (sg_name (i := 1) sc.nd) fun n => (sbb_cons (ss_set (i := 2) sc.nd (se_addI se_int (se_call C__law_draw_0 (hr.mono (by decide)) (sa_cons (se_var (i := 1)) (sa_cons se_int sa_nil)))))
    (sbb_can [1, 2] 100 (sbb_cons (ss_asg (se_tup (sa_cons (se_make N_House (hr.mono (by decide)) (sa_cons (se_var (i := 2)) sa_nil)) (sa_cons (se_call C_whole_pack_0 (hr.mono (by decide)) (sa_cons (se_var (i := 2)) sa_nil)) sa_nil))) (sg_tup (n := 2) (sgs_cons (sg_name (i := 4) sc.nd) (sgs_cons (sg_name (i := 5) sc.nd) sgs_nil))))
    (sbb_cons (ss_asg (se_tup (sa_cons se_int (sa_cons se_int sa_nil))) (sg_tup (n := 2) (sgs_cons (sg_name (i := 6) sc.nd) (sgs_cons (sg_name (i := 7) sc.nd) sgs_nil))))
    (sbb_cons (ss_for (si_range1 B se_int) (sg_name (i := 3) sc.nd) (sb_cons (ss_set (i := 8) sc.nd (se_call C__law_draw_0 (hr.mono (by decide)) (sa_cons (se_var (i := 1)) (sa_cons (se_addI (se_var (i := 2)) se_int) sa_nil))))
    (sb_cons (ss_expr (se_meth M_House_do (hr.mono (by decide)) (se_var (i := 4)) (sa_cons (se_tup (sa_cons se_str (sa_cons (se_var (i := 6)) (sa_cons (se_var (i := 8)) sa_nil)))) sa_nil)))
    (sb_cons (ss_set (i := 5) sc.nd (se_call C_cut_by_0 (hr.mono (by decide)) (sa_cons (se_var (i := 5)) (sa_cons (se_var (i := 8)) sa_nil))))
    (sb_cons (ss_set (i := 9) sc.nd (se_addI se_int (se_call C__law_draw_0 (hr.mono (by decide)) (sa_cons (se_var (i := 1)) (sa_cons (se_min B (sa_cons se_int (sa_cons (se_sub (se_var (i := 2)) se_int) sa_nil))) sa_nil)))))
    (sb_cons (ss_set (i := 10) sc.nd (se_call C_dealt_deals_0 (hr.mono (by decide)) (sa_cons (se_var (i := 5)) (sa_cons (se_var (i := 9)) sa_nil))))
    (sb_cons (ss_set (i := 11) sc.nd (se_meth M_House_do (hr.mono (by decide)) (se_var (i := 4)) (sa_cons (se_tup (sa_cons se_str (sa_cons (se_var (i := 6)) (sa_cons (se_var (i := 9)) sa_nil)))) sa_nil)))
    (sb_cons (ss_setLc (i := 12) [("at", 14)] sc.nd (si_range1 B (se_var (i := 9))) (fun _ _ _ _ _ => (sg_name (i := 14) sc.nd)) (fun _ _ _ _ _ => sts_nil) (fun _ _ _ _ _ => (se_addI (se_var (i := 7)) (se_var (i := 14)))) (ok := (by first | (show blkC ["script", "purse", "many", "spin", "house", "pack", "number", "late", "by", "heaps", "lots", "told", "fresh", "order", "at", "under", "over", "card", "one", "face"] (defScope s_law) _ _ = true; decide +kernel) | (show blkC ["script", "purse", "many", "spin", "house", "pack", "number", "late", "by", "heaps", "lots", "told", "fresh", "order", "at", "under", "over", "card", "one", "face"] (relabel _ (envOfC "" (defScope s_law) 0 0 .none)) _ _ = true; decide +kernel))))
    (sb_cons (ss_if (SW.st (sw_or (st_not (st_val (se_call C__law_same_0 (hr.mono (by decide)) (sa_cons (se_var (i := 11)) (sa_cons (se_tup (sa_cons se_str (sa_cons (se_var (i := 12)) sa_nil))) sa_nil))))) (ST.or1 (st_not (st_val (se_call C__law_same_0 (hr.mono (by decide)) (sa_cons (SE.drop (se_comp [("one", 18)] sc.nd (si_list (se_var (i := 12))) (fun _ _ _ _ _ => (sg_name (i := 18) sc.nd)) (fun _ _ _ _ _ => sts_nil) (fun _ _ _ _ _ => (SE.drop (se_comp [("card", 17), ("face", 19)] sc.nd (si_list (se_ix hr (se_meth0 M_House_heaps (hr.mono (by decide)) (se_var (i := 4))) (se_var (i := 18)))) (fun _ _ _ _ _ => (sg_tup (n := 2) (sgs_cons (sg_name (i := 17) sc.nd) (sgs_cons (sg_name (i := 19) sc.nd) sgs_nil)))) (fun _ _ _ _ _ => sts_nil) (fun _ _ _ _ _ => (se_var (i := 17))) (by first | (show blkC ["script", "purse", "many", "spin", "house", "pack", "number", "late", "by", "heaps", "lots", "told", "fresh", "order", "at", "under", "over", "card", "one", "face"] (defScope s_law) _ _ = true; decide +kernel) | (show blkC ["script", "purse", "many", "spin", "house", "pack", "number", "late", "by", "heaps", "lots", "told", "fresh", "order", "at", "under", "over", "card", "one", "face"] (relabel _ (envOfC "" (defScope s_law) 0 0 .none)) _ _ = true; decide +kernel))))) (by first | (show blkC ["script", "purse", "many", "spin", "house", "pack", "number", "late", "by", "heaps", "lots", "told", "fresh", "order", "at", "under", "over", "card", "one", "face"] (defScope s_law) _ _ = true; decide +kernel) | (show blkC ["script", "purse", "many", "spin", "house", "pack", "number", "late", "by", "heaps", "lots", "told", "fresh", "order", "at", "under", "over", "card", "one", "face"] (relabel _ (envOfC "" (defScope s_law) 0 0 .none)) _ _ = true; decide +kernel)))) (sa_cons (se_var (i := 10)) sa_nil)))))))) (sb_one (ss_ret se_bl)) sb_nil)
    (sb_cons (ss_set (i := 13) sc.nd (se_call C__law_shuffled_0 (hr.mono (by decide)) (sa_cons (se_var (i := 1)) (sa_cons (SE.drop (se_listRg1 B (se_var (i := 9)))) sa_nil))))
    (sb_cons (ss_for (si_range1 B (se_sub (se_var (i := 9)) se_int)) (sg_name (i := 14) sc.nd) (sb_cons (ss_par (i := 15) (j := 16) sc.nd (sa_cons (se_ix hr (se_var (i := 12)) (se_ix hr (se_var (i := 13)) (se_sub (se_var (i := 9)) se_int))) (sa_cons (se_ix hr (se_var (i := 12)) (se_ix hr (se_var (i := 13)) (se_sub (se_sub (se_var (i := 9)) se_int) (se_var (i := 14))))) sa_nil)))
    (sb_one (ss_if (st_cmp (p_ne hr).ok (se_meth M_House_do (hr.mono (by decide)) (se_var (i := 4)) (sa_cons (se_tup (sa_cons se_str (sa_cons (se_var (i := 16)) (sa_cons (se_var (i := 15)) sa_nil)))) sa_nil)) (se_tup (sa_cons se_str (sa_cons (SE.drop (se_lst (sa_cons (se_var (i := 15)) sa_nil))) sa_nil)))) (sb_one (ss_ret se_bl)) sb_nil))))
    (sb_cons (ss_asg (se_tup (sa_cons (se_ix hr (se_var (i := 12)) (se_ix hr (se_var (i := 13)) (se_sub (se_var (i := 9)) se_int))) (sa_cons (se_addI (se_var (i := 7)) (se_var (i := 9))) sa_nil))) (sg_tup (n := 2) (sgs_cons (sg_name (i := 6) sc.nd) (sgs_cons (sg_name (i := 7) sc.nd) sgs_nil))))
    (sb_cons (ss_set (i := 5) sc.nd (se_call C_moved_packs_0 (hr.mono (by decide)) (sa_cons (se_var (i := 5)) (sa_cons (se_call C_heap_move_0 (hr.mono (by decide)) (sa_cons (se_var (i := 2)) (sa_cons (se_var (i := 9)) (sa_cons (se_var (i := 13)) sa_nil)))) sa_nil))))
    (sb_one (ss_if (st_not (st_val (se_call C__law_same_0 (hr.mono (by decide)) (sa_cons (SE.drop (se_lst (sa_cons (se_call C_read_off_0 (hr.mono (by decide)) (sa_cons (se_var (i := 4)) sa_nil)) (sa_cons (se_var (i := 5)) sa_nil)))) (sa_cons (SE.drop (se_repL (se_lst (sa_cons (se_call C__law_chain_0 (hr.mono (by decide)) (sa_cons (SE.drop (se_comp [("one", 18)] sc.nd (si_list (se_var (i := 13))) (fun _ _ _ _ _ => (sg_name (i := 18) sc.nd)) (fun _ _ _ _ _ => sts_nil) (fun _ _ _ _ _ => (se_ix hr (se_var (i := 10)) (se_var (i := 18)))) (by first | (show blkC ["script", "purse", "many", "spin", "house", "pack", "number", "late", "by", "heaps", "lots", "told", "fresh", "order", "at", "under", "over", "card", "one", "face"] (defScope s_law) _ _ = true; decide +kernel) | (show blkC ["script", "purse", "many", "spin", "house", "pack", "number", "late", "by", "heaps", "lots", "told", "fresh", "order", "at", "under", "over", "card", "one", "face"] (relabel _ (envOfC "" (defScope s_law) 0 0 .none)) _ _ = true; decide +kernel)))) sa_nil)) sa_nil)) se_int)) sa_nil))))) (sb_one (ss_ret se_bl)) sb_nil)))))))))))))))
    (sbb_of (sb_one (ss_if (st_not (st_val (se_call C__law_same_0 (hr.mono (by decide)) (sa_cons (se_meth0 M_House_heaps (hr.mono (by decide)) (se_var (i := 4))) (sa_cons (SE.drop (se_disp (sps_cons (se_var (i := 6)) (SE.drop (se_comp [("card", 17)] sc.nd (si_list (se_var (i := 5))) (fun _ _ _ _ _ => (sg_name (i := 17) sc.nd)) (fun _ _ _ _ _ => sts_nil) (fun _ _ _ _ _ => (se_tup (sa_cons (se_var (i := 17)) (sa_cons se_int sa_nil)))) (by first | (show blkC ["script", "purse", "many", "spin", "house", "pack", "number", "late", "by", "heaps", "lots", "told", "fresh", "order", "at", "under", "over", "card", "one", "face"] (defScope s_law) _ _ = true; decide +kernel) | (show blkC ["script", "purse", "many", "spin", "house", "pack", "number", "late", "by", "heaps", "lots", "told", "fresh", "order", "at", "under", "over", "card", "one", "face"] (relabel _ (envOfC "" (defScope s_law) 0 0 .none)) _ _ = true; decide +kernel)))) sps_nil))) sa_nil))))) (sb_one (ss_ret se_bl)) sb_nil)))))))))
    (sb_one (ss_ret se_bl)))
end
end TL
end
section
set_option Elab.async false
set_option linter.all false
set_option maxRecDepth 100000
/-! B85: S1 to S4 over L85. -/
namespace TL
open PySem PySem.Spec PyProof.Rows L2
@[simp] theorem eNew_run {a : Ev T} {τ : Tau} {M : Sto} : eNew a τ M = (a τ M).bind fun t M' => match t with | .lst ts => .ok (.ref M'.nx) (M'.add (.lst ts)) | .dic ks ts => .ok (.ref M'.nx) (M'.add (.dic ks ts)) | _ => .stuck := nr rfl
@[simp] theorem eFrz_run {a : Ev T} {τ : Tau} {M : Sto} : eFrz a τ M = (a τ M).bind fun t M' => match frzD 6 t M' with | some (t', M2) => .ok t' M2 | none => .stuck := nr rfl
def FlV (Φ : T → Sto → Prop) : Fl → Sto → Prop
  | .nx _, M => Φ .non M
  | .rt t, M => Φ t M
  | _, _ => False
theorem fn_all {N : Nat} {b : Ev Fl} {ts : List T} {M : Sto} {Φ : T → Sto → Prop} (h : Wp (b (ts.map some ++ List.replicate (N - ts.length) none) M) (FlV Φ)) : Wp (fnRun false N b ts M) Φ := by
  show Wp ((b _ M).bind _) Φ
  rw [wp_bind]
  refine h.mono fun fl M' q => ?_
  cases fl with
  | nx τ => exact ⟨q⟩
  | rt t => exact ⟨q⟩
  | _ => exact q.elim
def FlS (g : Ev Fl) (Φ : Fl → Sto → Prop) : Fl → Sto → Prop
  | .nx τ, M => Wp (g τ M) Φ
  | fl, M => Φ fl M
@[simp] theorem flS_nx {g : Ev Fl} {Φ : Fl → Sto → Prop} {τ : Tau} {M : Sto} : FlS g Φ (.nx τ) M = Wp (g τ M) Φ := nr rfl
@[simp] theorem flS_rt {g : Ev Fl} {Φ : Fl → Sto → Prop} {t : T} {M : Sto} : FlS g Φ (.rt t) M = Φ (.rt t) M := nr rfl
@[simp] theorem flV_nx {Φ : T → Sto → Prop} {τ : Tau} {M : Sto} : FlV Φ (.nx τ) M = Φ .non M := nr rfl
@[simp] theorem flV_rt {Φ : T → Sto → Prop} {t : T} {M : Sto} : FlV Φ (.rt t) M = Φ t M := nr rfl
@[simp] theorem turn_nx {P : Tau → Sto → Prop} {Φ : Fl → Sto → Prop} {τ : Tau} {M : Sto} : Turn P Φ (.nx τ) M = P τ M := nr rfl
@[simp] theorem turn_rt {P : Tau → Sto → Prop} {Φ : Fl → Sto → Prop} {t : T} {M : Sto} : Turn P Φ (.rt t) M = Φ (.rt t) M := nr rfl
theorem seq_all' {f g : Ev Fl} {τ : Tau} {M : Sto} {Φ : Fl → Sto → Prop} (h : Wp (f τ M) (FlS g Φ)) : Wp (sSeq f g τ M) Φ := by
  show Wp ((f τ M).bind _) Φ
  rw [wp_bind]
  refine h.mono fun fl M' q => ?_
  cases fl with
  | nx τ => exact q
  | _ => exact ⟨q⟩
theorem frz_flat {ts : List T} (h : ∀ t ∈ ts, flatR 0 t = true ∧ ∀ xs, t ≠ .lst xs ∧ t ≠ .tup xs ∧ ∀ ks, t ≠ .dic ks xs) (d : Nat) (M : Sto) : frzM (frzD (d + 1)) ts M = some (ts, M) := by
  induction ts with
  | nil => rfl
  | cons t ts ih =>
    have h1 := h t List.mem_cons_self
    have ih := ih fun u hu => h u (List.mem_cons_of_mem _ hu)
    have e : frzD (d + 1) t M = some (t, M) := by
      cases t with
      | lst xs => exact absurd rfl (h1.2 xs).1
      | tup xs => exact absurd rfl (h1.2 xs).2.1
      | dic ks xs => exact absurd rfl ((h1.2 xs).2.2 ks)
      | ref n => have := h1.1; simp [flatR] at this
      | scr a => have := h1.1; simp [flatR] at this
      | _ => rfl
    show (match frzD (d + 1) t M with | some (u, M1) => (match frzM (frzD (d + 1)) ts M1 with | some (us, M2) => some (u :: us, M2) | none => none) | none => none) = _
    rw [e]
    simp only [ih]
/-- plain items: neither lists nor things of the store -/
def Pln (t : T) : Prop := flatR 0 t = true ∧ ∀ xs, t ≠ .lst xs ∧ t ≠ .tup xs ∧ ∀ ks, t ≠ .dic ks xs
theorem pln_int (i : Int) : Pln (.int i) := ⟨rfl, fun xs => ⟨fun e => (nomatch e), fun e => (nomatch e), fun ks e => (nomatch e)⟩⟩
theorem isL_ref {n : Nat} {M : Sto} {ts : List T} (h : M.get n = some (.lst ts)) : isL (.ref n) M = true := by simp [isL, h]
theorem frz_ref {n d : Nat} {M : Sto} {ts : List T} (h : M.get n = some (.lst ts)) (hp : ∀ t ∈ ts, Pln t) : frzD (d + 2) (.ref n) M = some (.lst ts, M.del n) := by
  show (match M.get n with
      | some (.lst ts) => (match frzM (frzD (d + 1)) ts (M.del n) with
        | some (us, M') => some (T.lst us, M')
        | none => none)
      | some (.dic ks ts) => (match frzM (frzD (d + 1)) ts (M.del n) with
        | some (us, M') => some (T.dic ks us, M')
        | none => none)
      | _ => none) = _
  rw [h]
  simp only [frz_flat hp d (M.del n)]
theorem shuffled_run {M : Sto} {n k : Nat} (h : Pu M n k) {ts : List T} (hp : ∀ t ∈ ts, Pln t) (hl : ts.length < 100) (hk : k < 900000) :
    Wp (r__law_shuffled [.ref n, .lst ts] M) fun t M' => ∃ us, t = .lst us ∧ us.Perm ts ∧ M' = PB M n (k + ts.length) [] (M.nx + 1) := by
  refine fn_all (seq_all' ?_)
  simp only [List.map_cons, List.map_nil, List.length_cons, List.length_nil, List.replicate, List.cons_append, List.nil_append, sAsg_run, eNew_run, eLst_run, eNil_run, bind_ok, gN_run, Nat.zero_le, if_true, List.set_cons_succ, List.set_cons_zero, wp_ok, flS_nx, flS_rt, flV_nx, flV_rt, turn_nx, turn_rt]
  refine seq_all' ?_
  have e0 : M.add (.lst []) = PB M n k ([] ++ [(M.nx, .lst [])]) (M.nx + 1) := by
    have := PB_add (M := M) (n := n) (j := k) (r := []) (nx := M.nx) (o := .lst [])
    rw [← PB_self h] at this
    exact this
  rw [e0]
  simp only [sFor_run, iLst_run, eVar_run, List.getElem?_cons_succ, List.getElem?_cons_zero, bind_ok]
  refine forL_all (P := fun rest τ M' => ∃ us x, (us ++ rest).Perm ts ∧ τ = [some (.ref n), some (.lst ts), some (.ref M.nx), x] ∧ M' = PB M n (k + us.length) [(M.nx, .lst us)] (M.nx + 1)) ?_ ?_ ⟨[], none, by simp, rfl, rfl⟩
  · intro t rest τ M1 ⟨us, x, hpm, e, e2⟩
    subst e e2
    have hul : us.length + (rest.length + 1) = ts.length := by simpa using hpm.length_eq
    have hg : (PB M n (k + us.length) [(M.nx, .lst us)] (M.nx + 1)).get M.nx = some (.lst us) := by
      rw [PB_get h (Nat.le_refl _)]
      show (if Nat.beq M.nx M.nx = true then _ else _) = _
      rw [if_pos (Nat.beq_refl _)]
    simp only [gN_run, bind_ok, List.set_cons_succ, List.set_cons_zero, sExpr_run, eBm_run, eVar_run, List.getElem?_cons_succ, List.getElem?_cons_zero, isL_ref hg, if_true, eCons_run, eCall_run, e2_run, eA_run, eNil_run, eC_run, kLen, hg, kAddI_int, List.length_cons, List.length_nil, List.append_nil, r__law_draw]
    rw [draw_run h (m := (us.length : Int) + 1) (by omega) (by omega) (by omega)]
    simp only [bind_pick, bind_ok, wp_pick, wp_ok]
    intro d hd
    have hg2 : (PB M n (k + us.length + 1) [(M.nx, .lst us)] (M.nx + 1)).get M.nx = some (.lst us) := by
      rw [PB_get h (Nat.le_refl _)]
      show (if Nat.beq M.nx M.nx = true then _ else _) = _
      rw [if_pos (Nat.beq_refl _)]
    have hd' : d < us.length + 1 := by omega
    simp only [kIns, hg2]
    rw [if_pos (by omega)]
    simp only [bind_ok, wp_ok, flS_nx, flS_rt, flV_nx, flV_rt, turn_nx, turn_rt]
    refine ⟨us.take d ++ [t] ++ us.drop d, some t, ?_, rfl, ?_⟩
    · refine List.Perm.trans ?_ hpm
      have e1 : (us.take d ++ [t] ++ us.drop d).Perm (t :: us) := by
        rw [List.append_assoc]
        exact (List.perm_middle (l₁ := us.take d) (l₂ := us.drop d)).trans (by rw [List.take_append_drop])
      exact (e1.append_right rest).trans (List.perm_middle.symm)
    · rw [PB_set h (Nat.le_refl _)]
      have : (us.take d ++ [t] ++ us.drop d).length = us.length + 1 := by
        simp only [List.length_append, List.length_take, List.length_drop, List.length_cons, List.length_nil]; omega
      rw [this]
      show PB M n _ (if Nat.beq M.nx M.nx = true then _ else _) _ = _
      rw [if_pos (Nat.beq_refl _), Int.toNat_natCast]
      rfl
  · intro τ M1 ⟨us, x, hpm, e, e2⟩
    subst e e2
    rw [List.append_nil] at hpm
    have hg : (PB M n (k + us.length) [(M.nx, .lst us)] (M.nx + 1)).get M.nx = some (.lst us) := by
      rw [PB_get h (Nat.le_refl _)]
      show (if Nat.beq M.nx M.nx = true then _ else _) = _
      rw [if_pos (Nat.beq_refl _)]
    simp only [sRet_run, eFrz_run, eVar_run, List.getElem?_cons_succ, List.getElem?_cons_zero, bind_ok, frz_ref (d := 4) hg (fun t ht => hp t (hpm.mem_iff.mp ht)), wp_ok, flS_nx, flS_rt, flV_nx, flV_rt, turn_nx, turn_rt]
    refine ⟨us, rfl, hpm, ?_⟩
    rw [PB_del h (Nat.le_refl _), hpm.length_eq]
    show PB M n _ (if Nat.beq M.nx M.nx = true then _ else _) _ = _
    rw [if_pos (Nat.beq_refl _)]
    rfl
def rgI (n : Nat) : List Int := (List.range n).map fun (i : Nat) => (i : Int)
theorem rgT_rgI (n : Nat) : rgT 0 n = (rgI n).map T.int := rgT_ints
theorem rgI_length (n : Nat) : (rgI n).length = n := by simp [rgI]
theorem rgI_nodup (n : Nat) : (rgI n).Nodup := by
  unfold rgI
  rw [List.Nodup, List.pairwise_map]
  exact (List.nodup_range (n := n)).imp fun h e => h (by omega)
theorem mem_rgI {n : Nat} {i : Int} : i ∈ rgI n ↔ 0 ≤ i ∧ i < n := by
  simp only [rgI, List.mem_map, List.mem_range]
  constructor
  · rintro ⟨a, h, rfl⟩; omega
  · rintro ⟨h1, h2⟩; exact ⟨i.toNat, by omega, by omega⟩
theorem swap_perm {α : Type} [BEq α] [LawfulBEq α] {l : List α} {i j : Nat} {x y : α} (hi : l[i]? = some x) (hj : l[j]? = some y) (hij : i ≠ j) : ((l.set i y).set j x).Perm l := by
  rw [List.perm_iff_count]
  intro a
  obtain ⟨h1, e1⟩ := List.getElem?_eq_some_iff.mp hi
  obtain ⟨h2, e2⟩ := List.getElem?_eq_some_iff.mp hj
  rw [List.count_set (by simpa using h2), List.count_set h1]
  have e3 : (l.set i y)[j]'(by simpa using h2) = y := by rw [List.getElem_set_ne hij]; exact e2
  rw [e3, e1]
  have c1 : (if x == a then 1 else 0) ≤ l.count a := by
    split
    · rename_i h
      have := eq_of_beq h
      subst this
      exact List.one_le_count_iff.mpr (List.mem_of_getElem? hi)
    · omega
  omega
theorem map_perm_ints {us : List T} {ns : List Int} (h : us.Perm (ns.map T.int)) : ∃ ms : List Int, us = ms.map T.int ∧ ms.Perm ns := by
  have hm : ∀ {us : List T}, (∀ u ∈ us, u ∈ ns.map T.int) → ∃ ms : List Int, us = ms.map T.int := fun {us} h => by
    induction us with
    | nil => exact ⟨[], rfl⟩
    | cons u us ih =>
      obtain ⟨ms, e⟩ := ih fun v hv => h v (List.mem_cons_of_mem _ hv)
      obtain ⟨i, _, e2⟩ := List.mem_map.mp (h u List.mem_cons_self)
      exact ⟨i :: ms, by rw [e, ← e2]; rfl⟩
  obtain ⟨ms, e⟩ := hm fun u hu => h.mem_iff.mp hu
  refine ⟨ms, e, ?_⟩
  subst e
  have g : ∀ l : List Int, (l.map T.int).map (fun t => match t with | .int i => i | _ => 0) = l := fun l => by
    rw [List.map_map]
    exact List.map_id'' (fun _ => rfl) l
  have := h.map (fun t => match t with | T.int i => i | _ => (0 : Int))
  rwa [g, g] at this
def MoveTo (M : Sto) (n k many : Nat) (t : T) (M' : Sto) : Prop := ∃ (p : List Int) (j : Nat) (r : List (Nat × MO)) (nx' : Nat), t = li p ∧ p.Perm (rgI many) ∧ M' = PB M n j r nx' ∧ j ≤ k + 300 ∧ M.nx ≤ nx' ∧ Beh M.nx nx' r
theorem get_one {M : Sto} {n k : Nat} (h : Pu M n k) {j nx : Nat} {o : MO} : (PB M n j [(M.nx, o)] nx).get M.nx = some o := by
  rw [PB_get h (Nat.le_refl _)]
  show (if Nat.beq M.nx M.nx = true then _ else _) = _
  rw [if_pos (Nat.beq_refl _)]
theorem set_one {M : Sto} {n k : Nat} (h : Pu M n k) {j nx : Nat} {o o' : MO} : (PB M n j [(M.nx, o)] nx).set M.nx o' = PB M n j [(M.nx, o')] nx := by
  rw [PB_set h (Nat.le_refl _)]
  show PB M n _ (if Nat.beq M.nx M.nx = true then _ else _) _ = _
  rw [if_pos (Nat.beq_refl _)]
theorem del_one {M : Sto} {n k : Nat} (h : Pu M n k) {j nx : Nat} {o : MO} : (PB M n j [(M.nx, o)] nx).del M.nx = PB M n j [] nx := by
  rw [PB_del h (Nat.le_refl _)]
  show PB M n _ (if Nat.beq M.nx M.nx = true then _ else _) _ = _
  rw [if_pos (Nat.beq_refl _)]
  rfl
theorem beh_nil {a nx : Nat} : Beh a nx [] := fun p hp => nomatch hp
theorem beh_one {a nx : Nat} {o : MO} (h : a < nx) : Beh a nx [(a, o)] := fun p hp => by
  rw [List.mem_singleton] at hp
  subst hp
  exact ⟨Nat.le_refl _, h⟩
theorem pln_ints {ns : List Int} : ∀ t ∈ ns.map T.int, Pln t := fun t ht => by
  obtain ⟨i, _, e⟩ := List.mem_map.mp ht
  rw [← e]; exact pln_int i
inductive Dat : Nat → T → Prop
  | non {k} : Dat (k + 1) .non
  | bl {k} (b : Bool) : Dat (k + 1) (.bl b)
  | int {k} (i : Int) : Dat (k + 1) (.int i)
  | str {k} (x : Str) : (PyData.str x).canLay0 = true → Dat (k + 1) (.str x)
  | lst {k} {xs : List T} : xs.length ≤ 16777216 → (∀ x ∈ xs, Dat k x) → Dat (k + 1) (.lst xs)
  | tup {k} {xs : List T} : xs.length ≤ 16777216 → (∀ x ∈ xs, Dat k x) → Dat (k + 1) (.tup xs)
  | dic {k} {ks : List Key} {xs : List T} : ks.length ≤ 16777216 → ks.Nodup → ks.length = xs.length → (∀ x ∈ xs, Dat k x) → Dat (k + 1) (.dic ks xs)
@[simp] theorem vEq_bl {a b : Bool} {M : Sto} : kVw kEq0 (.bl a) (.bl b) M = .ok (.bl (a == b)) M := kVw_some (by show some (a == b) = _; rfl)
theorem vEq_str {x y : Str} {M : Sto} (hx : (PyData.str x).canLay0 = true) (hy : (PyData.str y).canLay0 = true) : kVw kEq0 (.str x) (.str y) M = .ok (.bl (x == y)) M := kVw_some (by
  have sh : ∀ {x : Str}, (PyData.str x).canLay0 = true → SeqAt.shaped (.str x) = true := fun {x} h => by
    show ((PyData.str x).canLay0 && decide ((PyData.str x).depth ≤ 64)) = true
    rw [h]; rfl
  show (if SeqAt.shaped (.str x) && SeqAt.shaped (.str y) then some (PyData.eqv (.str x) (.str y)) else none) = _
  rw [sh hx, sh hy]; rfl)
theorem vEq_non {M : Sto} : kVw kEq0 .non .non M = .ok (.bl true) M := kVw_some rfl
theorem zpL_self (ts : List T) : zpL ts ts = ts.map fun t => .tup [t, t] := by
  induction ts with
  | nil => rfl
  | cons t ts ih => show T.tup [t, t] :: zpL ts ts = _; rw [ih]; rfl
theorem kAll_true {α : Type} {l : List α} {M : Sto} : kAll [.lst (l.map fun _ => T.bl true)] M = .ok (.bl true) M := by
  have e : (l.map fun _ => T.bl true) = (l.map fun _ => true).map T.bl := by rw [List.map_map]; rfl
  rw [e, kAll_bls]
  congr 2
  rw [List.all_map]
  simp
theorem lkT_of : ∀ {ks : List Key} {xs : List T}, ks.length = xs.length → ∀ k ∈ ks, ∃ x ∈ xs, lkT k ks xs = some x
  | [], [], _, k, hk => nomatch hk
  | j :: ks, x :: xs, hl, k, hk => by
    by_cases e : j = k
    · exact ⟨x, List.mem_cons_self, by show (if j = k then some x else _) = _; rw [if_pos e]⟩
    · have hk' : k ∈ ks := by
        rcases List.mem_cons.mp hk with e2 | h
        · exact absurd e2.symm e
        · exact h
      obtain ⟨y, hy, h⟩ := lkT_of (ks := ks) (xs := xs) (by simpa using hl) k hk'
      exact ⟨y, List.mem_cons_of_mem _ hy, by show (if j = k then some x else lkT k ks xs) = _; rw [if_neg e]; exact h⟩
theorem toK_ofK (k : Key) : toK (ofK k) = some k := by cases k <;> rfl
@[simp] theorem kIsiT_run {cs : List Cl} {t : T} {M : Sto} : kIsiT cs t M = (match isC t M .int, isAny t M cs with | some _, some b => .ok (.bl b) M | _, _ => .stuck) := nr rfl
theorem comp_true {τ : Tau} {M : Sto} {g : Tg} {f : Ev T} {ts : List T} (h : ∀ t ∈ ts, ∃ τ', g t τ M = .ok τ' M ∧ f τ' M = .ok (.bl true) M) : compL g cYes f τ ts M = .ok (ts.map fun _ => .bl true) M :=
  compL_map h
theorem same_refl : ∀ {k : Nat} {t : T} {M : Sto}, Dat k t → r__law_same k [t, t] M = .ok (.bl true) M
  | k + 1, t, M, h => by
    have zip : ∀ {xs : List T} {τ : Tau}, (∀ x ∈ xs, Dat k x) → τ.length = 6 → compL (gTup 2 (gCons (gN 4) (gCons (gN 5) gNil))) cYes (eCall 2 [] (r__law_same k) (eCons (eVar 4) (eCons (eVar 5) eNil))) τ (xs.map fun t => .tup [t, t]) M = .ok (xs.map fun _ => .bl true) M := fun {xs τ} hx hτ => by
      rw [comp_true (fun u hu => ?_), List.map_map]; rfl
      obtain ⟨x, hxm, e⟩ := List.mem_map.mp hu
      subst e
      refine ⟨(τ.set 4 (some x)).set 5 (some x), by simp, ?_⟩
      match τ, hτ with
      | [a, b, c, d, e, f], _ => simp [same_refl (hx x hxm)]
    show fnRun false 6 (b__law_same k fun _ => r__law_same k) [t, t] M = _
    cases h with
    | non => rfl
    | bl b => cases b <;> rfl
    | int i =>
      simp [fnRun, b__law_same, List.replicate, isC, isAny, isNonT]
    | str x hx =>
      simp [fnRun, b__law_same, List.replicate, isC, isAny, isNonT, vEq_str hx hx]
    | lst hl hx =>
      rename_i xs
      have hz : (iZp (eVar 0) (eVar 1) : Ev (List T)) [some (.lst xs), some (.lst xs), some (.bl true), none, none, none] M = .ok (xs.map fun t => .tup [t, t]) M := by
        show Res.ok (zpL xs xs) M = _
        rw [zpL_self]
      simp [fnRun, b__law_same, List.replicate, isC, isAny, wipeT, hz, hl, zip hx, kAll_true]
    | tup hl hx =>
      rename_i xs
      have hz : (iZp (eVar 0) (eVar 1) : Ev (List T)) [some (.tup xs), some (.tup xs), some (.bl true), none, none, none] M = .ok (xs.map fun t => .tup [t, t]) M := by
        show Res.ok (zpL xs xs) M = _
        rw [zpL_self]
      have hk : ∀ xs, kLen [.tup xs] M = .ok (.int xs.length) M := fun _ => rfl
      simp [fnRun, b__law_same, List.replicate, isC, isAny, wipeT, hz, hl, zip hx, kAll_true, hk]
    | dic hl nd e hx =>
      rename_i ks xs
      have hi : ∀ x, isC (.dic ks xs) M x = some (match x with | .dict => true | _ => false) := fun _ => rfl
      have hk : kLen [.dic ks xs] M = .ok (.int ks.length) M := rfl
      have hI : ∀ τ, (iK (pkVar 1) : Ev (List T)) (some (.dic ks xs) :: some (.dic ks xs) :: τ) M = .ok (ks.map ofK) M := fun _ => rfl
      have h1 : compL (gN 3) cYes (e2 (kVw kIn0) (eVar 3) (eVar 0)) [some (.dic ks xs), some (.dic ks xs), none, none, none, none] (ks.map ofK) M = .ok ((ks.map ofK).map fun _ => .bl true) M := by
        refine comp_true fun u hu => ?_
        obtain ⟨q, hq, e⟩ := List.mem_map.mp hu
        subst e
        refine ⟨_, by rw [gN_run], ?_⟩
        have : kIn0 (ofK q) (.dic ks xs) = some true := by
          show (match toK (ofK q) with | some k => some (hasK k ks) | none => none) = _
          rw [toK_ofK]
          show some (hasK q ks) = _
          rw [hasK_iff.mpr hq]
        simp [kVw_some this]
      have h2 : compL (gN 3) cYes (eCall 2 [] (r__law_same k) (eCons (e2 kIx (eVar 0) (eVar 3)) (eCons (e2 kIx (eVar 1) (eVar 3)) eNil))) [some (.dic ks xs), some (.dic ks xs), some (.bl true), none, none, none] (ks.map ofK) M = .ok ((ks.map ofK).map fun _ => .bl true) M := by
        refine comp_true fun u hu => ?_
        obtain ⟨q, hq, e'⟩ := List.mem_map.mp hu
        subst e'
        refine ⟨_, by rw [gN_run], ?_⟩
        obtain ⟨x, hxm, hlk⟩ := lkT_of e q hq
        have : kIx (.dic ks xs) (ofK q) M = .ok x M := by
          cases q <;> (simp only [ofK, kIx, toK]; rw [hlk])
        simp [this, same_refl (hx x hxm)]
      have ht : ∀ τ, (eVar 1 : Ev T) (some (.dic ks xs) :: some (.dic ks xs) :: τ) M = .ok (.dic ks xs) M := fun _ => rfl
      simp only [fnRun, b__law_same, List.replicate, List.map_cons, List.map_nil, List.length_cons, List.length_nil, List.cons_append, List.nil_append, sSeq_run, sIf_run, eB_run, e1_run, eVar_run, List.getElem?_cons_succ, List.getElem?_cons_zero, bind_ok, kIsi, hi, if_true, sAsg_run, vAnd_run, e2_run, eA_run, eCons_run, eNil_run, hk, vEq_int, decide_true, eComp_run, hI, wipeT, List.set_cons_succ, List.set_cons_zero, List.length_map, hl, h1, kAll_true, gN_run, sRet_run, h2]
theorem comp_ints {i : Nat} {f : Ev T} {τ : Tau} {M : Sto} {h : Int → T} {xs : List Int} (H : ∀ x ∈ xs, f (τ.set i (some (.int x))) M = .ok (h x) M) : compL (gN i) cYes f τ (xs.map T.int) M = .ok (xs.map h) M := by
  have := compL_map (g := gN i) (f := f) (τ := τ) (M := M) (h := fun t => match t with | .int x => h x | _ => .non) (ts := xs.map T.int) (fun t ht => by
    obtain ⟨x, hx, e⟩ := List.mem_map.mp ht
    subst e
    exact ⟨_, rfl, H x hx⟩)
  rw [this, List.map_map]
  rfl
theorem is_whole_int {i : Int} {M : Sto} : r_is_whole [.int i] M = .ok (.bl true) M := by
  simp [r_is_whole, fnRun, b_is_whole]
theorem is_count_int {i l : Int} {M : Sto} : r_is_count [.int i, .int l] M = .ok (.bl (decide (l ≤ i ∧ 0 ≤ i))) M := by
  have : decide ((if 0 > l then 0 else l) ≤ i) = decide (l ≤ i ∧ 0 ≤ i) := by
    by_cases h : 0 > l
    · rw [if_pos h]; congr 1; simp only [eq_iff_iff]; omega
    · rw [if_neg h]; congr 1; simp only [eq_iff_iff]; omega
  simp [r_is_count, fnRun, b_is_count, is_whole_int, this]
structure Pck (p : List Int) : Prop where
  pos : ∀ x ∈ p, 0 ≤ x
  nd : p.Nodup
  len : p.length ≤ 4000
theorem counts_run {i : Nat} {τ : Tau} {M : Sto} {p : List Int} (h : ∀ x ∈ p, 0 ≤ x) (hi : τ.length = i + 1) : compL (gN i) cYes (eCall 2 [.int 0] r_is_count (eCons (eVar i) eNil)) τ (p.map T.int) M = .ok (p.map fun _ => .bl true) M :=
  comp_ints (h := fun _ => .bl true) fun x hx => by simp [hi, is_count_int, h x hx]
theorem is_pack_run {p : List Int} {M : Sto} (h : Pck p) : r_is_pack [li p] M = .ok (.bl true) M := by
  have hl := h.len
  have e1 : p.length ≤ 16777216 := by omega
  simp [r_is_pack, fnRun, b_is_pack, wipeT, counts_run h.pos, kAll_true, e1, ndI_iff.mpr h.nd, hl]
theorem check_pack_run {p : List Int} {M : Sto} (h : Pck p) : r_check_pack [li p] M = .ok .non M := by
  simp [r_check_pack, fnRun, b_check_pack, is_pack_run h]
theorem rgI_sorted (n : Nat) : (rgI n).Pairwise (· ≤ ·) := by
  unfold rgI
  rw [List.pairwise_map]
  have := List.pairwise_lt_range (n := n)
  exact this.imp fun h => by omega
theorem srt_rg {p : List Int} {n : Nat} (h : p.Perm (rgI n)) : srtI p = rgI n := (srtI_eq h.symm (rgI_sorted n)).symm
theorem okRg_n {n : Nat} (h : n ≤ 4000) : okRg 0 (n : Int) = true := by
  unfold okRg
  simp only [Bool.and_eq_true, decide_eq_true_eq]
  omega
theorem pck_perm {p : List Int} {n : Nat} (h : p.Perm (rgI n)) (hn : n ≤ 4000) : Pck p :=
  ⟨fun x hx => (mem_rgI.mp (h.mem_iff.mp hx)).1, h.nodup_iff.mpr (rgI_nodup n), by rw [h.length_eq, rgI_length]; exact hn⟩
theorem is_move_there_run {p : List Int} {n : Nat} {M : Sto} (h : p.Perm (rgI n)) (hn : n ≤ 4000) : r_is_move_there [.int n, li p] M = .ok (.bl true) M := by
  have hp := pck_perm h hn
  have hl : p.length = n := by rw [h.length_eq, rgI_length]
  simp [r_is_move_there, fnRun, b_is_move_there, List.replicate, wipeT, counts_run hp.pos, kAll_true, hl, okRg_n hn, rgT_rgI, srt_rg h, show n ≤ 16777216 by omega]
theorem check_many_run {n : Int} {M : Sto} (h : 0 ≤ n) : r_check_many [.int n] M = .ok .non M := by
  simp [r_check_many, fnRun, b_check_many, is_count_int, h]
theorem whole_pack_run {n : Nat} {M : Sto} (hn : n ≤ 4000) : r_whole_pack [.int n] M = .ok (li (rgI n)) M := by
  simp [r_whole_pack, fnRun, b_whole_pack, check_many_run (Int.natCast_nonneg n), okRg_n hn, rgT_rgI]
/-! ### cuts -/
def rot {α : Type} (p : List α) (i : Nat) : List α := p.drop i ++ p.take i
theorem rot_length {α : Type} {p : List α} {i : Nat} : (rot p i).length = p.length := by
  simp only [rot, List.length_append, List.length_drop, List.length_take]; omega
theorem rot_perm {α : Type} {p : List α} {i : Nat} : (rot p i).Perm p := List.perm_append_comm.trans (by rw [List.take_append_drop])
theorem rot_map {α β : Type} {f : α → β} {p : List α} {i : Nat} : rot (p.map f) i = (rot p i).map f := by simp [rot]
theorem kMod_pos {i j : Int} {M : Sto} (h : 0 < j) : kMod (.int i) (.int j) M = .ok (.int (i % j)) M := if_pos h
theorem cut_there_run {p : List Int} {b : Int} {M : Sto} (hp : p ≠ []) (hl : p.length ≤ 4000) : r_cut_there [li p, .int b] M = .ok (li (rot p (b % p.length).toNat)) M := by
  have h1 : 0 < (p.length : Int) := by
    have := List.length_pos_iff.mpr hp
    omega
  have h2 : 0 ≤ b % (p.length : Int) := Int.emod_nonneg _ (by omega)
  have h4 : kVw kNe0 (li p) (.lst []) M = .ok (.bl true) M := by
    have := vNe_li (xs := p) (ys := []) (M := M)
    rw [decide_eq_false hp] at this
    exact this
  have h5 : p.length - (b % (p.length : Int)).toNat + min (b % (p.length : Int)).toNat p.length ≤ 16777216 := by omega
  simp [r_cut_there, fnRun, b_cut_there, h4, kMod_pos h1, cut_to h2, cut_from h2, rot, h5]
end TL
end
section
set_option Elab.async false
set_option linter.all false
set_option maxRecDepth 100000
/-! H85: tables: states, acts, what they come to. -/
namespace TL
open PySem PySem.Spec PyProof.Rows L2
abbrev sH : Str := ⟨#[104, 101, 97, 112, 115]⟩
abbrev sN : Str := ⟨#[110, 101, 120, 116]⟩
abbrev sM : Str := ⟨#[109, 97, 110, 121]⟩
abbrev wMove : Str := ⟨#[109, 111, 118, 101]⟩
abbrev wCut : Str := ⟨#[99, 117, 116]⟩
abbrev wTurn : Str := ⟨#[116, 117, 114, 110]⟩
abbrev wSplit : Str := ⟨#[115, 112, 108, 105, 116]⟩
abbrev wJoin : Str := ⟨#[106, 111, 105, 110]⟩
abbrev wDeal : Str := ⟨#[100, 101, 97, 108]⟩
abbrev sDone : Str := ⟨#[100, 111, 110, 101]⟩
abbrev sIdle : Str := ⟨#[105, 100, 108, 101]⟩
abbrev sRow : Str := ⟨#[114, 111, 119]⟩
abbrev sAt : Str := ⟨#[97, 116]⟩
abbrev sHouse : Str := ⟨#[72, 111, 117, 115, 101]⟩
@[simp] theorem eq_wMove_wMove {M : Sto} : kVw kEq0 (.str wMove) (.str wMove) M = .ok (.bl true) M := kVw_some (by decide +kernel)
@[simp] theorem eq_wMove_wCut {M : Sto} : kVw kEq0 (.str wMove) (.str wCut) M = .ok (.bl false) M := kVw_some (by decide +kernel)
@[simp] theorem eq_wMove_wTurn {M : Sto} : kVw kEq0 (.str wMove) (.str wTurn) M = .ok (.bl false) M := kVw_some (by decide +kernel)
@[simp] theorem eq_wMove_wSplit {M : Sto} : kVw kEq0 (.str wMove) (.str wSplit) M = .ok (.bl false) M := kVw_some (by decide +kernel)
@[simp] theorem eq_wMove_wJoin {M : Sto} : kVw kEq0 (.str wMove) (.str wJoin) M = .ok (.bl false) M := kVw_some (by decide +kernel)
@[simp] theorem eq_wMove_wDeal {M : Sto} : kVw kEq0 (.str wMove) (.str wDeal) M = .ok (.bl false) M := kVw_some (by decide +kernel)
@[simp] theorem eq_wCut_wMove {M : Sto} : kVw kEq0 (.str wCut) (.str wMove) M = .ok (.bl false) M := kVw_some (by decide +kernel)
@[simp] theorem eq_wCut_wCut {M : Sto} : kVw kEq0 (.str wCut) (.str wCut) M = .ok (.bl true) M := kVw_some (by decide +kernel)
@[simp] theorem eq_wCut_wTurn {M : Sto} : kVw kEq0 (.str wCut) (.str wTurn) M = .ok (.bl false) M := kVw_some (by decide +kernel)
@[simp] theorem eq_wCut_wSplit {M : Sto} : kVw kEq0 (.str wCut) (.str wSplit) M = .ok (.bl false) M := kVw_some (by decide +kernel)
@[simp] theorem eq_wCut_wJoin {M : Sto} : kVw kEq0 (.str wCut) (.str wJoin) M = .ok (.bl false) M := kVw_some (by decide +kernel)
@[simp] theorem eq_wCut_wDeal {M : Sto} : kVw kEq0 (.str wCut) (.str wDeal) M = .ok (.bl false) M := kVw_some (by decide +kernel)
@[simp] theorem eq_wTurn_wMove {M : Sto} : kVw kEq0 (.str wTurn) (.str wMove) M = .ok (.bl false) M := kVw_some (by decide +kernel)
@[simp] theorem eq_wTurn_wCut {M : Sto} : kVw kEq0 (.str wTurn) (.str wCut) M = .ok (.bl false) M := kVw_some (by decide +kernel)
@[simp] theorem eq_wTurn_wTurn {M : Sto} : kVw kEq0 (.str wTurn) (.str wTurn) M = .ok (.bl true) M := kVw_some (by decide +kernel)
@[simp] theorem eq_wTurn_wSplit {M : Sto} : kVw kEq0 (.str wTurn) (.str wSplit) M = .ok (.bl false) M := kVw_some (by decide +kernel)
@[simp] theorem eq_wTurn_wJoin {M : Sto} : kVw kEq0 (.str wTurn) (.str wJoin) M = .ok (.bl false) M := kVw_some (by decide +kernel)
@[simp] theorem eq_wTurn_wDeal {M : Sto} : kVw kEq0 (.str wTurn) (.str wDeal) M = .ok (.bl false) M := kVw_some (by decide +kernel)
@[simp] theorem eq_wSplit_wMove {M : Sto} : kVw kEq0 (.str wSplit) (.str wMove) M = .ok (.bl false) M := kVw_some (by decide +kernel)
@[simp] theorem eq_wSplit_wCut {M : Sto} : kVw kEq0 (.str wSplit) (.str wCut) M = .ok (.bl false) M := kVw_some (by decide +kernel)
@[simp] theorem eq_wSplit_wTurn {M : Sto} : kVw kEq0 (.str wSplit) (.str wTurn) M = .ok (.bl false) M := kVw_some (by decide +kernel)
@[simp] theorem eq_wSplit_wSplit {M : Sto} : kVw kEq0 (.str wSplit) (.str wSplit) M = .ok (.bl true) M := kVw_some (by decide +kernel)
@[simp] theorem eq_wSplit_wJoin {M : Sto} : kVw kEq0 (.str wSplit) (.str wJoin) M = .ok (.bl false) M := kVw_some (by decide +kernel)
@[simp] theorem eq_wSplit_wDeal {M : Sto} : kVw kEq0 (.str wSplit) (.str wDeal) M = .ok (.bl false) M := kVw_some (by decide +kernel)
@[simp] theorem eq_wJoin_wMove {M : Sto} : kVw kEq0 (.str wJoin) (.str wMove) M = .ok (.bl false) M := kVw_some (by decide +kernel)
@[simp] theorem eq_wJoin_wCut {M : Sto} : kVw kEq0 (.str wJoin) (.str wCut) M = .ok (.bl false) M := kVw_some (by decide +kernel)
@[simp] theorem eq_wJoin_wTurn {M : Sto} : kVw kEq0 (.str wJoin) (.str wTurn) M = .ok (.bl false) M := kVw_some (by decide +kernel)
@[simp] theorem eq_wJoin_wSplit {M : Sto} : kVw kEq0 (.str wJoin) (.str wSplit) M = .ok (.bl false) M := kVw_some (by decide +kernel)
@[simp] theorem eq_wJoin_wJoin {M : Sto} : kVw kEq0 (.str wJoin) (.str wJoin) M = .ok (.bl true) M := kVw_some (by decide +kernel)
@[simp] theorem eq_wJoin_wDeal {M : Sto} : kVw kEq0 (.str wJoin) (.str wDeal) M = .ok (.bl false) M := kVw_some (by decide +kernel)
@[simp] theorem eq_wDeal_wMove {M : Sto} : kVw kEq0 (.str wDeal) (.str wMove) M = .ok (.bl false) M := kVw_some (by decide +kernel)
@[simp] theorem eq_wDeal_wCut {M : Sto} : kVw kEq0 (.str wDeal) (.str wCut) M = .ok (.bl false) M := kVw_some (by decide +kernel)
@[simp] theorem eq_wDeal_wTurn {M : Sto} : kVw kEq0 (.str wDeal) (.str wTurn) M = .ok (.bl false) M := kVw_some (by decide +kernel)
@[simp] theorem eq_wDeal_wSplit {M : Sto} : kVw kEq0 (.str wDeal) (.str wSplit) M = .ok (.bl false) M := kVw_some (by decide +kernel)
@[simp] theorem eq_wDeal_wJoin {M : Sto} : kVw kEq0 (.str wDeal) (.str wJoin) M = .ok (.bl false) M := kVw_some (by decide +kernel)
@[simp] theorem eq_wDeal_wDeal {M : Sto} : kVw kEq0 (.str wDeal) (.str wDeal) M = .ok (.bl true) M := kVw_some (by decide +kernel)
abbrev Crd := Int × Int
def crd (c : Crd) : T := .tup [.int c.1, .int c.2]
def hpT (h : List Crd) : T := .lst (h.map crd)
abbrev Hs := List (Int × List Crd)
def kyT (hs : Hs) : List Key := hs.map fun x => Sum.inl x.1
def vlT (hs : Hs) : List T := hs.map fun x => hpT x.2
def hsT (hs : Hs) : T := .dic (kyT hs) (vlT hs)
def stT (hs : Hs) (nxt many : Int) : T := .dic [.inr sH, .inr sN, .inr sM] [hsT hs, .int nxt, .int many]
def lk {α : Type} (k : Int) : List (Int × α) → Option α
  | [] => none
  | (j, v) :: r => if j = k then some v else lk k r
theorem lkT_hs {k : Int} : ∀ {hs : Hs}, lkT (.inl k) (kyT hs) (vlT hs) = (lk k hs).map hpT
  | [] => rfl
  | (j, v) :: r => by
    show (if (Sum.inl j : Key) = Sum.inl k then some (hpT v) else lkT (.inl k) (kyT r) (vlT r)) = (if j = k then some v else lk k r).map hpT
    by_cases h : j = k
    · rw [if_pos h, if_pos (by rw [h])]; rfl
    · rw [if_neg h, if_neg fun e => h (Sum.inl.inj e), lkT_hs]
theorem hasK_hs {k : Int} : ∀ {hs : Hs}, hasK (.inl k) (kyT hs) = (lk k hs).isSome
  | [] => rfl
  | (j, v) :: r => by
    show (if (Sum.inl j : Key) = Sum.inl k then true else hasK (.inl k) (kyT r)) = (if j = k then some v else lk k r).isSome
    by_cases h : j = k
    · rw [if_pos h, if_pos (by rw [h])]; rfl
    · rw [if_neg h, if_neg fun e => h (Sum.inl.inj e), hasK_hs]
theorem kIx_dic {ks : List Key} {xs : List T} {a : T} {k : Key} {t : T} {M : Sto} (h1 : toK a = some k) (h2 : lkT k ks xs = some t) : kIx (.dic ks xs) a M = .ok t M := by
  simp only [kIx, h1, h2]
theorem ix_heaps {hs : Hs} {n m : Int} {M : Sto} : kIx (stT hs n m) (.str sH) M = .ok (hsT hs) M := kIx_dic rfl (by simp [lkT])
theorem ix_next {hs : Hs} {n m : Int} {M : Sto} : kIx (stT hs n m) (.str sN) M = .ok (.int n) M := kIx_dic rfl (by simp [lkT])
theorem ix_many {hs : Hs} {n m : Int} {M : Sto} : kIx (stT hs n m) (.str sM) M = .ok (.int m) M := kIx_dic rfl (by simp [lkT])
theorem ix_hs {hs : Hs} {k : Int} {h : List Crd} {M : Sto} (e : lk k hs = some h) : kIx (hsT hs) (.int k) M = .ok (hpT h) M := kIx_dic rfl (by rw [lkT_hs, e]; rfl)
theorem in_hs {hs : Hs} {k : Int} {M : Sto} : kVw kIn0 (.int k) (hsT hs) M = .ok (.bl (lk k hs).isSome) M := kVw_some (by show some (hasK (.inl k) (kyT hs)) = _; rw [hasK_hs])
theorem nin_hs {hs : Hs} {k : Int} {M : Sto} : kVw (fun a b => (kIn0 a b).map not) (.int k) (hsT hs) M = .ok (.bl (!(lk k hs).isSome)) M := kVw_some (by show (some (hasK (.inl k) (kyT hs))).map not = _; rw [hasK_hs]; rfl)
theorem kIx_tup {xs : List T} {i : Int} {M : Sto} {t : T} (h0 : 0 ≤ i) (h : xs[i.toNat]? = some t) : kIx (.tup xs) (.int i) M = .ok t M := by
  have hl : i.toNat < xs.length := by
    rcases Nat.lt_or_ge i.toNat xs.length with h1 | h1
    · exact h1
    · rw [List.getElem?_eq_none h1] at h; cases h
  have : atI xs i = some t := by
    unfold atI ixN
    rw [if_pos h0, if_pos (by omega)]
    exact h
  show (match atI xs i with | some t => Res.ok t M | none => .stuck) = _
  rw [this]
@[simp] theorem len_hp {h : List Crd} {M : Sto} : kLen [hpT h] M = .ok (.int h.length) M := by
  show Res.ok (T.int ((h.map crd).length : Nat)) M = _
  rw [List.length_map]
/-- an act of a word and two counts -/
def actT (w : Str) (a b : Int) : T := .tup [.str w, .int a, .int b]
@[simp] theorem act0 {w : Str} {a b : Int} {M : Sto} : kIx (actT w a b) (.int 0) M = .ok (.str w) M := kIx_tup (by decide) rfl
@[simp] theorem act1 {w : Str} {a b : Int} {M : Sto} : kIx (actT w a b) (.int 1) M = .ok (.int a) M := kIx_tup (by decide) rfl
@[simp] theorem act2 {w : Str} {a b : Int} {M : Sto} : kIx (actT w a b) (.int 2) M = .ok (.int b) M := kIx_tup (by decide) rfl
theorem is_said_run {w x : Str} {a b : Int} {c : Bool} {M : Sto} (h : kVw kEq0 (.str w) (.str x) M = .ok (.bl c) M) : r_is_said [actT w a b, .str x, .int 3] M = .ok (.bl c) M := by
  have h1 : kIsi .tuple (actT w a b) M = .ok (.bl true) M := rfl
  have h2 : kLen [actT w a b] M = .ok (.int 3) M := rfl
  simp [r_is_said, fnRun, b_is_said, r_is_tuple_of, b_is_tuple_of, h, h1, h2]
/-- a word of an act with two counts, told by its looks -/
structure Wd2 (w : Str) (bM bC bT bS bJ bD : Bool) : Prop where
  m : ∀ M, kVw kEq0 (.str w) (.str wMove) M = .ok (.bl bM) M
  c : ∀ M, kVw kEq0 (.str w) (.str wCut) M = .ok (.bl bC) M
  t : ∀ M, kVw kEq0 (.str w) (.str wTurn) M = .ok (.bl bT) M
  s : ∀ M, kVw kEq0 (.str w) (.str wSplit) M = .ok (.bl bS) M
  j : ∀ M, kVw kEq0 (.str w) (.str wJoin) M = .ok (.bl bJ) M
  d : ∀ M, kVw kEq0 (.str w) (.str wDeal) M = .ok (.bl bD) M
theorem wd_cut : Wd2 wCut false true false false false false := ⟨fun _ => eq_wCut_wMove, fun _ => eq_wCut_wCut, fun _ => eq_wCut_wTurn, fun _ => eq_wCut_wSplit, fun _ => eq_wCut_wJoin, fun _ => eq_wCut_wDeal⟩
theorem wd_join : Wd2 wJoin false false false false true false := ⟨fun _ => eq_wJoin_wMove, fun _ => eq_wJoin_wCut, fun _ => eq_wJoin_wTurn, fun _ => eq_wJoin_wSplit, fun _ => eq_wJoin_wJoin, fun _ => eq_wJoin_wDeal⟩
theorem wd_deal : Wd2 wDeal false false false false false true := ⟨fun _ => eq_wDeal_wMove, fun _ => eq_wDeal_wCut, fun _ => eq_wDeal_wTurn, fun _ => eq_wDeal_wSplit, fun _ => eq_wDeal_wJoin, fun _ => eq_wDeal_wDeal⟩
theorem is_act_run {w : Str} {a b : Int} {bC bT bS bJ bD : Bool} {M : Sto} (h : Wd2 w false bC bT bS bJ bD) (hw : (bC || bT || bS || bJ || bD) = true) (ha : 0 ≤ a) (hb : 0 ≤ b) : r_is_act [actT w a b] M = .ok (.bl true) M := by
  have e0 := is_said_run (a := a) (b := b) (h.m M)
  have hc : compL (gN 2) cYes (eCall 3 [] r_is_said (eCons (eVar 0) (eCons (eVar 2) (eCons (eC (.int 3)) eNil)))) [some (actT w a b), some (.tup [.str wCut, .str wTurn, .str wSplit, .str wJoin, .str wDeal]), none] [.str wCut, .str wTurn, .str wSplit, .str wJoin, .str wDeal] M = .ok ([bC, bT, bS, bJ, bD].map T.bl) M := by
    simp [compL, is_said_run (a := a) (b := b) (h.c M), is_said_run (a := a) (b := b) (h.t M), is_said_run (a := a) (b := b) (h.s M), is_said_run (a := a) (b := b) (h.j M), is_said_run (a := a) (b := b) (h.d M)]
  have hk : kAny [.lst ([bC, bT, bS, bJ, bD].map T.bl)] M = .ok (.bl true) M := by
    show (match blTs ([bC, bT, bS, bJ, bD].map T.bl) with | some bs => Res.ok (T.bl (bs.any id)) M | none => .stuck) = _
    rw [blTs_map]
    have : [bC, bT, bS, bJ, bD].any id = true := by simpa [Bool.or_assoc] using hw
    simp only [this]
  simp only [List.map_cons, List.map_nil] at hk hc
  simp [r_is_act, fnRun, b_is_act, List.replicate, e0, wipeT, hc, hk, is_count_int, ha, hb]
theorem fits_cut {hs : Hs} {n m a b : Int} {h : List Crd} {M : Sto} (e : lk a hs = some h) (hb : b ≤ h.length) : r_fits [stT hs n m, actT wCut a b] M = .ok (.bl true) M := by
  simp [r_fits, fnRun, b_fits, List.replicate, ix_heaps, nin_hs, e, ix_hs e, hb]
theorem fits_deal {hs : Hs} {n m a b : Int} {h : List Crd} {M : Sto} (e : lk a hs = some h) (hb0 : 2 ≤ b) (hb : b ≤ h.length) : r_fits [stT hs n m, actT wDeal a b] M = .ok (.bl true) M := by
  simp [r_fits, fnRun, b_fits, List.replicate, ix_heaps, nin_hs, e, ix_hs e, hb, hb0, eChain]
theorem fits_join {hs : Hs} {n m a b : Int} {h h' : List Crd} {M : Sto} (e : lk a hs = some h) (e' : lk b hs = some h') (hb : b ≠ a) : r_fits [stT hs n m, actT wJoin a b] M = .ok (.bl true) M := by
  simp [r_fits, fnRun, b_fits, List.replicate, ix_heaps, nin_hs, in_hs, e, e', ix_hs e, hb]
end TL
end
section
set_option Elab.async false
set_option linter.all false
set_option maxRecDepth 100000
/-! I85: heaps taken away, dealt, joined; the house's do. -/
namespace TL
open PySem PySem.Spec PyProof.Rows L2
/-! ### data -/
theorem Dat.succ : ∀ {k : Nat} {t : T}, Dat k t → Dat (k + 1) t
  | _ + 1, _, .non => .non
  | _ + 1, _, .bl b => .bl b
  | _ + 1, _, .int i => .int i
  | _ + 1, _, .str x h => .str x h
  | _ + 1, _, .lst h1 h2 => .lst h1 fun x hx => Dat.succ (h2 x hx)
  | _ + 1, _, .tup h1 h2 => .tup h1 fun x hx => Dat.succ (h2 x hx)
  | _ + 1, _, .dic h1 h2 h3 h4 => .dic h1 h2 h3 fun x hx => Dat.succ (h4 x hx)
theorem frzM_id {f : T → Sto → Option (T × Sto)} {M : Sto} : ∀ {ts : List T}, (∀ t ∈ ts, f t M = some (t, M)) → frzM f ts M = some (ts, M)
  | [], _ => rfl
  | t :: ts, h => by
    show (match f t M with | some (u, M1) => (match frzM f ts M1 with | some (us, M2) => some (u :: us, M2) | none => none) | none => none) = _
    rw [h t List.mem_cons_self]
    simp only [frzM_id fun u hu => h u (List.mem_cons_of_mem _ hu)]
theorem frz_dat : ∀ {k : Nat} {t : T} {M : Sto}, Dat k t → frzD k t M = some (t, M)
  | _ + 1, _, M, .non => rfl
  | _ + 1, _, M, .bl b => rfl
  | _ + 1, _, M, .int i => rfl
  | _ + 1, _, M, .str x _ => rfl
  | k + 1, .lst xs, M, .lst _ h => by
    show (match frzM (frzD k) xs M with | some (us, M') => some (T.lst us, M') | none => none) = _
    rw [frzM_id fun t ht => frz_dat (h t ht)]
  | k + 1, .tup xs, M, .tup _ h => by
    show (match frzM (frzD k) xs M with | some (us, M') => some (T.tup us, M') | none => none) = _
    rw [frzM_id fun t ht => frz_dat (h t ht)]
  | k + 1, .dic ks xs, M, .dic _ _ _ h => by
    show (match frzM (frzD k) xs M with | some (us, M') => some (T.dic ks us, M') | none => none) = _
    rw [frzM_id fun t ht => frz_dat (h t ht)]
theorem dat_crd {k : Nat} {c : Crd} : Dat (k + 2) (crd c) := .tup (by simp) fun x hx => by
  simp only [List.mem_cons, List.not_mem_nil, or_false] at hx
  rcases hx with rfl | rfl <;> exact .int _
theorem dat_hp {k : Nat} {h : List Crd} (hl : h.length ≤ 4000) : Dat (k + 3) (hpT h) := .lst (by rw [List.length_map]; omega) fun x hx => by
  obtain ⟨c, _, e⟩ := List.mem_map.mp hx
  subst e; exact dat_crd
/-- heaps as they are here: few, each number once, none long -/
structure HsOk (hs : Hs) : Prop where
  asc : (hs.map Prod.fst).Pairwise (· < ·)
  few : hs.length ≤ 60
  len : ∀ x ∈ hs, x.2.length ≤ 4000
theorem HsOk.nd {hs : Hs} (h : HsOk hs) : (hs.map Prod.fst).Nodup := h.asc.imp fun h e => by omega
theorem kyT_map (hs : Hs) : kyT hs = (hs.map Prod.fst).map Sum.inl := by unfold kyT; rw [List.map_map]; rfl
theorem nodup_inl {l : List Int} (h : l.Nodup) : (l.map (Sum.inl : Int → Key)).Nodup := by
  rw [List.Nodup, List.pairwise_map]
  exact h.imp fun h e => h (Sum.inl.inj e)
theorem dat_hs {k : Nat} {hs : Hs} (h : HsOk hs) : Dat (k + 4) (hsT hs) := .dic (by unfold kyT; rw [List.length_map]; have := h.few; omega) (by rw [kyT_map]; exact nodup_inl h.nd) (by unfold kyT vlT; rw [List.length_map, List.length_map]) fun x hx => by
  obtain ⟨y, hy, e⟩ := List.mem_map.mp hx
  subst e; exact dat_hp (h.len y hy)
theorem dat_st {k : Nat} {hs : Hs} {n m : Int} (h : HsOk hs) : Dat (k + 5) (stT hs n m) := .dic (by simp) (by decide) rfl fun x hx => by
  simp only [List.mem_cons, List.not_mem_nil, or_false] at hx
  rcases hx with rfl | rfl | rfl
  · exact dat_hs h
  · exact .int _
  · exact .int _
theorem can_word {x : Str} (h : (PyData.str x).canLay0 = true) {k : Nat} : Dat (k + 1) (.str x) := .str x h
theorem dat_act {k : Nat} {w : Str} {a b : Int} (h : (PyData.str w).canLay0 = true) : Dat (k + 2) (actT w a b) := .tup (by simp) fun x hx => by
  simp only [List.mem_cons, List.not_mem_nil, or_false] at hx
  rcases hx with rfl | rfl | rfl
  · exact .str _ h
  · exact .int _
  · exact .int _
theorem copied_run : ∀ {k : Nat} {t : T} {M : Sto}, Dat k t → r_copied k [t] M = .ok t M
  | k + 1, t, M, h => by
    have cp : ∀ {xs : List T} {τ : Tau}, (∀ x ∈ xs, Dat k x) → τ.length = 3 → compL (gN 1) cYes (eCall 1 [] (r_copied k) (eCons (eVar 1) eNil)) τ xs M = .ok xs M := fun {xs τ} hx hτ => by
      have := compL_map (g := gN 1) (f := eCall 1 [] (r_copied k) (eCons (eVar 1) eNil)) (τ := τ) (M := M) (h := id) (ts := xs) fun t ht => ⟨_, rfl, by
        match τ, hτ with
        | [a, b, c], _ => simp [copied_run (hx t ht)]⟩
      rwa [List.map_id] at this
    show fnRun false 3 (b_copied k fun _ => r_copied k) [t] M = _
    cases h with
    | non => rfl
    | bl b => rfl
    | int i => rfl
    | str x hx => rfl
    | lst hl hx =>
      rename_i xs
      simp [fnRun, b_copied, List.replicate, wipeT, cp hx, hl]
    | tup hl hx =>
      rename_i xs
      simp [fnRun, b_copied, List.replicate, wipeT, cp hx, hl, kTupC]
    | dic hl nd e hx =>
      rename_i ks xs
      have h1 : ∀ c, kIsi c (.dic ks xs) M = .ok (.bl (match c with | .dict => true | _ => false)) M := fun _ => rfl
      have key : ∀ (a0 : T) (ks : List Key) (xs : List T) (ak : List Key) (ax : List T), ks.length = xs.length → (ak ++ ks).Nodup → ak.length = ax.length → (ak ++ ks).length ≤ 16777216 → (∀ x ∈ xs, Dat k x) →
          dcompL (gTup 2 (gCons (gN 2) (gCons (gN 1) gNil))) cYes (eVar 2) (eCall 1 [] (r_copied k) (eCons (eVar 1) eNil)) [some a0, none, none] (itmL ks xs) ak ax M = .ok (ak ++ ks, ax ++ xs) M := fun a0 ks => by
        induction ks with
        | nil =>
          intro xs ak ax hl _ _ _ _
          cases xs with
          | nil => simp [itmL, dcompL]
          | cons _ _ => simp at hl
        | cons q ks ih =>
          intro xs ak ax hl nd hal hle hx
          cases xs with
          | nil => simp at hl
          | cons x xs =>
            have hq : ¬ hasK q ak = true := fun z => by
              have := hasK_iff.mp z
              rw [List.nodup_append] at nd
              exact nd.2.2 q this q List.mem_cons_self rfl
            have p1 : putKs q ak = ak ++ [q] := by unfold putKs; rw [if_neg hq]
            have p2 : ∀ (ak : List Key) (ax : List T), ak.length = ax.length → q ∉ ak → putTs q x ak ax = ax ++ [x] := fun ak => by
              induction ak with
              | nil =>
                intro ax h _
                cases ax with
                | nil => rfl
                | cons _ _ => simp at h
              | cons j ak ih =>
                intro ax h hn
                cases ax with
                | nil => simp at h
                | cons u ax =>
                  have : ¬ j = q := fun e => hn (by simp [e])
                  show (if j = q then x :: ax else u :: putTs q x ak ax) = _
                  rw [if_neg this, ih ax (by simpa using h) fun z => hn (List.mem_cons_of_mem _ z)]; rfl
            have p2 := p2 ak ax hal fun z => hq (hasK_iff.mpr z)
            have hlt : ak.length < 16777216 := by simp at hle; omega
            have := ih xs (ak ++ [q]) (ax ++ [x]) (by simpa using hl) (by simpa using nd) (by simp [hal]) (by simpa using hle) fun y hy => hx y (List.mem_cons_of_mem _ hy)
            simp [itmL, dcompL, toK_ofK, hlt, p1, p2, copied_run (hx x List.mem_cons_self), this]
      have k2 := key (.dic ks xs) ks xs [] [] e (by simpa using nd) rfl (by simpa using hl) hx
      have hit : ∀ τ, (iItm 0) (some (.dic ks xs) :: τ) M = .ok (itmL ks xs) M := fun _ => rfl
      simp only [List.nil_append] at k2
      simp only [fnRun, b_copied, List.replicate, List.map_cons, List.map_nil, List.length_cons, List.length_nil, List.cons_append, List.nil_append, sSeq_run, sIf_run, eB_run, e1_run, eVar_run, List.getElem?_cons_zero, bind_ok, h1, Bool.false_eq_true, if_false, sNil_run, if_true, sRet_run, eDcomp, hit, wipeT, List.set_cons_zero, List.set_cons_succ, k2]
end TL
end
section
set_option Elab.async false
set_option linter.all false
set_option maxRecDepth 100000
/-! J85: dealing. -/
namespace TL
open PySem PySem.Spec PyProof.Rows L2
def cnt (n i k : Nat) : Nat := (n - i - 1) / k + 1
/-- the items at i, i + k, .. -/
def every {α : Type} [Inhabited α] (k i : Nat) (h : List α) : List α := (List.range (cnt h.length i k)).map fun t => (h[i + t * k]?).getD default
theorem idx_lt {n i k t : Nat} (hi : i < n) (ht : t < cnt n i k) : i + t * k < n := by
  unfold cnt at ht
  have h1 : t ≤ (n - i - 1) / k := by omega
  have h2 := Nat.mul_le_mul_right k h1
  have h3 := Nat.div_mul_le_self (n - i - 1) k
  omega
theorem every_map {α β : Type} [Inhabited α] [Inhabited β] {f : α → β} {k i : Nat} {h : List α} (hi : i < h.length) : every k i (h.map f) = (every k i h).map f := by
  unfold every
  rw [List.map_map, List.length_map]
  refine List.map_congr_left fun t ht => ?_
  have := idx_lt hi (List.mem_range.mp ht)
  simp [List.getElem?_eq_getElem this]
theorem every_mem {α : Type} [Inhabited α] {k i : Nat} {h : List α} (hi : i < h.length) : ∀ x ∈ every k i h, x ∈ h := fun x hx => by
  obtain ⟨t, ht, e⟩ := List.mem_map.mp hx
  have := idx_lt hi (List.mem_range.mp ht)
  rw [List.getElem?_eq_getElem this] at e
  subst e
  exact List.getElem_mem this
theorem every_len {α : Type} [Inhabited α] {k i : Nat} {h : List α} (hi : i < h.length) : 0 < (every k i h).length ∧ (every k i h).length ≤ h.length := by
  unfold every
  rw [List.length_map, List.length_range]
  have : (h.length - i - 1) / k ≤ h.length - i - 1 := Nat.div_le_self _ _
  unfold cnt
  generalize (h.length - i - 1) / k = q at this ⊢
  omega
theorem rsize {n i k : Nat} (hi : i < n) (hk : 0 < k) : Builtin.Range.rangeSize (i : Int) (n : Int) (k : Int) = (cnt n i k : Nat) := by
  unfold Builtin.Range.rangeSize cnt
  rw [if_pos (by omega), if_pos (by omega)]
  have : (n : Int) - i - 1 = ((n - i - 1 : Nat) : Int) := by omega
  rw [this]
  norm_cast
theorem small_ok {n i k : Nat} (hn : n ≤ 4000) (hi : i < n) (hk : 0 < k) (hk2 : k ≤ 4000) : Builtin.Range.small (i : Int) (n : Int) (k : Int) = true := by
  unfold Builtin.Range.small
  rw [rsize hi hk, if_pos (show (k : Int) > 0 by omega)]
  have h1 : (n - i - 1) / k ≤ n - i - 1 := Nat.div_le_self _ _
  have h2 := Nat.div_mul_le_self (n - i - 1) k
  have h3 : cnt n i k * k ≤ 8000 := by
    unfold cnt
    rw [Nat.add_mul]; omega
  have h4 : cnt n i k ≤ 4000 := by unfold cnt; generalize (n - i - 1) / k = q at h1 ⊢; omega
  generalize cnt n i k = c at h3 h4
  simp only [Builtin.Range.rangeFitsLong, Bool.and_eq_true, Bool.or_eq_true, decide_eq_true_eq, beq_iff_eq]
  have h5 : ((c : Nat) : Int) * (k : Int) ≤ 8000 := by exact_mod_cast h3
  have h6 : (0 : Int) ≤ ((c : Nat) : Int) * (k : Int) := Int.mul_nonneg (by omega) (by omega)
  omega
@[simp] theorem iRg3_run {a b c : Ev T} {τ : Tau} {M : Sto} : iRg3 a b c τ M = (a τ M).bind fun t M1 => (b τ M1).bind fun u M2 => (c τ M2).bind fun v M3 => match t, u, v with
  | .int i, .int j, .int c => if c ≠ 0 ∧ c.natAbs < 1073741824 ∧ Builtin.Range.small i j c = true ∧ 0 ≤ Builtin.Range.rangeSize i j c then .ok (rgC i c (Builtin.Range.rangeSize i j c).toNat) M3 else .stuck
  | _, _, _ => .stuck := nr rfl
theorem comp_every {j : Nat} {f : Ev T} {τ : Tau} {M : Sto} {h : List Crd} {i k : Nat} (hi : i < h.length) (H : ∀ x (c : Crd), h[x]? = some c → f (τ.set j (some (.int (x : Nat)))) M = .ok (crd c) M) : compL (gN j) cYes f τ (rgC (i : Int) (k : Int) (cnt h.length i k)) M = .ok ((every k i h).map crd) M := by
  have := compL_map (g := gN j) (f := f) (τ := τ) (M := M) (h := fun t => match t with | .int x => crd ((h[x.toNat]?).getD default) | _ => .non) (ts := rgC (i : Int) (k : Int) (cnt h.length i k)) fun t ht => by
    unfold rgC at ht
    obtain ⟨s, hs, e⟩ := List.mem_map.mp ht
    have hlt := idx_lt hi (List.mem_range.mp hs)
    subst e
    have ex : ((i : Int) + (s : Nat) * (k : Int)) = ((i + s * k : Nat) : Int) := by push_cast; rfl
    refine ⟨_, rfl, ?_⟩
    have h2 := H _ _ (List.getElem?_eq_getElem hlt)
    rw [← ex] at h2
    rw [h2]
    have e3 : ((i : Int) + (s : Nat) * (k : Int)).toNat = i + s * k := by rw [ex, Int.toNat_natCast]
    show Res.ok (crd h[i + s * k]) M = .ok (crd ((h[((i : Int) + (s : Nat) * (k : Int)).toNat]?).getD default)) M
    rw [e3, List.getElem?_eq_getElem hlt]
    rfl
  rw [this]
  unfold rgC every
  rw [List.map_map, List.map_map]
  congr 1
theorem pick_every {α : Type} [Inhabited α] {p : List α} {i k : Nat} (hi : i < p.length) (hk : 0 < k) : pickV p (some (i : Int)) none (some (k : Int)) = every k i p := by
  have hb : sliceBounds (some (i : Int)) none (some (k : Int)) p.length = ((i : Int), (p.length : Int), (k : Int)) := by
    unfold sliceBounds
    simp only [Option.getD_some, if_neg (show ¬ (i : Int) < 0 by omega), if_pos (show (k : Int) > 0 by omega)]
    congr 1
    omega
  have hs : stepIx (some (i : Int)) none (some (k : Int)) p.length = (List.range (cnt p.length i k)).map fun t => i + t * k := by
    unfold stepIx
    rw [hb]
    show sliceRange (i : Int) (p.length : Int) (k : Int) = _
    unfold sliceRange
    simp only [if_pos (show (k : Int) > 0 by omega), if_pos (show (i : Int) < (p.length : Int) by omega)]
    have e1 : (((p.length : Int) - i + k - 1) / k).toNat = cnt p.length i k := by
      have : (p.length : Int) - i + k - 1 = ((p.length - i - 1 : Nat) : Int) + k := by omega
      rw [this, Int.add_ediv_of_dvd_right (Int.dvd_refl _), Int.ediv_self (by omega)]
      unfold cnt
      norm_cast
    rw [e1]
    refine List.map_congr_left fun t _ => ?_
    have : (i : Int) + (k : Int) * (t : Int) = ((i + t * k : Nat) : Int) := by push_cast; rw [Int.mul_comm]
    rw [this, Int.toNat_natCast]
  unfold pickV
  rw [hs]
  unfold every
  rw [List.filterMap_map]
  have : ∀ l : List Nat, (∀ t ∈ l, i + t * k < p.length) → l.filterMap ((fun x => p[x]?) ∘ fun t => i + t * k) = l.map fun t => (p[i + t * k]?).getD default := fun l => by
    induction l with
    | nil => intro _; rfl
    | cons t l ih =>
      intro h
      have ht := h t List.mem_cons_self
      rw [List.filterMap_cons_some (b := p[i + t * k]) (by simp [List.getElem?_eq_getElem ht]), ih fun u hu => h u (List.mem_cons_of_mem _ hu)]
      simp [List.getElem?_eq_getElem ht]
  exact this _ fun t ht => idx_lt hi (List.mem_range.mp ht)
/-! ### heaps of a pack -/
def lots (k : Nat) (p : List Int) : List (List Int) := (List.range k).map fun i => (every k i p).reverse
theorem comp_rg0 {i : Nat} {f : Ev T} {τ : Tau} {M : Sto} {h : Nat → T} {n : Nat} (H : ∀ x < n, f (τ.set i (some (.int (x : Nat)))) M = .ok (h x) M) : compL (gN i) cYes f τ (rgT 0 n) M = .ok ((List.range n).map h) M := by
  rw [rgT_rgI, comp_ints (h := fun x => h x.toNat) fun x hx => ?_]
  · unfold rgI
    rw [List.map_map]
    congr 2
  · obtain ⟨h1, h2⟩ := mem_rgI.mp hx
    have e : x = ((x.toNat : Nat) : Int) := by omega
    have := H x.toNat (by omega)
    rwa [← e] at this
abbrev lr (rows : List (List Int)) : T := .lst (rows.map fun r => T.lst (r.map T.int))
theorem heaps_there_run {p : List Int} {k : Nat} {M : Sto} (hk : 0 < k) (hkl : k ≤ p.length) (hl : p.length ≤ 4000) : r_heaps_there [li p, .int k] M = .ok (lr (lots k p)) M := by
  have hbig : (k : Int) < 4611686018427387904 ∧ (-4611686018427387904 : Int) ≤ k := by omega
  have hc : compL (gN 2) cYes (e1 kRev (eSlSt (eVar 0) (ePart (eVar 2)) eNone (ePart (eVar 1)))) [some (li p), some (.int k), none] (rgT 0 k) M = .ok ((List.range k).map fun i => li (every k i p).reverse) M := comp_rg0 fun i hi => by
    have e : pickV (p.map T.int) (some (i : Int)) none (some (k : Int)) = (every k i p).map T.int := by
      have : ∀ (is : List Nat), is.filterMap (fun x => (p.map T.int)[x]?) = (is.filterMap fun x => p[x]?).map T.int := fun is => by
        induction is with
        | nil => rfl
        | cons a is ih =>
          cases h : p[a]? with
          | none => rw [List.filterMap_cons_none (by simp [h]), List.filterMap_cons_none h, ih]
          | some x => rw [List.filterMap_cons_some (b := T.int x) (by simp [h]), List.filterMap_cons_some h, ih]; rfl
      rw [← pick_every (p := p) (by omega) hk]
      unfold pickV
      rw [List.length_map]
      exact this _
    have hk0 : ¬ k = 0 := by omega
    simp [eSlSt, hk0, e, List.map_reverse]
  simp only [r_heaps_there, fnRun, b_heaps_there, List.replicate, List.map_cons, List.map_nil, List.length_cons, List.length_nil, List.cons_append, List.nil_append, sRet_run, eComp_run, iRg1_run, eVar_run, List.getElem?_cons_zero, List.getElem?_cons_succ, bind_ok, if_pos hbig, Int.toNat_natCast, rgT_length, if_pos (show k ≤ 16777216 by omega), wipeT, List.set_cons_zero, List.set_cons_succ, hc]
  unfold lots lr
  rw [List.map_map]
  rfl
end TL
end
section
set_option Elab.async false
set_option linter.all false
set_option maxRecDepth 100000
/-! M85: what an act comes to. -/
namespace TL
open PySem PySem.Spec PyProof.Rows L2
theorem putKs_new {q : Key} {ak : List Key} (h : q ∉ ak) : putKs q ak = ak ++ [q] := by
  unfold putKs; rw [if_neg fun z => h (hasK_iff.mp z)]
theorem putTs_new {q : Key} {x : T} : ∀ {ak : List Key} {ax : List T}, ak.length = ax.length → q ∉ ak → putTs q x ak ax = ax ++ [x]
  | [], [], _, _ => rfl
  | [], _ :: _, h, _ => by simp at h
  | _ :: _, [], h, _ => by simp at h
  | j :: ak, u :: ax, h, hn => by
    have : ¬ j = q := fun e => hn (by simp [e])
    show (if j = q then x :: ax else u :: putTs q x ak ax) = _
    rw [if_neg this, putTs_new (by simpa using h) fun z => hn (List.mem_cons_of_mem _ z)]; rfl
theorem dcomp_run {i : Nat} {c : Ev Bool} {fk fv : Ev T} {τ : Tau} {M : Sto} {pr : Int → Bool} {h : Int → T} : ∀ {ks ak : List Int} {ax : List T}, (ak ++ ks).Nodup → ak.length = ax.length → (ak ++ ks).length < 16777216 →
    (∀ x ∈ ks, c (τ.set i (some (.int x))) M = .ok (pr x) M ∧ fk (τ.set i (some (.int x))) M = .ok (.int x) M ∧ (pr x = true → fv (τ.set i (some (.int x))) M = .ok (h x) M)) →
    dcompL (gN i) c fk fv τ (ks.map T.int) (ak.map Sum.inl) ax M = .ok ((ak ++ ks.filter pr).map Sum.inl, ax ++ (ks.filter pr).map h) M
  | [], ak, ax, _, _, _, _ => by simp [dcompL]
  | x :: ks, ak, ax, nd, hal, hl, H => by
    obtain ⟨h1, h2, h3⟩ := H x List.mem_cons_self
    have hx : x ∉ ak := fun z => by
      rw [List.nodup_append] at nd
      exact nd.2.2 x z x List.mem_cons_self rfl
    have hx2 : (Sum.inl x : Key) ∉ ak.map Sum.inl := fun z => by
      obtain ⟨y, hy, e⟩ := List.mem_map.mp z
      cases e
      exact hx hy
    by_cases hp : pr x = true
    · have hlt : (ak.map (Sum.inl : Int → Key)).length < 16777216 := by rw [List.length_map]; simp at hl; omega
      have ih := dcomp_run (i := i) (c := c) (fk := fk) (fv := fv) (τ := τ) (M := M) (pr := pr) (h := h) (ks := ks) (ak := ak ++ [x]) (ax := ax ++ [h x]) (by simpa using nd) (by simp [hal]) (by simpa using hl) fun y hy => H y (List.mem_cons_of_mem _ hy)
      rw [List.map_append, List.map_cons, List.map_nil] at ih
      rw [List.map_cons]
      unfold dcompL
      simp only [gN_run, bind_ok, h1, hp, if_true, h2, h3 hp, toK]
      rw [if_pos hlt, putKs_new hx2, putTs_new (by rw [List.length_map]; exact hal) hx2, ih]
      rw [List.filter_cons_of_pos hp]
      simp
    · have nd2 : (ak ++ ks).Nodup := by
        have : (ak ++ ks).Sublist (ak ++ x :: ks) := (List.Sublist.refl ak).append (List.sublist_cons_self x ks)
        exact nd.sublist this
      have ih := dcomp_run (i := i) (c := c) (fk := fk) (fv := fv) (τ := τ) (M := M) (pr := pr) (h := h) (ks := ks) (ak := ak) (ax := ax) nd2 hal (by simp at hl ⊢; omega) fun y hy => H y (List.mem_cons_of_mem _ hy)
      rw [List.map_cons]
      unfold dcompL
      simp only [gN_run, bind_ok, h1]
      rw [if_neg hp, ih, List.filter_cons_of_neg hp]
theorem lk_mem {α : Type} {k : Int} {v : α} : ∀ {l : List (Int × α)}, (l.map Prod.fst).Nodup → (k, v) ∈ l → lk k l = some v
  | (j, u) :: l, nd, h => by
    rw [List.map_cons, List.nodup_cons] at nd
    rcases List.mem_cons.mp h with e | h
    · cases e; show (if k = k then some v else _) = _; rw [if_pos rfl]
    · have : ¬ j = k := fun e => nd.1 (e ▸ List.mem_map.mpr ⟨_, h, rfl⟩)
      show (if j = k then some u else lk k l) = _
      rw [if_neg this]; exact lk_mem nd.2 h
theorem lk_none {α : Type} {k : Int} : ∀ {l : List (Int × α)}, k ∉ l.map Prod.fst → lk k l = none
  | [], _ => rfl
  | (j, u) :: l, h => by
    have : ¬ j = k := fun e => h (by simp [e])
    show (if j = k then some u else lk k l) = _
    rw [if_neg this]; exact lk_none fun z => h (by rw [List.map_cons]; exact List.mem_cons_of_mem _ z)
/-- the values in the order of keys -/
theorem vals_by_keys {β : Type} {f : List Crd → β} {d : β} : ∀ {hs : Hs}, (hs.map Prod.fst).Nodup → ((hs.map Prod.fst).map fun k => match lk k hs with | some h => f h | none => d) = hs.map fun x => f x.2 := fun {hs} nd => by
  rw [List.map_map]
  refine List.map_congr_left fun x hx => ?_
  show (match lk x.1 hs with | some h => f h | none => d) = _
  rw [lk_mem nd hx]
theorem filter_keys {hs : Hs} {pr : Int → Bool} : (hs.map Prod.fst).filter pr = (hs.filter fun x => pr x.1).map Prod.fst := by rw [List.filter_map]; rfl
@[simp] theorem vNe_int' {i j : Int} {M : Sto} : kVw kNe0 (.int i) (.int j) M = .ok (.bl (!decide (i = j))) M := vNe_int
def without (hs : Hs) (k : Int) : Hs := hs.filter fun x => !decide (x.1 = k)
theorem without_run {hs : Hs} {k : Int} {M : Sto} (h : HsOk hs) : r_without [hsT hs, .int k] M = .ok (hsT (without hs k)) M := by
  have hI : iK (pkVar 0) [some (hsT hs), some (.int k), none] M = .ok ((hs.map Prod.fst).map T.int) M := by
    show Res.ok ((kyT hs).map ofK) M = _
    rw [kyT_map, List.map_map]; rfl
  have hd := dcomp_run (i := 2) (c := eB (e2 (kVw kNe0) (eVar 2) (eVar 1))) (fk := eVar 2) (fv := e2 kIx (eVar 0) (eVar 2)) (τ := [some (hsT hs), some (.int k), none]) (M := M) (pr := fun x => !decide (x = k)) (h := fun k => match lk k hs with | some h => hpT h | none => .non) (ks := hs.map Prod.fst) (ak := []) (ax := []) (by simpa using h.nd) rfl (by simp; have := h.few; omega) fun x hx => by
    obtain ⟨y, hy, e⟩ := List.mem_map.mp hx
    subst e
    have := lk_mem (v := y.2) h.nd hy
    simp [ix_hs this, this]
  simp only [List.map_nil, List.nil_append] at hd
  have e1 : ((hs.map Prod.fst).filter fun x => !decide (x = k)).map (Sum.inl : Int → Key) = kyT (without hs k) := by rw [filter_keys, kyT_map]; rfl
  have e2 : (((hs.map Prod.fst).filter fun x => !decide (x = k)).map fun k => match lk k hs with | some h => hpT h | none => T.non) = vlT (without hs k) := by
    rw [filter_keys, List.map_map]
    refine List.map_congr_left fun x hx => ?_
    show (match lk x.1 hs with | some h => hpT h | none => T.non) = _
    rw [lk_mem h.nd (List.mem_filter.mp hx).1]
  rw [e1, e2] at hd
  simp only [r_without, fnRun, b_without, List.replicate, List.map_cons, List.map_nil, List.length_cons, List.length_nil, List.cons_append, List.nil_append, sRet_run, eDcomp, hI, bind_ok, wipeT, List.set_cons_zero, List.set_cons_succ, hd]
  rfl
/-! ### a new thing at the store's end -/
def AD (M : Sto) (o : MO) : Sto := ⟨M.m ++ [(M.nx, o)], M.nx + 1⟩
def UP (M : Sto) : Sto := ⟨M.m, M.nx + 1⟩
section
variable {M : Sto} {o o' : MO}
theorem AD_get (h : M.get M.nx = none) : (AD M o).get M.nx = some o := by
  show lkM M.nx (M.m ++ [(M.nx, o)]) = _
  rw [lk_app, show lkM M.nx M.m = none from h]
  show (if Nat.beq M.nx M.nx = true then some o else none) = _
  rw [if_pos (Nat.beq_refl _)]
theorem AD_set (h : M.get M.nx = none) : (AD M o).set M.nx o' = AD M o' := by
  show (⟨stM M.nx o' (M.m ++ [(M.nx, o)]), M.nx + 1⟩ : Sto) = _
  rw [st_app_r (show lkM M.nx M.m = none from h)]
  show (⟨M.m ++ (if Nat.beq M.nx M.nx = true then _ else _), M.nx + 1⟩ : Sto) = _
  rw [if_pos (Nat.beq_refl _)]; rfl
theorem AD_del (h : M.get M.nx = none) : (AD M o).del M.nx = UP M := by
  show (⟨dlM M.nx (M.m ++ [(M.nx, o)]), M.nx + 1⟩ : Sto) = _
  rw [dl_app, dl_none (show lkM M.nx M.m = none from h)]
  show (⟨M.m ++ (if Nat.beq M.nx M.nx = true then _ else _), M.nx + 1⟩ : Sto) = _
  rw [if_pos (Nat.beq_refl _)]
  show (⟨M.m ++ [], M.nx + 1⟩ : Sto) = _
  rw [List.append_nil]; rfl
end
theorem gAt_dic {a i : Nat} {fi : Ev T} {t u : T} {τ : Tau} {M : Sto} {n : Nat} {ks : List Key} {ts : List T} {k : Key} (ha : τ[a]? = some (some (.ref n))) (hi : fi τ M = .ok u M) (hM : M.get n = some (.dic ks ts)) (hk : toK u = some k) (hl : ks.length < 16777216) :
    gAt (eVar a) fi t τ M = .ok τ (M.set n (.dic (putKs k ks) (putTs k t ks ts))) := by
  unfold gAt
  have : eVar a τ M = .ok (.ref n) M := by simp [ha]
  rw [this]
  simp only [bind_ok, hi, hM, hk, if_pos hl]
/-! ### dealing a heap -/
def dealtTo (hs : Hs) (a : Int) (k : Nat) (nxt : Int) (h : List Crd) : Hs := without hs a ++ (List.range k).map fun (i : Nat) => (nxt + (i : Int), (every k i h).reverse)
theorem dealt_run {hs : Hs} {n m a : Int} {k : Nat} {h : List Crd} {M : Sto} (ok : HsOk hs) (free : M.get M.nx = none) (e : lk a hs = some h) (hk : 2 ≤ k) (hkl : k ≤ h.length) (hl : h.length ≤ 4000) (hn : ∀ x ∈ hs, x.1 < n) :
    r_house_dealt [stT hs n m, actT wDeal a k] M = .ok (.dic [.inr sH, .inr sN] [hsT (dealtTo hs a k n h), .int (n + k)]) (UP M) := by
  have hM : ∀ {o : MO}, (AD M o).get M.nx = some o := AD_get free
  have hbig : (k : Int) < 4611686018427387904 ∧ (-4611686018427387904 : Int) ≤ k := by omega
  have e0 : M.add (.dic (kyT (without hs a)) (vlT (without hs a))) = AD M (.dic (kyT (without hs a)) (vlT (without hs a))) := rfl
  let pre : Nat → Hs := fun i => without hs a ++ (List.range i).map fun (j : Nat) => (n + (j : Int), (every k j h).reverse)
  have hw : (without hs a).length ≤ 60 := Nat.le_trans (List.length_filter_le _ _) ok.few
  have step : ∀ (i : Nat), i < k → ∀ x y : Option T, (sAsg (e1 kRev (eComp (iRg3 (eVar 3) (eA kLen (eCons (eVar 4) eNil)) (eVar 5)) (gN 7) cYes (e2 kIx (eVar 4) (eVar 7)) [7])) (gAt (eVar 2) (e2 kAddI (eVar 6) (eVar 3))))
      [some (stT hs n m), some (actT wDeal a k), some (.ref M.nx), some (.int (i : Nat)), some (hpT h), some (.int k), some (.int n), y] (AD M (.dic (kyT (pre i)) (vlT (pre i)))) = .ok (.nx [some (stT hs n m), some (actT wDeal a k), some (.ref M.nx), some (.int (i : Nat)), some (hpT h), some (.int k), some (.int n), y]) (AD M (.dic (kyT (pre (i + 1))) (vlT (pre (i + 1))))) := fun i hi x y => by
    have hil : i < h.length := by omega
    have c1 : compL (gN 7) cYes (e2 kIx (eVar 4) (eVar 7)) [some (stT hs n m), some (actT wDeal a k), some (.ref M.nx), some (.int (i : Nat)), some (hpT h), some (.int k), some (.int n), none] (rgC (i : Int) (k : Int) (cnt h.length i k)) (AD M (.dic (kyT (pre i)) (vlT (pre i)))) = .ok ((every k i h).map crd) (AD M (.dic (kyT (pre i)) (vlT (pre i)))) := comp_every hil fun z c hz => by
      have : kIx (hpT h) (.int (z : Nat)) (AD M (.dic (kyT (pre i)) (vlT (pre i)))) = .ok (crd c) (AD M (.dic (kyT (pre i)) (vlT (pre i)))) := kIx_li (by omega) (by simp [hz])
      simp [this]
    have hrs := rsize (n := h.length) (i := i) (k := k) hil (by omega)
    have hcond : (k : Int) ≠ 0 ∧ (k : Int).natAbs < 1073741824 ∧ Builtin.Range.small (i : Int) (h.length : Int) (k : Int) = true ∧ (0 : Int) ≤ Builtin.Range.rangeSize (i : Int) (h.length : Int) (k : Int) := ⟨by omega, by omega, small_ok hl hil (by omega) (by omega), by rw [hrs]; omega⟩
    have hcond2 := hcond
    rw [hrs] at hcond2
    have hlen : cnt h.length i k ≤ 16777216 := by
      have := (every_len (k := k) (h := h) hil).2
      unfold every at this
      rw [List.length_map, List.length_range] at this
      omega
    have hnew : (Sum.inl (n + (i : Int)) : Key) ∉ kyT (pre i) := fun z => by
      rw [kyT_map] at z
      obtain ⟨q, hq, eq⟩ := List.mem_map.mp z
      cases eq
      rw [List.map_append, List.mem_append] at hq
      rcases hq with hq | hq
      · obtain ⟨x, hx, ex⟩ := List.mem_map.mp hq
        have := hn x (List.mem_filter.mp hx).1
        omega
      · rw [List.map_map] at hq
        obtain ⟨j, hj, ej⟩ := List.mem_map.mp hq
        have := List.mem_range.mp hj
        have ej : n + (j : Int) = n + (i : Int) := ej
        omega
    have hkl2 : (kyT (pre i)).length = (vlT (pre i)).length := by unfold kyT vlT; rw [List.length_map, List.length_map]
    have hkl3 : (kyT (pre i)).length < 16777216 := by
      unfold kyT; rw [List.length_map, List.length_append, List.length_map, List.length_range]; omega
    have hput : kyT (pre i) ++ [Sum.inl (n + (i : Int))] = kyT (pre (i + 1)) ∧ vlT (pre i) ++ [T.lst ((every k i h).map crd).reverse] = vlT (pre (i + 1)) := by
      constructor
      · simp [kyT, pre, List.range_succ]
      · simp [vlT, pre, hpT, List.range_succ, List.map_reverse]
    have hga := gAt_dic (a := 2) (i := 0) (fi := e2 kAddI (eVar 6) (eVar 3)) (t := T.lst ((every k i h).map crd).reverse) (u := .int (n + (i : Int))) (τ := [some (stT hs n m), some (actT wDeal a k), some (.ref M.nx), some (.int (i : Nat)), some (hpT h), some (.int k), some (.int n), y]) (M := AD M (.dic (kyT (pre i)) (vlT (pre i)))) (n := M.nx) rfl (by simp) hM rfl hkl3
    rw [putKs_new hnew, putTs_new hkl2 hnew, AD_set free, hput.1, hput.2] at hga
    simp only [sAsg_run, e1_run, eComp_run, iRg3_run, eVar_run, eA_run, eCons_run, eNil_run, List.getElem?_cons_zero, List.getElem?_cons_succ, bind_ok, len_hp, hrs, if_pos hcond2, Int.toNat_natCast, rgC_length, if_pos hlen, wipeT, List.set_cons_zero, List.set_cons_succ, c1, kRev_lst, hga]
  have loop : ∀ (r : Nat) (i : Nat), i + r = k → ∀ x y : Option T, ∃ z w, forL (gN 3) (sAsg (e1 kRev (eComp (iRg3 (eVar 3) (eA kLen (eCons (eVar 4) eNil)) (eVar 5)) (gN 7) cYes (e2 kIx (eVar 4) (eVar 7)) [7])) (gAt (eVar 2) (e2 kAddI (eVar 6) (eVar 3)))) ((List.range' i r).map fun j => T.int (j : Nat)) [some (stT hs n m), some (actT wDeal a k), some (.ref M.nx), x, some (hpT h), some (.int k), some (.int n), y] (AD M (.dic (kyT (pre i)) (vlT (pre i)))) =
      .ok (.nx [some (stT hs n m), some (actT wDeal a k), some (.ref M.nx), z, some (hpT h), some (.int k), some (.int n), w]) (AD M (.dic (kyT (pre k)) (vlT (pre k)))) := fun r => by
    induction r with
    | zero =>
      intro i hi x y
      have : i = k := by omega
      subst this
      exact ⟨x, y, rfl⟩
    | succ r ih =>
      intro i hi x y
      obtain ⟨z, w, hz⟩ := ih (i + 1) (by omega) (some (.int (i : Nat))) y
      refine ⟨z, w, ?_⟩
      rw [List.range'_succ, List.map_cons]
      unfold forL
      simp only [gN_run, bind_ok, List.set_cons_zero, List.set_cons_succ]
      rw [step i (by omega) x y]
      exact hz
  obtain ⟨z, w, hloop⟩ := loop k 0 (by omega) none none
  have hr0 : (List.range' 0 k).map (fun j => T.int (j : Nat)) = rgT 0 k := by
    rw [← List.range_eq_range']
    unfold rgT
    exact List.map_congr_left fun j _ => by simp
  rw [hr0] at hloop
  have hp0 : pre 0 = without hs a := by simp [pre]
  rw [hp0] at hloop
  have okd : ∀ (q : Hs), q = pre k → frzD 6 (.ref M.nx) (AD M (.dic (kyT q) (vlT q))) = some (hsT q, UP M) := fun q hq => by
    show (match (AD M (.dic (kyT q) (vlT q))).get M.nx with
      | some (.lst ts) => (match frzM (frzD 5) ts ((AD M (.dic (kyT q) (vlT q))).del M.nx) with
        | some (us, M') => some (T.lst us, M')
        | none => none)
      | some (.dic ks ts) => (match frzM (frzD 5) ts ((AD M (.dic (kyT q) (vlT q))).del M.nx) with
        | some (us, M') => some (T.dic ks us, M')
        | none => none)
      | _ => none) = _
    rw [hM, AD_del free]
    have : frzM (frzD 5) (vlT q) (UP M) = some (vlT q, UP M) := frzM_id fun t ht => by
      obtain ⟨x, hx, e⟩ := List.mem_map.mp ht
      subst e
      refine frz_dat (dat_hp ?_)
      rw [hq] at hx
      rcases List.mem_append.mp hx with hx | hx
      · exact ok.len x (List.mem_filter.mp hx).1
      · obtain ⟨j, hj, e⟩ := List.mem_map.mp hx
        subst e
        have := (every_len (k := k) (h := h) (i := j) (by have := List.mem_range.mp hj; omega)).2
        rw [List.length_reverse]; omega
    simp only [this]
    rfl
  have okd := okd _ rfl
  have hnf : M.nx = M.nx := rfl
  have ew : r_without [hsT hs, .int a] M = .ok (.dic (kyT (without hs a)) (vlT (without hs a))) M := without_run (k := a) (M := M) ok
  simp only [r_house_dealt, fnRun, b_house_dealt, List.replicate, List.map_cons, List.map_nil, List.length_cons, List.length_nil, List.cons_append, List.nil_append, sSeq_run, sAsg_run, eTup_run, eCons_run, e2_run, eVar_run, eC_run, eNil_run, List.getElem?_cons_zero, List.getElem?_cons_succ, bind_ok, ix_heaps, ix_next, act1, act2, ix_hs e, Nat.reduceLeDiff, Nat.reduceAdd, if_true, gTup_run, gCons_run, gN_run, gNil_run, List.set_cons_zero, List.set_cons_succ,
    eNew_run, eCall_run, List.append_nil, ew, e0, sFor_run, iRg1_run, if_pos hbig, Int.toNat_natCast, hloop, sRet_run, eDisp, dispL, eFrz_run, okd, toK, kAddI_int]
  rfl
end TL
end
section
set_option Elab.async false
set_option linter.all false
set_option maxRecDepth 100000
/-! N85: acted, and what the house does. -/
namespace TL
open PySem PySem.Spec PyProof.Rows L2
/-! ### compares of heaps -/
def cD (c : Crd) : PyData := .tuple [.int c.1, .int c.2]
def hD (h : List Crd) : PyData := .list (h.map cD)
theorem toDs_crds : ∀ h : List Crd, toDs (h.map crd) = some (h.map cD)
  | [] => rfl
  | c :: h => by
    show (match toD (crd c), toDs (h.map crd) with | some d, some ds => some (d :: ds) | _, _ => none) = _
    rw [toDs_crds h]; rfl
theorem toD_hp (h : List Crd) : toD (hpT h) = some (hD h) := by
  show (match toDs (h.map crd) with | some ds => some (PyData.list ds) | none => none) = _
  rw [toDs_crds]; rfl
theorem toDs_vl : ∀ hs : Hs, toDs (vlT hs) = some (hs.map fun x => hD x.2)
  | [] => rfl
  | x :: hs => by
    show (match toD (hpT x.2), toDs (vlT hs) with | some d, some ds => some (d :: ds) | _, _ => none) = _
    rw [toD_hp, toDs_vl hs]; rfl
theorem crds_data : ∀ h : List Crd, PyData.canLayAll0 (h.map cD) = true ∧ PyData.depthAll (h.map cD) ≤ 1
  | [] => ⟨rfl, Nat.zero_le _⟩
  | c :: h => by
    obtain ⟨h1, h2⟩ := crds_data h
    constructor
    · show ((cD c).canLay0 && PyData.canLayAll0 (h.map cD)) = true
      rw [h1]; rfl
    · show max (cD c).depth (PyData.depthAll (h.map cD)) ≤ 1
      have : (cD c).depth = 1 := rfl
      omega
theorem shaped_hD (h : List Crd) : SeqAt.shaped (hD h) = true := by
  obtain ⟨h1, h2⟩ := crds_data h
  show ((hD h).canLay0 && decide ((hD h).depth ≤ 64)) = true
  rw [show (hD h).canLay0 = true from h1, Bool.true_and, decide_eq_true_eq]
  show PyData.depthAll (h.map cD) + 1 ≤ 64
  omega
theorem eqv_crds : ∀ h g : List Crd, PyData.eqvAll (h.map cD) (g.map cD) = decide (h = g)
  | [], [] => rfl
  | [], _ :: _ => rfl
  | _ :: _, [] => rfl
  | c :: h, d :: g => by
    have ih := eqv_crds h g
    show (PyData.eqv (cD c) (cD d) && PyData.eqvAll (h.map cD) (g.map cD)) = _
    rw [ih]
    have : PyData.eqv (cD c) (cD d) = decide (c = d) := by
      show (PyData.eqv (.int c.1) (.int d.1) && (PyData.eqv (.int c.2) (.int d.2) && true)) = _
      show ((c.1 == d.1) && ((c.2 == d.2) && true)) = _
      obtain ⟨c1, c2⟩ := c
      obtain ⟨d1, d2⟩ := d
      by_cases h1 : c1 = d1 <;> by_cases h2 : c2 = d2 <;> simp [h1, h2]
    rw [this]
    by_cases h1 : c = d <;> by_cases h2 : h = g <;> simp [h1, h2]
theorem vNe_hp {h g : List Crd} {M : Sto} : kVw kNe0 (hpT h) (hpT g) M = .ok (.bl (!decide (h = g))) M := kVw_some (by
  unfold kNe0
  rw [toD_hp, toD_hp]
  show (if SeqAt.shaped (hD h) && SeqAt.shaped (hD g) then some (!PyData.eqvAll (h.map cD) (g.map cD)) else none) = _
  rw [shaped_hD, shaped_hD, eqv_crds]; rfl)
theorem vNe_non {g : List Crd} {M : Sto} : kVw kNe0 .non (hpT g) M = .ok (.bl true) M := kVw_some (by
  unfold kNe0
  rw [toD_hp]
  show (if SeqAt.shaped .none && SeqAt.shaped (hD g) then some (!PyData.eqv .none (hD g)) else none) = _
  rw [shaped_hD]; rfl)
theorem shaped_all (hs : Hs) : (hs.map fun x => hD x.2).all SeqAt.shaped = true := by
  rw [List.all_map, List.all_eq_true]
  exact fun x _ => shaped_hD x.2
theorem kEq_hs (L hs : Hs) : kEq0 (hsT L) (hsT hs) = some ((kyT L).length == (kyT hs).length && dicEq (kyT L) (L.map fun x => hD x.2) (kyT hs) (hs.map fun x => hD x.2)) := by
  show (match toDs (vlT L), toDs (vlT hs) with
      | some ds, some es => if ds.all SeqAt.shaped && es.all SeqAt.shaped then some ((kyT L).length == (kyT hs).length && dicEq (kyT L) ds (kyT hs) es) else none
      | _, _ => none) = _
  rw [toDs_vl, toDs_vl]
  simp only [shaped_all, Bool.and_self, if_true]
theorem vEq_hs_len {L hs : Hs} {M : Sto} (h : L.length ≠ hs.length) : kVw kEq0 (hsT L) (hsT hs) M = .ok (.bl false) M := kVw_some (by
  rw [kEq_hs]
  have : ((kyT L).length == (kyT hs).length) = false := by
    unfold kyT
    rw [List.length_map, List.length_map, beq_eq_false_iff_ne]
    exact h
  rw [this]; rfl)
theorem vEq_hs_one {a : Int} {h g : List Crd} {M : Sto} : kVw kEq0 (hsT [(a, h)]) (hsT [(a, g)]) M = .ok (.bl (decide (h = g))) M := kVw_some (by
  rw [kEq_hs]
  have : dicEq (kyT [(a, h)]) ([(a, h)].map fun x => hD x.2) (kyT [(a, g)]) ([(a, g)].map fun x => hD x.2) = PyData.eqv (hD h) (hD g) := by
    simp [dicEq, dicEq.lkD, kyT]
  rw [this]
  show some (true && PyData.eqvAll (h.map cD) (g.map cD)) = _
  rw [eqv_crds]; rfl)
/-! ### acted -/
theorem intKs_ky (hs : Hs) : intKs (kyT hs) = some (hs.map Prod.fst) := by
  induction hs with
  | nil => rfl
  | cons x hs ih =>
    show (match intKs (kyT hs) with | some l => some (x.1 :: l) | none => none) = _
    rw [ih]; rfl
theorem kSorted_hs {hs : Hs} {M : Sto} (h : HsOk hs) : kSorted [hsT hs] M = .ok (.lst ((hs.map Prod.fst).map T.int)) M := by
  show (match intKs (kyT hs) with | some ns => if ns.length < 64 then Res.ok (T.lst ((srtI ns).map T.int)) M else .stuck | none => .stuck) = _
  rw [intKs_ky]
  have h1 : (hs.map Prod.fst).length < 64 := by rw [List.length_map]; have := h.few; omega
  have h2 : srtI (hs.map Prod.fst) = hs.map Prod.fst := (srtI_eq (.refl _) (h.asc.imp fun h => by omega)).symm
  simp only [if_pos h1, h2]
theorem comp_intsF {i : Nat} {c : Ev Bool} {τ : Tau} {M : Sto} {pr : Int → Bool} {ks : List Int} (hi : i < τ.length) (H : ∀ x ∈ ks, c (τ.set i (some (.int x))) M = .ok (pr x) M) : compL (gN i) c (eVar i) τ (ks.map T.int) M = .ok ((ks.filter pr).map T.int) M := by
  have := compL_filter (g := gN i) (c := c) (f := eVar i) (τ := τ) (M := M) (p := fun t => match t with | .int x => pr x | _ => false) (h := fun t => t) (ts := ks.map T.int) (fun t ht => by
    obtain ⟨r, hr, e⟩ := List.mem_map.mp ht
    subst e
    exact ⟨_, rfl, H r hr, fun _ => by simp [hi]⟩)
  rw [this, List.map_id', List.filter_map]
  rfl
def others (hs L : Hs) : List Int := (L.map Prod.fst).filter fun k => decide (lk k hs ≠ lk k L)
def valOf (L : Hs) (k : Int) : T := match lk k L with | some h => hpT h | none => .non
theorem valOf_some {L : Hs} {k : Int} {h : List Crd} (e : lk k L = some h) : valOf L k = hpT h := by unfold valOf; rw [e]
theorem vals_keys {L : Hs} (nd : (L.map Prod.fst).Nodup) : (L.map Prod.fst).map (valOf L) = vlT L := by
  rw [List.map_map]
  exact List.map_congr_left fun x hx => valOf_some (lk_mem nd hx)
theorem acted_run {hs L : Hs} {n n' m : Int} {act : T} {M M' : Sto} (hm : r_house_moved [stT hs n m, act] M = .ok (.dic [.inr sH, .inr sN] [hsT L, .int n']) M') (oL : HsOk L) (hlen : L.length ≠ hs.length) :
    r_acted [stT hs n m, act] M = .ok (.tup [stT L n' m, .tup [.str sDone, li (others hs L)]]) M' := by
  have i1 : kIx (.dic [.inr sH, .inr sN] [hsT L, .int n']) (.str sH) M' = .ok (hsT L) M' := kIx_dic rfl (by simp [lkT])
  have i2 : kIx (.dic [.inr sH, .inr sN] [hsT L, .int n']) (.str sN) M' = .ok (.int n') M' := kIx_dic rfl (by simp [lkT])
  have hd := dcomp_run (i := 5) (c := cYes) (fk := eVar 5) (fv := e2 kIx (e2 kIx (eVar 2) (eC (.str sH))) (eVar 5)) (τ := [some (stT hs n m), some act, some (.dic [.inr sH, .inr sN] [hsT L, .int n']), none, none, none]) (M := M') (pr := fun _ => true) (h := valOf L) (ks := L.map Prod.fst) (ak := []) (ax := []) (by simpa using oL.nd) rfl (by simp; have := oL.few; omega) fun x hx => by
    obtain ⟨y, hy, e⟩ := List.mem_map.mp hx
    subst e
    have := lk_mem (v := y.2) oL.nd hy
    simp [i1, ix_hs this, valOf_some this]
  have ft : ∀ l : List Int, l.filter (fun _ => true) = l := fun l => List.filter_eq_self.mpr fun _ _ => rfl
  simp only [List.map_nil, List.nil_append, ft, vals_keys oL.nd, ← kyT_map] at hd
  have hk : iK (pkVar 3) [some (stT hs n m), some act, some (.dic [.inr sH, .inr sN] [hsT L, .int n']), some (hsT L), none, none] M' = .ok ((L.map Prod.fst).map T.int) M' := by
    show Res.ok ((kyT L).map ofK) M' = _
    rw [kyT_map, List.map_map]; rfl
  have hc := comp_intsF (i := 5) (c := eB (e2 (kVw kNe0) (eGet (e2 kIx (eVar 0) (eC (.str sH))) (eVar 5)) (e2 kIx (eVar 3) (eVar 5)))) (τ := [some (stT hs n m), some act, some (.dic [.inr sH, .inr sN] [hsT L, .int n']), some (hsT L), none, none]) (M := M') (pr := fun k => decide (lk k hs ≠ lk k L)) (ks := L.map Prod.fst) (by simp) fun x hx => by
    obtain ⟨y, hy, e⟩ := List.mem_map.mp hx
    subst e
    have h1 := lk_mem (v := y.2) oL.nd hy
    have hg : ∀ t, eGet (e2 kIx (eVar 0) (eC (.str sH))) (eVar 5) [some (stT hs n m), some act, some (.dic [.inr sH, .inr sN] [hsT L, .int n']), some (hsT L), none, some (.int t)] M' = .ok (match (lk t hs).map hpT with | some u => u | none => .non) M' := fun t => by
      unfold eGet
      simp only [e2_run, eVar_run, eC_run, List.getElem?_cons_zero, List.getElem?_cons_succ, bind_ok, ix_heaps, hsT, toK, lkT_hs]
      all_goals rfl
    simp only [eB_run, e2_run, List.set_cons_zero, List.set_cons_succ, hg, bind_ok, eVar_run, List.getElem?_cons_zero, List.getElem?_cons_succ, ix_hs h1]
    cases h2 : lk y.1 hs with
    | none => simp [vNe_non, h1]
    | some g => simp [vNe_hp, h1]
  have hll : (L.map Prod.fst).length ≤ 16777216 := by rw [List.length_map]; have := oL.few; omega
  simp only [r_acted, fnRun, b_acted, List.replicate, List.map_cons, List.map_nil, List.length_cons, List.length_nil, List.cons_append, List.nil_append, sSeq_run, sAsg_run, eCall_run, eCons_run, eVar_run, eNil_run, List.getElem?_cons_zero, List.getElem?_cons_succ, bind_ok, List.append_nil, if_true, hm, gN_run, List.set_cons_zero, List.set_cons_succ, sIf_run, eB_run, e2_run, eC_run, i1, ix_heaps, vEq_hs_len hlen, Bool.false_eq_true, if_false, sNil_run,
    eDcomp, iLst_run, eA_run, kSorted_hs oL, wipeT, hd, eComp_run, i2]
  simp only [show (T.dic (kyT L) (vlT L)) = hsT L from rfl, hk, bind_ok, List.length_map, hc, if_pos (show L.length ≤ 16777216 by have := oL.few; omega), wipeT, List.set_cons_zero, List.set_cons_succ, gN_run, sRet_run, eTup_run, eCons_run, eDisp, dispL, eVar_run, eC_run, eNil_run, e2_run, List.getElem?_cons_zero, List.getElem?_cons_succ, toK, ix_many, i2, List.length_cons, List.length_nil, Nat.reduceAdd, Nat.reduceLeDiff, if_true]
  rfl
end TL
end
section
set_option Elab.async false
set_option linter.all false
set_option maxRecDepth 100000
/-! O85: the house. -/
namespace TL
open PySem PySem.Spec PyProof.Rows L2
theorem putKs_old {q : Key} {ks : List Key} (h : q ∈ ks) : putKs q ks = ks := by
  unfold putKs; rw [if_pos (hasK_iff.mpr h)]
def setH (hs : Hs) (b : Int) (v : List Crd) : Hs := hs.map fun x => if x.1 = b then (x.1, v) else x
theorem setH_keys {hs : Hs} {b : Int} {v : List Crd} : (setH hs b v).map Prod.fst = hs.map Prod.fst := by
  unfold setH
  rw [List.map_map]
  refine List.map_congr_left fun x _ => ?_
  show (if x.1 = b then (x.1, v) else x).1 = x.1
  split <;> rfl
theorem setH_none {hs : Hs} {b : Int} {v : List Crd} (h : b ∉ hs.map Prod.fst) : setH hs b v = hs := by
  unfold setH
  conv => rhs; rw [← List.map_id hs]
  refine List.map_congr_left fun x hx => ?_
  show (if x.1 = b then (x.1, v) else x) = x
  rw [if_neg fun e => h (List.mem_map.mpr ⟨x, hx, e⟩)]
theorem putTs_hs {b : Int} {v : List Crd} : ∀ {hs : Hs}, (hs.map Prod.fst).Nodup → b ∈ hs.map Prod.fst → putTs (.inl b) (hpT v) (kyT hs) (vlT hs) = vlT (setH hs b v)
  | x :: hs, nd, h => by
    rw [List.map_cons, List.nodup_cons] at nd
    show (if (Sum.inl x.1 : Key) = Sum.inl b then hpT v :: vlT hs else hpT x.2 :: putTs (.inl b) (hpT v) (kyT hs) (vlT hs)) = vlT ((if x.1 = b then (x.1, v) else x) :: setH hs b v)
    by_cases e : x.1 = b
    · rw [if_pos (by rw [e]), if_pos e, setH_none (by rw [← e]; exact nd.1)]; rfl
    · have hm : b ∈ hs.map Prod.fst := by
        rw [List.map_cons] at h
        rcases List.mem_cons.mp h with e2 | h
        · exact absurd e2.symm e
        · exact h
      rw [if_neg fun z => e (Sum.inl.inj z), if_neg e, putTs_hs nd.2 hm]; rfl
theorem frz_hs {M : Sto} (free : M.get M.nx = none) {q : Hs} (h : ∀ x ∈ q, x.2.length ≤ 4000) : frzD 6 (.ref M.nx) (AD M (.dic (kyT q) (vlT q))) = some (hsT q, UP M) := by
  show (match (AD M (.dic (kyT q) (vlT q))).get M.nx with
      | some (.lst ts) => (match frzM (frzD 5) ts ((AD M (.dic (kyT q) (vlT q))).del M.nx) with
        | some (us, M') => some (T.lst us, M')
        | none => none)
      | some (.dic ks ts) => (match frzM (frzD 5) ts ((AD M (.dic (kyT q) (vlT q))).del M.nx) with
        | some (us, M') => some (T.dic ks us, M')
        | none => none)
      | _ => none) = _
  rw [AD_get free, AD_del free]
  have : frzM (frzD 5) (vlT q) (UP M) = some (vlT q, UP M) := frzM_id fun t ht => by
    obtain ⟨x, hx, e⟩ := List.mem_map.mp ht
    subst e
    exact frz_dat (dat_hp (h x hx))
  simp only [this]
  rfl
@[simp] theorem sPar_run {i j : Nat} {fs : Ev (List T)} {τ : Tau} {M : Sto} : sPar i j fs τ M = (fs τ M).bind fun ts M' => match ts with
  | [t, u] => .ok (.nx ((τ.set i (some t)).set j (some u))) M'
  | _ => .stuck := nr rfl
theorem moved_deal {hs : Hs} {n m a : Int} {k : Nat} {h : List Crd} {M : Sto} (ok : HsOk hs) (free : M.get M.nx = none) (e : lk a hs = some h) (hk : 2 ≤ k) (hkl : k ≤ h.length) (hl : h.length ≤ 4000) (hn : ∀ x ∈ hs, x.1 < n) :
    r_house_moved [stT hs n m, actT wDeal a k] M = .ok (.dic [.inr sH, .inr sN] [hsT (dealtTo hs a k n h), .int (n + k)]) (UP M) := by
  have hd := dealt_run (m := m) ok free e hk hkl hl hn
  simp only [r_house_moved, fnRun, b_house_moved, List.replicate, List.map_cons, List.map_nil, List.length_cons, List.length_nil, List.cons_append, List.nil_append, sSeq_run, sPar_run, eCons_run, e2_run, eVar_run, eC_run, eNil_run, List.getElem?_cons_zero, List.getElem?_cons_succ, bind_ok, ix_heaps, ix_next, List.set_cons_zero, List.set_cons_succ, sIf_run, eB_run, act0, eq_wDeal_wDeal, if_true, sRet_run, eCall_run, List.append_nil, hd]
def joined (hs : Hs) (a b : Int) (v : List Crd) : Hs := setH (without hs a) b v
theorem moved_join {hs : Hs} {n m a b : Int} {h g : List Crd} {M : Sto} (ok : HsOk hs) (free : M.get M.nx = none) (e : lk a hs = some h) (e' : lk b hs = some g) (hab : b ≠ a) (hl : h.length + g.length ≤ 4000) :
    r_house_moved [stT hs n m, actT wJoin a b] M = .ok (.dic [.inr sH, .inr sN] [hsT (joined hs a b (h ++ g)), .int n]) (UP M) := by
  have ew : r_without [hsT hs, .int a] M = .ok (.dic (kyT (without hs a)) (vlT (without hs a))) M := without_run (k := a) (M := M) ok
  have e0 : M.add (.dic (kyT (without hs a)) (vlT (without hs a))) = AD M (.dic (kyT (without hs a)) (vlT (without hs a))) := rfl
  have hmem : b ∈ hs.map Prod.fst := by
    rcases Classical.em (b ∈ hs.map Prod.fst) with h | h
    · exact h
    · rw [lk_none h] at e'; cases e'
  have hmw : b ∈ (without hs a).map Prod.fst := by
    obtain ⟨x, hx, ex⟩ := List.mem_map.mp hmem
    refine List.mem_map.mpr ⟨x, List.mem_filter.mpr ⟨hx, ?_⟩, ex⟩
    simp [ex, hab]
  have ndw : ((without hs a).map Prod.fst).Nodup := ok.nd.sublist ((List.filter_sublist (l := hs)).map Prod.fst)
  have hkl3 : (kyT (without hs a)).length < 16777216 := by
    unfold kyT; rw [List.length_map]
    have : (without hs a).length ≤ 60 := Nat.le_trans (List.length_filter_le _ _) ok.few
    omega
  have hin : (Sum.inl b : Key) ∈ kyT (without hs a) := by rw [kyT_map]; exact List.mem_map.mpr ⟨b, hmw, rfl⟩
  have hky : kyT (without hs a) = kyT (joined hs a b (h ++ g)) := by rw [kyT_map, kyT_map]; unfold joined; rw [setH_keys]
  have hga := gAt_dic (a := 5) (i := 0) (fi := e2 kIx (eVar 1) (eC (.int 2))) (t := hpT (h ++ g)) (u := .int b) (τ := [some (stT hs n m), some (actT wJoin a b), none, some (hsT hs), some (.int n), some (.ref M.nx)]) (M := AD M (.dic (kyT (without hs a)) (vlT (without hs a)))) (n := M.nx) rfl (by simp) (AD_get free) rfl hkl3
  rw [putKs_old hin, putTs_hs ndw hmw, AD_set free, hky] at hga
  have hadd : ∀ M1, kAddL (hpT h) (hpT g) M1 = .ok (hpT (h ++ g)) M1 := fun M1 => by
    show (if (h.map crd).length + (g.map crd).length ≤ 16777216 then Res.ok (T.lst (h.map crd ++ g.map crd)) M1 else .stuck) = _
    rw [if_pos (by rw [List.length_map, List.length_map]; omega), ← List.map_append]; rfl
  have hfz := frz_hs (q := joined hs a b (h ++ g)) free fun x hx => by
    unfold joined setH at hx
    obtain ⟨y, hy, ey⟩ := List.mem_map.mp hx
    subst ey
    show (if y.1 = b then (y.1, h ++ g) else y).2.length ≤ 4000
    split
    · show (h ++ g).length ≤ 4000
      rw [List.length_append]; exact hl
    · exact ok.len y (List.mem_filter.mp hy).1
  rw [hky] at ew e0
  simp only [r_house_moved, fnRun, b_house_moved, List.replicate, List.map_cons, List.map_nil, List.length_cons, List.length_nil, List.cons_append, List.nil_append, sSeq_run, sPar_run, eCons_run, e2_run, eVar_run, eC_run, eNil_run, List.getElem?_cons_zero, List.getElem?_cons_succ, bind_ok, ix_heaps, ix_next, List.set_cons_zero, List.set_cons_succ, sIf_run, eB_run, act0, act1, act2, eq_wJoin_wDeal, eq_wJoin_wJoin, Bool.false_eq_true, if_false, sNil_run, if_true, sAsg_run, eNew_run, eCall_run, List.append_nil, ew, e0, gN_run, ix_hs e, ix_hs e', hadd, sRet_run, eDisp, dispL, eFrz_run]
  rw [show setH (without hs a) b (h ++ g) = joined hs a b (h ++ g) from rfl] at hga
  simp only [hga, bind_ok, eFrz_run, eVar_run, List.getElem?_cons_zero, List.getElem?_cons_succ, hfz, toK, eC_run]
  rfl
end TL
end
section
set_option Elab.async false
set_option linter.all false
set_option maxRecDepth 100000
/-! P85: do, heaps, read_off. -/
namespace TL
open PySem PySem.Spec PyProof.Rows L2
theorem rot_map' {α β : Type} {f : α → β} {p : List α} {i : Nat} : (rot p i).map f = rot (p.map f) i := rot_map.symm
theorem changed_cut {h : List Crd} {a : Int} {b : Nat} {M : Sto} (hl : h.length ≤ 4000) : r_changed [hpT h, actT wCut a b] M = .ok (hpT (rot h b)) M := by
  have h1 : cutT (h.map crd) (some (b : Int)) none = (h.drop b).map crd := by rw [cut_from (by omega), Int.toNat_natCast, List.map_drop]
  have h2 : cutT (h.map crd) none (some (b : Int)) = (h.take b).map crd := by rw [cut_to (by omega), Int.toNat_natCast, List.map_take]
  have h3 : ((h.drop b).map crd).length + ((h.take b).map crd).length ≤ 16777216 := by simp; omega
  simp only [r_changed, fnRun, b_changed, List.replicate, List.map_cons, List.map_nil, List.length_cons, List.length_nil, List.cons_append, List.nil_append, sSeq_run, sIf_run, eB_run, e2_run, eVar_run, eC_run, List.getElem?_cons_zero, List.getElem?_cons_succ, bind_ok, act0, act2, eq_wCut_wCut, if_true, sRet_run, eSl_run, ePart_run, eNone_run, hpT, h1, h2, kAddL_lst, if_pos h3, ← List.map_append]
  rfl
theorem moved_cut {a n m : Int} {h : List Crd} {b : Nat} {M : Sto} (hl : h.length ≤ 4000) : r_house_moved [stT [(a, h)] n m, actT wCut a b] M = .ok (.dic [.inr sH, .inr sN] [hsT [(a, rot h b)], .int n]) M := by
  have e : lk a [(a, h)] = some h := by show (if a = a then some h else none) = _; rw [if_pos rfl]
  have hd : ∀ x, (eDStar (eVar 3) [(e2 kIx (eVar 1) (eC (.int 1)), eCall 2 [] r_changed (eCons (eVar 2) (eCons (eVar 1) eNil)))]) [some (stT [(a, h)] n m), some (actT wCut a b), some (hpT h), some (hsT [(a, h)]), some (.int n), x] M = .ok (hsT [(a, rot h b)]) M := fun x => by
    unfold eDStar
    simp only [eVar_run, List.getElem?_cons_zero, List.getElem?_cons_succ, bind_ok, hsT, dispL, e2_run, eC_run, act1, eCall_run, eCons_run, eNil_run, List.length_cons, List.length_nil, List.append_nil, if_true, changed_cut hl, toK]
    simp [kyT, vlT, mrg, putKs, putTs, hasK]
  simp only [r_house_moved, fnRun, b_house_moved, List.replicate, List.map_cons, List.map_nil, List.length_cons, List.length_nil, List.cons_append, List.nil_append, sSeq_run, sPar_run, eCons_run, e2_run, eVar_run, eC_run, eNil_run, List.getElem?_cons_zero, List.getElem?_cons_succ, bind_ok, ix_heaps, ix_next, List.set_cons_zero, List.set_cons_succ, sIf_run, eB_run, act0, act1, eq_wCut_wDeal, eq_wCut_wJoin, eq_wCut_wSplit, Bool.false_eq_true, if_false, sNil_run, sAsg_run, ix_hs e, gN_run, sRet_run, eDisp, dispL, hd, toK]
  rfl
theorem acted_cut {a n m : Int} {h : List Crd} {b : Nat} {M : Sto} (hl : h.length ≤ 4000) : ∃ ans, Dat 5 ans ∧ r_acted [stT [(a, h)] n m, actT wCut a b] M = .ok (.tup [stT [(a, rot h b)] n m, ans]) M := by
  have hm := moved_cut (a := a) (n := n) (m := m) (b := b) (M := M) hl
  have oL : HsOk [(a, rot h b)] := ⟨by simp, by simp, fun x hx => by rw [List.mem_singleton] at hx; subst hx; show (rot h b).length ≤ 4000; rw [rot_length]; exact hl⟩
  have i1 : kIx (.dic [.inr sH, .inr sN] [hsT [(a, rot h b)], .int n]) (.str sH) M = .ok (hsT [(a, rot h b)]) M := kIx_dic rfl (by simp [lkT])
  have i2 : kIx (.dic [.inr sH, .inr sN] [hsT [(a, rot h b)], .int n]) (.str sN) M = .ok (.int n) M := kIx_dic rfl (by simp [lkT])
  by_cases hq : rot h b = h
  · refine ⟨.tup [.str sIdle], .tup (by simp) fun x hx => ?_, ?_⟩
    · rw [List.mem_singleton] at hx; subst hx; exact .str _ (by decide +kernel)
    · have e1 : kVw kEq0 (hsT [(a, rot h b)]) (hsT [(a, h)]) M = .ok (.bl true) M := by rw [vEq_hs_one, decide_eq_true hq]
      rw [hq] at i1 e1 hm ⊢
      simp only [r_acted, fnRun, b_acted, List.replicate, List.map_cons, List.map_nil, List.length_cons, List.length_nil, List.cons_append, List.nil_append, sSeq_run, sAsg_run, eCall_run, eCons_run, eVar_run, eNil_run, List.getElem?_cons_zero, List.getElem?_cons_succ, bind_ok, List.append_nil, if_true, hm, gN_run, List.set_cons_zero, List.set_cons_succ, sIf_run, eB_run, e2_run, eC_run, i1, ix_heaps, e1, sRet_run, eTup_run, Nat.reduceAdd, Nat.reduceLeDiff]
  · have e1 : kVw kEq0 (hsT [(a, rot h b)]) (hsT [(a, h)]) M = .ok (.bl false) M := by rw [vEq_hs_one, decide_eq_false hq]
    have lkh : lk a [(a, h)] = some h := by show (if a = a then some h else none) = _; rw [if_pos rfl]
    have lkr : lk a [(a, rot h b)] = some (rot h b) := by show (if a = a then some (rot h b) else none) = _; rw [if_pos rfl]
    have hks : kSorted [hsT [(a, rot h b)]] M = .ok (.lst [.int a]) M := kSorted_hs oL
    have hg : ∀ τ, eGet (e2 kIx (eVar 0) (eC (.str sH))) (eVar 5) ([some (stT [(a, h)] n m), some (actT wCut a b), some (.dic [.inr sH, .inr sN] [hsT [(a, rot h b)], .int n]), some (hsT [(a, rot h b)]), none, some (.int a)] ++ τ) M = .ok (hpT h) M := fun τ => by
      unfold eGet
      simp only [List.cons_append, List.nil_append, e2_run, eVar_run, eC_run, List.getElem?_cons_zero, List.getElem?_cons_succ, bind_ok, ix_heaps, hsT, toK, lkT_hs, lkh]
      rfl
    have hg := hg []
    rw [List.append_nil] at hg
    have hne : kVw kNe0 (hpT h) (hpT (rot h b)) M = .ok (.bl true) M := by rw [vNe_hp, decide_eq_false fun z => hq z.symm]; rfl
    have hky : iK (pkVar 3) [some (stT [(a, h)] n m), some (actT wCut a b), some (.dic [.inr sH, .inr sN] [hsT [(a, rot h b)], .int n]), some (.dic [.inl a] [hpT (rot h b)]), none, none] M = .ok [.int a] M := rfl
    refine ⟨.tup [.str sDone, .lst [.int a]], .tup (by simp) fun x hx => ?_, ?_⟩
    · simp only [List.mem_cons, List.not_mem_nil, or_false] at hx
      rcases hx with rfl | rfl
      · exact .str _ (by decide +kernel)
      · exact .lst (by simp) fun y hy => by rw [List.mem_singleton] at hy; subst hy; exact .int _
    · have hdc : dcompL (gN 5) cYes (eVar 5) (e2 kIx (e2 kIx (eVar 2) (eC (.str sH))) (eVar 5)) [some (stT [(a, h)] n m), some (actT wCut a b), some (.dic [.inr sH, .inr sN] [hsT [(a, rot h b)], .int n]), none, none, none] [.int a] [] [] M = .ok ([.inl a], [hpT (rot h b)]) M := by
        simp [dcompL, i1, ix_hs lkr, toK, putKs, putTs, hasK]
      have hcc : compL (gN 5) (eB (e2 (kVw kNe0) (eGet (e2 kIx (eVar 0) (eC (.str sH))) (eVar 5)) (e2 kIx (eVar 3) (eVar 5)))) (eVar 5) [some (stT [(a, h)] n m), some (actT wCut a b), some (.dic [.inr sH, .inr sN] [hsT [(a, rot h b)], .int n]), some (hsT [(a, rot h b)]), none, none] [.int a] M = .ok [.int a] M := by
        simp [compL, hg, ix_hs lkr, hne]
      have hcc2 : compL (gN 5) (eB (e2 (kVw kNe0) (eGet (e2 kIx (eVar 0) (eC (.str sH))) (eVar 5)) (e2 kIx (eVar 3) (eVar 5)))) (eVar 5) [some (stT [(a, h)] n m), some (actT wCut a b), some (.dic [.inr sH, .inr sN] [hsT [(a, rot h b)], .int n]), some (.dic [.inl a] [hpT (rot h b)]), none, none] [.int a] M = .ok [.int a] M := hcc
      simp only [r_acted, fnRun, b_acted, List.replicate, List.map_cons, List.map_nil, List.length_cons, List.length_nil, List.cons_append, List.nil_append, sSeq_run, sAsg_run, eCall_run, eCons_run, eVar_run, eNil_run, List.getElem?_cons_zero, List.getElem?_cons_succ, bind_ok, List.append_nil, if_true, hm, gN_run, List.set_cons_zero, List.set_cons_succ, sIf_run, eB_run, e2_run, eC_run, i1, ix_heaps, e1, Bool.false_eq_true, if_false, sNil_run, eDcomp, iLst_run, eA_run, hks, wipeT, hdc, eComp_run, hky, Nat.reduceAdd, Nat.reduceLeDiff, hcc2, sRet_run, eTup_run, eDisp, dispL, toK, ix_many, i2]
      rfl
/-! ### the house -/
def houseM (row : List T) (at_ : Nat) : MO := .ins sHouse [sRow, sAt] [.lst row, .int (at_ : Nat)]
theorem fld_row {M : Sto} {h : Nat} {row : List T} {at_ : Nat} (e : M.get h = some (houseM row at_)) : kFld sHouse sRow (.ref h) M = .ok (.lst row) M := by
  simp only [kFld, e, houseM]
  simp [lkF]
theorem fld_at {M : Sto} {h : Nat} {row : List T} {at_ : Nat} (e : M.get h = some (houseM row at_)) : kFld sHouse sAt (.ref h) M = .ok (.int (at_ : Nat)) M := by
  simp only [kFld, e, houseM]
  simp [lkF]
/-- the row's last tells the state -/
structure Row (row : List T) (at_ : Nat) (S : T) : Prop where
  len : row.length = at_ + 1
  now : ∃ a b, row[at_]? = some (.tup [a, S, b])
  few : at_ ≤ 1000
theorem state_run {M : Sto} {h : Nat} {row : List T} {at_ : Nat} {S : T} (e : M.get h = some (houseM row at_)) (r : Row row at_ S) : r_House_state [.ref h] M = .ok S M := by
  obtain ⟨a, b, hn⟩ := r.now
  have h1 : kIx (.lst row) (.int (at_ : Nat)) M = .ok (.tup [a, S, b]) M := kIx_li (by omega) (by simpa using hn)
  have h2 : kIx (.tup [a, S, b]) (.int 1) M = .ok S M := kIx_tup (by decide) rfl
  simp only [r_House_state, fnRun, b_House_state, List.replicate, List.map_cons, List.map_nil, List.length_cons, List.length_nil, List.cons_append, List.nil_append, sRet_run, e2_run, e1_run, eVar_run, eC_run, List.getElem?_cons_zero, bind_ok, fld_row e, fld_at e, h1, h2]
theorem meth_run {n : Nat} {m : Str} {dts : List T} {g : List T → Sto → Res T} {fo : Ev T} {fs : Ev (List T)} {τ : Tau} {M : Sto} {h : Nat} {row : List T} {at_ : Nat} (ho : fo τ M = .ok (.ref h) M) (e : M.get h = some (houseM row at_)) (hm : lkF m [sRow, sAt] [.lst row, .int (at_ : Nat)] = none) :
    eMeth sHouse m n dts g fo fs τ M = (fs τ M).bind fun ts M2 => if ts.length + dts.length + 1 = n then g (.ref h :: (ts ++ dts)) M2 else .stuck := by
  unfold eMeth
  simp only [ho, bind_ok, e, houseM, hm, if_true]
theorem get_set_self {M : Sto} {h : Nat} {o u : MO} (e : M.get h = some u) : (M.set h o).get h = some o := lk_st_same (show lkM h M.m = some u from e)
theorem do_run {M M1 : Sto} {h : Nat} {row : List T} {at_ : Nat} {S S' act ans : T} (e : M.get h = some (houseM row at_)) (e1' : M1.get h = some (houseM row at_)) (r : Row row at_ S) (hact : r_is_act [act] M = .ok (.bl true) M) (hf : r_fits [S, act] M = .ok (.bl true) M) (ha : r_acted [S, act] M = .ok (.tup [S', ans]) M1)
    (d1 : Dat 5 act) (d2 : Dat 5 ans) (hs : at_ < 1000) : ∃ row', r_House_do [.ref h, act] M = .ok ans (M1.set h (houseM row' (at_ + 1))) ∧ Row row' (at_ + 1) S' := by
  have h0 : lkF (⟨#[115, 116, 97, 116, 101]⟩ : Str) [sRow, sAt] [.lst row, .int (at_ : Nat)] = none := by simp [lkF]
  have hst : ∀ τ : Tau, τ[0]? = some (some (.ref h)) → eMeth sHouse ⟨#[115, 116, 97, 116, 101]⟩ 1 [] r_House_state (eVar 0) eNil τ M = .ok S M := fun τ h1 => by
    rw [meth_run (by simp [h1]) e h0]
    simp only [eNil_run, bind_ok, List.length_nil, List.append_nil, if_true]
    exact state_run e r
  have htk : cutT row none (some ((at_ : Int) + 1)) = row := by
    rw [cut_to (by omega)]
    exact List.take_of_length_le (by rw [r.len]; omega)
  have hlen : row.length ≤ 16777215 := by rw [r.len]; have := r.few; omega
  have hf1 : ∀ t : T, (sFld sHouse sRow (eVar 0) (eC t)) [some (.ref h)] M1 = .ok (.nx [some (.ref h)]) (M1.set h (.ins sHouse [sRow, sAt] [t, .int (at_ : Nat)])) := fun t => by
    unfold sFld
    simp only [eC_run, eVar_run, List.getElem?_cons_zero, bind_ok, e1', houseM]
    simp [putFs, putFt]
  refine ⟨row ++ [.tup [act, S', ans]], ?_, ⟨by rw [List.length_append, r.len]; rfl, ⟨act, ans, by rw [List.getElem?_append_right (by rw [r.len]; omega), r.len]; simp⟩, by omega⟩⟩
  have hst1 := hst [some (.ref h), some act, none, none] rfl
  have hput : ∀ (t : T) (x : MO), (M1.set h (.ins sHouse [sRow, sAt] [t, .int (at_ : Nat)])).get h = some (.ins sHouse [sRow, sAt] [t, .int (at_ : Nat)]) := fun t x => get_set_self e1'
  simp only [r_House_do, fnRun, b_House_do, List.replicate, List.map_cons, List.map_nil, List.length_cons, List.length_nil, List.cons_append, List.nil_append, sSeq_run, sIf_run, eOr_run, eNot_run, eB_run, eCall_run, eCons_run, eVar_run, eNil_run, List.getElem?_cons_zero, List.getElem?_cons_succ, bind_ok, List.append_nil, if_true, hact, Bool.not_true, Bool.false_eq_true, if_false, hst1, hf, sNil_run, sAsg_run, ha, gTup_run, gCons_run, gN_run, gNil_run, List.set_cons_zero, List.set_cons_succ]
  have hrow : (sFld sHouse sRow (eVar 0) (e2 kAddL (eSl (e1 (kFld sHouse sRow) (eVar 0)) eNone (ePart (e2 kAddI (e1 (kFld sHouse sAt) (eVar 0)) (eC (.int 1))))) (eLst (eCons (eTup (eCons (eCall 1 [] (r_copied 5) (eCons (eVar 1) eNil)) (eCons (eVar 2) (eCons (eVar 3) eNil)))) eNil)))) [some (.ref h), some act, some S', some ans] M1 = .ok (.nx [some (.ref h), some act, some S', some ans]) (M1.set h (houseM (row ++ [.tup [act, S', ans]]) at_)) := by
    unfold sFld
    simp only [e2_run, eSl_run, e1_run, eVar_run, eC_run, eNone_run, ePart_run, List.getElem?_cons_zero, List.getElem?_cons_succ, bind_ok, fld_row e1', fld_at e1', kAddI_int, htk, eLst_run, eTup_run, eCons_run, eNil_run, eCall_run, List.length_cons, List.length_nil, List.append_nil, if_true, copied_run d1, Nat.reduceAdd, Nat.reduceLeDiff, kAddL_lst, if_pos hlen, e1', houseM]
    simp [putFs, putFt]
  have hat : (sFld sHouse sAt (eVar 0) (e2 kAddI (e1 (kFld sHouse sAt) (eVar 0)) (eC (.int 1)))) [some (.ref h), some act, some S', some ans] (M1.set h (houseM (row ++ [.tup [act, S', ans]]) at_)) = .ok (.nx [some (.ref h), some act, some S', some ans]) (M1.set h (houseM (row ++ [.tup [act, S', ans]]) (at_ + 1))) := by
    have g2 : (M1.set h (houseM (row ++ [.tup [act, S', ans]]) at_)).get h = some (houseM (row ++ [.tup [act, S', ans]]) at_) := get_set_self e1'
    have hss : (M1.set h (houseM (row ++ [.tup [act, S', ans]]) at_)).set h (houseM (row ++ [.tup [act, S', ans]]) (at_ + 1)) = M1.set h (houseM (row ++ [.tup [act, S', ans]]) (at_ + 1)) := set_set
    rw [← hss]
    generalize M1.set h (houseM (row ++ [.tup [act, S', ans]]) at_) = M2 at g2 ⊢
    unfold sFld
    simp only [e2_run, e1_run, eVar_run, eC_run, List.getElem?_cons_zero, bind_ok, fld_at g2, kAddI_int, g2, houseM]
    simp [putFs, putFt]
  simp only [hrow, bind_ok, hat, sRet_run, eCall_run, eCons_run, eVar_run, eNil_run, List.getElem?_cons_zero, List.getElem?_cons_succ, List.length_cons, List.length_nil, List.append_nil, if_true, copied_run d2]
theorem heaps_run {M : Sto} {h : Nat} {row : List T} {at_ : Nat} {hs : Hs} {n m : Int} (e : M.get h = some (houseM row at_)) (r : Row row at_ (stT hs n m)) (ok : HsOk hs) : r_House_heaps [.ref h] M = .ok (hsT hs) M := by
  have h0 : lkF (⟨#[115, 116, 97, 116, 101]⟩ : Str) [sRow, sAt] [.lst row, .int (at_ : Nat)] = none := by simp [lkF]
  have hst : eMeth sHouse ⟨#[115, 116, 97, 116, 101]⟩ 1 [] r_House_state (eVar 0) eNil [some (.ref h)] M = .ok (stT hs n m) M := by
    rw [meth_run (by simp) e h0]
    simp only [eNil_run, bind_ok, List.length_nil, List.append_nil, if_true]
    exact state_run e r
  have hc : r_copied 5 [hsT hs] M = .ok (hsT hs) M := copied_run (Dat.succ (dat_hs (k := 0) ok))
  simp only [r_House_heaps, fnRun, b_House_heaps, List.replicate, Nat.reduceAdd, Nat.reduceSub, List.map_cons, List.map_nil, List.length_cons, List.length_nil, List.cons_append, List.nil_append, sRet_run, eCall_run, eCons_run, e2_run, hst, eC_run, eNil_run, bind_ok, ix_heaps, List.append_nil, if_true, hc]
theorem read_off_run {M : Sto} {h : Nat} {row : List T} {at_ : Nat} {a n m : Int} {g : List Crd} (e : M.get h = some (houseM row at_)) (r : Row row at_ (stT [(a, g)] n m)) (hl : g.length ≤ 4000) : r_read_off [.ref h] M = .ok (li (g.map Prod.fst)) M := by
  have h0 : lkF (⟨#[115, 116, 97, 116, 101]⟩ : Str) [sRow, sAt] [.lst row, .int (at_ : Nat)] = none := by simp [lkF]
  have hst : ∀ τ : Tau, τ[0]? = some (some (.ref h)) → eMeth sHouse ⟨#[115, 116, 97, 116, 101]⟩ 1 [] r_House_state (eVar 0) eNil τ M = .ok (stT [(a, g)] n m) M := fun τ h1 => by
    rw [meth_run (by simp [h1]) e h0]
    simp only [eNil_run, bind_ok, List.length_nil, List.append_nil, if_true]
    exact state_run e r
  have hst1 := hst [some (.ref h), none, none, none, none, none] rfl
  have lkh : lk a [(a, g)] = some g := by show (if a = a then some g else none) = _; rw [if_pos rfl]
  have oL : HsOk [(a, g)] := ⟨by simp, by simp, fun x hx => by rw [List.mem_singleton] at hx; subst hx; exact hl⟩
  have hks : kSorted [hsT [(a, g)]] M = .ok (.lst [.int a]) M := kSorted_hs oL
  have hck : r_check_house [.ref h] M = .ok .non M := by
    have : kIsO sHouse (.ref h) M = .ok (.bl true) M := by simp [kIsO, e, houseM]
    simp [r_check_house, fnRun, b_check_house, this]
  have hcomp : compL (gTup 2 (gCons (gN 4) (gCons (gN 5) gNil))) cYes (eVar 4) [some (.ref h), some (.int a), some (hsT [(a, g)]), some (.lst []), none, none] (g.map crd) M = .ok ((g.map Prod.fst).map T.int) M := by
    rw [compL_map (h := fun t => match t with | .tup [.int c, _] => .int c | _ => .non) fun t ht => ?_]
    · rw [List.map_map, List.map_map]; rfl
    · obtain ⟨c, hc, ec⟩ := List.mem_map.mp ht
      subst ec
      exact ⟨[some (.ref h), some (.int a), some (hsT [(a, g)]), some (.lst []), some (.int c.1), some (.int c.2)], by simp [crd], by rfl⟩
  simp only [r_read_off, fnRun, b_read_off, List.replicate, List.map_cons, List.map_nil, List.length_cons, List.length_nil, List.cons_append, List.nil_append, sSeq_run, sExpr_run, eCall_run, eCons_run, eVar_run, eNil_run, List.getElem?_cons_zero, List.getElem?_cons_succ, bind_ok, List.append_nil, if_true, hck, sPar_run, e2_run, hst1, eC_run, ix_heaps, eLst_run, Nat.zero_le, List.set_cons_zero, List.set_cons_succ, sFor_run, iLst_run, eA_run, hks]
  unfold forL
  simp only [gN_run, bind_ok, List.set_cons_zero, List.set_cons_succ, sAsg_run, e2_run, eVar_run, List.getElem?_cons_zero, List.getElem?_cons_succ, eComp_run, iLst_run, ix_hs lkh, hpT, List.length_map, if_pos (show g.length ≤ 16777216 by omega), wipeT, hcomp, kAddL_lst, List.length_nil, Nat.zero_add, List.nil_append, forL, sRet_run]
end TL
end
section
set_option Elab.async false
set_option linter.all false
set_option maxRecDepth 100000
/-! Q85: cuts, deals and moves of packs. -/
namespace TL
open PySem PySem.Spec PyProof.Rows L2
theorem rot_all {α : Type} {p : List α} {b : Nat} (hb : b ≤ p.length) : rot p (b % p.length) = rot p b := by
  rcases Nat.lt_or_ge b p.length with h | h
  · rw [Nat.mod_eq_of_lt h]
  · have : b = p.length := by omega
    subst this
    rw [Nat.mod_self]
    simp [rot]
theorem cut_by_run {p : List Int} {b : Nat} {M : Sto} (h : Pck p) (hp : p ≠ []) (hb : b ≤ p.length) : r_cut_by [li p, .int b] M = .ok (li (rot p b)) M := by
  have e : r_cut_there [li p, .int b] M = .ok (li (rot p b)) M := by
    rw [cut_there_run hp h.len]
    have : ((b : Int) % (p.length : Int)).toNat = b % p.length := by norm_cast
    rw [this, rot_all hb]
  simp only [r_cut_by, fnRun, b_cut_by, List.replicate, List.map_cons, List.map_nil, List.length_cons, List.length_nil, List.cons_append, List.nil_append, sSeq_run, sExpr_run, eCall_run, eCons_run, eVar_run, eNil_run, List.getElem?_cons_zero, List.getElem?_cons_succ, bind_ok, List.append_nil, if_true, check_pack_run h, sIf_run, eNot_run, eB_run, is_whole_int, Bool.not_true, Bool.false_eq_true, if_false, sNil_run, sRet_run, e]
theorem check_heaps_run {k : Nat} {M : Sto} (h : 0 < k) : r_check_heaps [.int k] M = .ok .non M := by
  have h1 : decide ((1 : Int) ≤ (k : Int) ∧ 0 ≤ (k : Int)) = true := decide_eq_true (by omega)
  simp only [r_check_heaps, fnRun, b_check_heaps, List.replicate, List.map_cons, List.map_nil, List.length_cons, List.length_nil, List.cons_append, List.nil_append, sIf_run, eNot_run, eB_run, eCall_run, eCons_run, eVar_run, eC_run, eNil_run, List.getElem?_cons_zero, bind_ok, List.append_nil, if_true, is_count_int, h1, Bool.not_true, Bool.false_eq_true, if_false, sNil_run]
theorem deals_many_run {k : Nat} {M : Sto} : r_deals_check_many [.int k] M = .ok .non M := by
  simp [r_deals_check_many, fnRun, b_deals_check_many, is_count_int]
theorem deals_run {p : List Int} {k : Nat} {M : Sto} (h : Pck p) (hk : 0 < k) (hkl : k ≤ p.length) : r_deals_dealt [li p, .int k] M = .ok (lr (lots k p)) M := by
  simp only [r_deals_dealt, fnRun, b_deals_dealt, List.replicate, List.map_cons, List.map_nil, List.length_cons, List.length_nil, List.cons_append, List.nil_append, sSeq_run, sExpr_run, eCall_run, eCons_run, eVar_run, eNil_run, List.getElem?_cons_zero, List.getElem?_cons_succ, bind_ok, List.append_nil, if_true, check_pack_run h, check_heaps_run hk, sRet_run, heaps_there_run hk hkl h.len]
theorem is_order_run {p : List Int} {n : Nat} {M : Sto} (h : p.Perm (rgI n)) (hn : n ≤ 4000) : r_is_order [.int n, li p] M = .ok (.bl true) M := by
  have hp := pck_perm h hn
  have hl : p.length = n := by rw [h.length_eq, rgI_length]
  simp [r_is_order, fnRun, b_is_order, List.replicate, wipeT, counts_run hp.pos, kAll_true, hl, okRg_n hn, rgT_rgI, srt_rg h, show n ≤ 16777216 by omega]
/-- lots in an order, one behind the other -/
def lotAt (rows : List (List Int)) (i : Int) : List Int := (rows[i.toNat]?).getD []
def catO (rows : List (List Int)) (ord : List Int) : List Int := ord.flatMap (lotAt rows)
theorem comp1A_run {τ : Tau} {M : Sto} (hτ : τ.length = 6) : ∀ {r acc : List Int}, acc.length + r.length ≤ 16777216 → comp1A (gN 5) cYes (eVar 5) τ (r.map T.int) (acc.map T.int) M = .ok ((acc ++ r).map T.int) M
  | [], acc, _ => by simp [comp1A]
  | x :: r, acc, h => by
    have ih := comp1A_run hτ (r := r) (acc := acc ++ [x]) (M := M) (by simp at h ⊢; omega)
    have hl : (acc.map T.int).length < 16777216 := by simp at h ⊢; omega
    match τ, hτ with
    | [a, b, c, d, e, f], _ =>
      rw [List.map_cons]
      unfold comp1A
      simp only [gN_run, bind_ok, cYes_run, if_true, eVar_run, List.set_cons_succ, List.set_cons_zero, List.getElem?_cons_succ, List.getElem?_cons_zero, if_pos hl]
      rw [List.map_append, List.map_cons, List.map_nil] at ih
      rw [ih]
      simp
theorem comp2A_run {rows : List (List Int)} {M : Sto} {x0 x1 x2 : Option T} : ∀ {ord acc : List Int}, (∀ i ∈ ord, 0 ≤ i ∧ i < rows.length) → acc.length + (catO rows ord).length ≤ 16777216 →
    comp2A (gN 4) cYes (iLst (e2 kIx (eVar 3) (eVar 4))) (gN 5) cYes (eVar 5) [5] [x0, x1, x2, some (lr rows), none, none] (ord.map T.int) (acc.map T.int) M = .ok ((acc ++ catO rows ord).map T.int) M
  | [], acc, _, _ => by simp [comp2A, catO]
  | i :: ord, acc, h, hl => by
    obtain ⟨h0, h1⟩ := h i List.mem_cons_self
    have hlt : i.toNat < rows.length := by omega
    have e1 : lotAt rows i = rows[i.toNat] := by unfold lotAt; rw [List.getElem?_eq_getElem hlt]; rfl
    have hix : kIx (lr rows) (.int i) M = .ok (li rows[i.toNat]) M := kIx_li h0 (by simp [List.getElem?_eq_getElem hlt])
    have ec : catO rows (i :: ord) = rows[i.toNat] ++ catO rows ord := by unfold catO; rw [List.flatMap_cons, e1]
    rw [ec, List.length_append] at hl
    have c1 := comp1A_run (τ := [x0, x1, x2, some (lr rows), some (.int i), none]) (M := M) rfl (r := rows[i.toNat]) (acc := acc) (by omega)
    have ih := comp2A_run (rows := rows) (M := M) (x0 := x0) (x1 := x1) (x2 := x2) (ord := ord) (acc := acc ++ rows[i.toNat]) (fun j hj => h j (List.mem_cons_of_mem _ hj)) (by rw [List.length_append]; omega)
    rw [List.map_cons]
    unfold comp2A
    simp only [gN_run, bind_ok, cYes_run, if_true, iLst_run, e2_run, eVar_run, List.set_cons_succ, List.set_cons_zero, List.getElem?_cons_succ, List.getElem?_cons_zero, hix, wipeT, c1]
    rw [ih, ec, List.append_assoc]
theorem lots_length {k : Nat} {p : List Int} : (lots k p).length = k := by simp [lots]
theorem lotAt_lots {k : Nat} {p : List Int} {i : Int} (h0 : 0 ≤ i) (h1 : i < k) : lotAt (lots k p) i = (every k i.toNat p).reverse := by
  unfold lotAt lots
  have : i.toNat < k := by omega
  simp [this]
theorem getD_rg {p : List Int} : (rgI p.length).map (fun x => (p[x.toNat]?).getD 0) = p := by
  apply List.ext_getElem
  · simp [rgI_length]
  · intro i h1 h2
    simp [rgI, h2]
/-- lots of a pack are the pack's cards at the lots of the places -/
theorem lots_map {p : List Int} {k : Nat} {ord : List Int} (ho : ∀ i ∈ ord, 0 ≤ i ∧ i < k) (hk : k ≤ p.length) : (catO (lots k (rgI p.length)) ord).map (fun x => (p[x.toNat]?).getD 0) = catO (lots k p) ord := by
  unfold catO
  rw [List.map_flatMap]
  have : ∀ l : List Int, (∀ i ∈ l, 0 ≤ i ∧ i < k) → l.flatMap (fun a => (lotAt (lots k (rgI p.length)) a).map fun x => (p[x.toNat]?).getD 0) = l.flatMap (lotAt (lots k p)) := fun l => by
    induction l with
    | nil => intro _; rfl
    | cons i l ih =>
      intro h
      obtain ⟨h0, h1⟩ := h i List.mem_cons_self
      rw [List.flatMap_cons, List.flatMap_cons, ih fun j hj => h j (List.mem_cons_of_mem _ hj), lotAt_lots h0 h1, lotAt_lots h0 h1, List.map_reverse, ← every_map (by rw [rgI_length]; omega), getD_rg]
  exact this ord ho
theorem div_split {n i k x : Nat} (hk : 0 < k) (hx : x < n) (hi : x % k = i) : ∃ t, t < cnt n i k ∧ i + t * k = x := by
  refine ⟨x / k, ?_, ?_⟩
  · unfold cnt
    have h1 := Nat.div_add_mod x k
    have h2 : x / k * k ≤ n - i - 1 := by rw [Nat.mul_comm]; omega
    have := (Nat.le_div_iff_mul_le hk).mpr h2
    omega
  · rw [← hi, Nat.mul_comm]
    have := Nat.div_add_mod x k
    omega
theorem mem_every_rg {n k i : Nat} (hk : 0 < k) (hi : i < k) (hin : i < n) {x : Int} : x ∈ every k i (rgI n) ↔ 0 ≤ x ∧ x < n ∧ x.toNat % k = i := by
  unfold every
  rw [List.mem_map]
  rw [rgI_length]
  constructor
  · rintro ⟨t, ht, e⟩
    have hlt := idx_lt hin (List.mem_range.mp ht)
    have : (rgI n)[i + t * k]? = some ((i + t * k : Nat) : Int) := by simp [rgI, hlt]
    rw [this] at e
    have e : ((i + t * k : Nat) : Int) = x := e
    refine ⟨by omega, by omega, ?_⟩
    have : x.toNat = i + t * k := by omega
    rw [this, Nat.add_mul_mod_self_right]
    exact Nat.mod_eq_of_lt hi
  · rintro ⟨h0, h1, h2⟩
    obtain ⟨t, ht, e⟩ := div_split hk (show x.toNat < n by omega) h2
    refine ⟨t, List.mem_range.mpr ht, ?_⟩
    rw [e]
    have : (rgI n)[x.toNat]? = some x := by
      have : x.toNat < n := by omega
      simp [rgI, this]; omega
    rw [this]; rfl
theorem nodup_every {n k i : Nat} (hk : 0 < k) (hin : i < n) : (every k i (rgI n)).Nodup := by
  unfold every
  rw [List.Nodup, List.pairwise_map, rgI_length]
  have := List.nodup_range (n := cnt n i k)
  rw [List.Nodup] at this
  refine List.Pairwise.imp_of_mem (fun {a b} ha hb h e => h ?_) this
  have l1 := idx_lt hin (List.mem_range.mp ha)
  have l2 := idx_lt hin (List.mem_range.mp hb)
  have e1 : (rgI n)[i + a * k]? = some ((i + a * k : Nat) : Int) := by simp [rgI, l1]
  have e2 : (rgI n)[i + b * k]? = some ((i + b * k : Nat) : Int) := by simp [rgI, l2]
  rw [e1, e2] at e
  have e : ((i + a * k : Nat) : Int) = ((i + b * k : Nat) : Int) := e
  have e : a * k = b * k := by omega
  exact Nat.eq_of_mul_eq_mul_right hk e
theorem catO_perm {n k : Nat} {ord : List Int} (hk : 0 < k) (hkn : k ≤ n) (ho : ord.Perm (rgI k)) : (catO (lots k (rgI n)) ord).Perm (rgI n) := by
  refine (ho.flatMap_right (lotAt (lots k (rgI n)))).trans ?_
  have hl : ∀ i ∈ rgI k, 0 ≤ i ∧ i < (k : Int) := fun i hi => mem_rgI.mp hi
  rw [List.perm_ext_iff_of_nodup ?_ (rgI_nodup n)]
  · intro x
    rw [List.mem_flatMap, mem_rgI]
    constructor
    · rintro ⟨i, hi, hx⟩
      obtain ⟨h0, h1⟩ := hl i hi
      rw [lotAt_lots h0 h1, List.mem_reverse, mem_every_rg hk (by omega) (by omega)] at hx
      exact ⟨hx.1, hx.2.1⟩
    · rintro ⟨h0, h1⟩
      have hlt := Nat.mod_lt x.toNat hk
      refine ⟨((x.toNat % k : Nat) : Int), mem_rgI.mpr ⟨by omega, by omega⟩, ?_⟩
      rw [lotAt_lots (by omega) (by omega), List.mem_reverse, Int.toNat_natCast, mem_every_rg hk hlt (by omega)]
      exact ⟨h0, h1, rfl⟩
  · rw [List.Nodup, List.pairwise_flatMap]
    constructor
    · intro i hi
      obtain ⟨h0, h1⟩ := hl i hi
      rw [lotAt_lots h0 h1]
      exact (List.reverse_perm _).nodup_iff.mpr (nodup_every hk (by omega))
    · refine List.Pairwise.imp_of_mem (fun {i j} hi hj h x hx y hy e => h ?_) (rgI_nodup k)
      obtain ⟨h0, h1⟩ := hl i hi
      obtain ⟨g0, g1⟩ := hl j hj
      rw [lotAt_lots h0 h1, List.mem_reverse, mem_every_rg hk (by omega) (by omega)] at hx
      rw [lotAt_lots g0 g1, List.mem_reverse, mem_every_rg hk (by omega) (by omega)] at hy
      subst e
      have := hx.2.2.symm.trans hy.2.2
      omega
theorem heap_move_run {n k : Nat} {ord : List Int} {M : Sto} (hk : 0 < k) (hkn : k ≤ n) (hn : n ≤ 4000) (ho : ord.Perm (rgI k)) : r_heap_move [.int n, .int k, li ord] M = .ok (li (catO (lots k (rgI n)) ord)) M := by
  have hlo : ord.length = k := by rw [ho.length_eq, rgI_length]
  have hcl : (catO (lots k (rgI n)) ord).length = n := by rw [(catO_perm hk hkn ho).length_eq, rgI_length]
  have c2 := comp2A_run (rows := lots k (rgI n)) (M := M) (x0 := some (.int n)) (x1 := some (.int k)) (x2 := some (li ord)) (ord := ord) (acc := []) (fun i hi => by rw [lots_length]; exact mem_rgI.mp (ho.mem_iff.mp hi)) (by rw [hcl]; simp; omega)
  simp only [List.map_nil, List.nil_append] at c2
  have ht : r_heaps_there [li (rgI n), .int k] M = .ok (lr (lots k (rgI n))) M := heaps_there_run hk (by rw [rgI_length]; exact hkn) (by rw [rgI_length]; exact hn)
  simp only [r_heap_move, fnRun, b_heap_move, List.replicate, List.map_cons, List.map_nil, List.length_cons, List.length_nil, List.cons_append, List.nil_append, sSeq_run, sExpr_run, eCall_run, eCons_run, eVar_run, eNil_run, List.getElem?_cons_zero, List.getElem?_cons_succ, bind_ok, List.append_nil, if_true, deals_many_run, check_heaps_run hk, sIf_run, eNot_run, eB_run, is_order_run ho (by omega), Bool.not_true, Bool.false_eq_true, if_false, sNil_run, sAsg_run, eLrg1_run, okRg_n hn, Int.toNat_natCast, rgT_rgI, ht, gN_run, List.set_cons_zero, List.set_cons_succ, sRet_run, eComp2, iLst_run, wipeT, c2]
theorem moved_run {p mv : List Int} {M : Sto} (h : Pck p) (hm : mv.Perm (rgI p.length)) : r_moved [li p, li mv] M = .ok (li (mv.map fun x => (p[x.toNat]?).getD 0)) M := by
  have hl : mv.length ≤ 16777216 := by rw [hm.length_eq, rgI_length]; have := h.len; omega
  have hc : compL (gN 2) cYes (e2 kIx (eVar 0) (eVar 2)) [some (li p), some (li mv), none] (mv.map T.int) M = .ok (mv.map fun x => T.int ((p[x.toNat]?).getD 0)) M := comp_ints fun x hx => by
    obtain ⟨h0, h1⟩ := mem_rgI.mp (hm.mem_iff.mp hx)
    have hlt : x.toNat < p.length := by omega
    have : kIx (li p) (.int x) M = .ok (.int p[x.toNat]) M := kIx_li h0 (by simp [hlt])
    simp [this, hlt]
  have ht : r_moved_there [li p, li mv] M = .ok (li (mv.map fun x => (p[x.toNat]?).getD 0)) M := by
    simp only [r_moved_there, fnRun, b_moved_there, List.replicate, List.map_cons, List.map_nil, List.length_cons, List.length_nil, List.cons_append, List.nil_append, sRet_run, eComp_run, iLst_run, eVar_run, List.getElem?_cons_zero, List.getElem?_cons_succ, bind_ok, List.length_map, if_pos hl, wipeT, List.set_cons_zero, List.set_cons_succ, hc, li, List.map_map]
    rfl
  simp only [r_moved, fnRun, b_moved, List.replicate, List.map_cons, List.map_nil, List.length_cons, List.length_nil, List.cons_append, List.nil_append, sSeq_run, sExpr_run, eCall_run, eCons_run, eVar_run, eNil_run, eA_run, List.getElem?_cons_zero, List.getElem?_cons_succ, bind_ok, List.append_nil, if_true, check_pack_run h, sIf_run, eNot_run, eB_run, kLen_lst, List.length_map, is_move_there_run hm h.len, Bool.not_true, Bool.false_eq_true, if_false, sNil_run, sRet_run, ht]
theorem chain_run {rows : List (List Int)} {M : Sto} (hl : rows.flatten.length ≤ 16777216) : r__law_chain [lr rows] M = .ok (li rows.flatten) M := by
  have loop : ∀ (rs : List (List Int)) (acc : List Int) (x : Option T), (acc ++ rs.flatten).length ≤ 16777216 → ∃ y, forL (gN 2) (sAsg (e2 kAddL (eVar 1) (eA kList (eCons (eVar 2) eNil))) (gN 1)) (rs.map fun r => T.lst (r.map T.int)) [some (lr rows), some (li acc), x] M = .ok (.nx [some (lr rows), some (li (acc ++ rs.flatten)), y]) M := fun rs => by
    induction rs with
    | nil => intro acc x _; exact ⟨x, by simp [forL]⟩
    | cons r rs ih =>
      intro acc x h
      obtain ⟨y, hy⟩ := ih (acc ++ r) (some (li r)) (by simpa using h)
      refine ⟨y, ?_⟩
      have hlen : (acc.map T.int).length + (r.map T.int).length ≤ 16777216 := by simp at h ⊢; omega
      have hk : kList [li r] M = .ok (li r) M := rfl
      rw [List.map_cons]
      unfold forL
      simp only [gN_run, bind_ok, List.set_cons_zero, List.set_cons_succ, sAsg_run, e2_run, eVar_run, eA_run, eCons_run, eNil_run, List.getElem?_cons_zero, List.getElem?_cons_succ, hk, kAddL_lst, if_pos hlen, ← List.map_append]
      rw [hy, List.flatten_cons, List.append_assoc]
  obtain ⟨y, hy⟩ := loop rows [] none (by simpa using hl)
  simp only [List.nil_append] at hy
  have hy : forL (gN 2) (sAsg (e2 kAddL (eVar 1) (eA kList (eCons (eVar 2) eNil))) (gN 1)) (rows.map fun r => T.lst (r.map T.int)) [some (lr rows), some (.lst []), none] M = .ok (.nx [some (lr rows), some (li rows.flatten), y]) M := hy
  simp only [r__law_chain, fnRun, b__law_chain, List.replicate, List.map_cons, List.map_nil, List.length_cons, List.length_nil, List.cons_append, List.nil_append, sSeq_run, sAsg_run, eLst_run, eNil_run, bind_ok, Nat.zero_le, if_true, gN_run, List.set_cons_zero, List.set_cons_succ, sFor_run, iLst_run, eVar_run, List.getElem?_cons_zero, hy, List.getElem?_cons_succ, sRet_run]
end TL
end
section
set_option Elab.async false
set_option linter.all false
set_option maxRecDepth 100000
/-! R85: heaps joined, one behind the other. -/
namespace TL
open PySem PySem.Spec PyProof.Rows L2
/-- cards of numbers, face down -/
def fd (l : List Int) : List Crd := l.map fun c => (c, 0)
theorem fd_append (a b : List Int) : fd (a ++ b) = fd a ++ fd b := List.map_append
theorem fd_len (a : List Int) : (fd a).length = a.length := List.length_map _
theorem fd_inj {a b : List Int} (h : fd a = fd b) : a = b := by
  have := congrArg (List.map Prod.fst) h
  simpa [fd, List.map_map, Function.comp_def] using this
theorem fst_fd (a : List Int) : (fd a).map Prod.fst = a := by simp [fd, List.map_map, Function.comp_def]
/-- the heaps left when those of ord from d on lie as one, under the last of ord -/
def hv (rows : List (List Int)) (ord : List Int) (u : Int) (d : Nat) (i : Int) : List Int := if i = u then catO rows (ord.drop d) else lotAt rows i
def left (ord : List Int) (u : Int) (d : Nat) (i : Int) : Bool := decide (i ∈ ord.take d) || decide (i = u)
def LH (rows : List (List Int)) (ord : List Int) (k : Nat) (late u : Int) (d : Nat) : Hs := ((rgI k).filter (left ord u d)).map fun i => (late + i, fd (hv rows ord u d i))
theorem LH_fst {rows : List (List Int)} {ord : List Int} {k : Nat} {late u : Int} {d : Nat} : (LH rows ord k late u d).map Prod.fst = ((rgI k).filter (left ord u d)).map fun i => late + i := by
  unfold LH; rw [List.map_map]; rfl
theorem rgI_lt (n : Nat) : (rgI n).Pairwise (· < ·) := by
  unfold rgI
  rw [List.pairwise_map]
  exact (List.pairwise_lt_range (n := n)).imp fun h => by omega
theorem LH_asc {rows : List (List Int)} {ord : List Int} {k : Nat} {late u : Int} {d : Nat} : ((LH rows ord k late u d).map Prod.fst).Pairwise (· < ·) := by
  rw [LH_fst, List.pairwise_map]
  exact ((rgI_lt k).filter _).imp fun h => by omega
theorem catO_len {rows : List (List Int)} {n : Nat} (h : ∀ r ∈ rows, r.length ≤ n) : ∀ l : List Int, (catO rows l).length ≤ l.length * n
  | [] => by simp [catO]
  | i :: l => by
    have ih := catO_len h l
    have h1 : (lotAt rows i).length ≤ n := by
      unfold lotAt
      cases hr : rows[i.toNat]? with
      | none => simp
      | some r => exact h r (List.mem_of_getElem? hr)
    show (List.flatMap (lotAt rows) (i :: l)).length ≤ _
    rw [List.flatMap_cons, List.length_append, List.length_cons, Nat.add_mul]
    have : (List.flatMap (lotAt rows) l).length ≤ l.length * n := ih
    omega
section
variable {rows : List (List Int)} {ord : List Int} {k n : Nat} {late u : Int} {d : Nat}
theorem lotAt_len (h : ∀ r ∈ rows, r.length ≤ n) (i : Int) : (lotAt rows i).length ≤ n := by
  unfold lotAt
  cases hr : rows[i.toNat]? with
  | none => simp
  | some r => exact h r (List.mem_of_getElem? hr)
theorem LH_ok (h : ∀ r ∈ rows, r.length ≤ n) (hk : k ≤ 10) (hn : n ≤ 100) (ho : ord.length ≤ 10) : HsOk (LH rows ord k late u d) := by
  refine ⟨LH_asc, ?_, fun x hx => ?_⟩
  · unfold LH
    rw [List.length_map]
    have : ((rgI k).filter (left ord u d)).length ≤ (rgI k).length := List.length_filter_le _ _
    rw [rgI_length] at this
    omega
  · obtain ⟨i, _, e⟩ := List.mem_map.mp hx
    subst e
    show (fd (hv rows ord u d i)).length ≤ 4000
    rw [fd_len]
    unfold hv
    split
    · have h1 := catO_len h (ord.drop d)
      have h2 : (ord.drop d).length ≤ 10 := by rw [List.length_drop]; omega
      have h3 : (ord.drop d).length * n ≤ 10 * 100 := Nat.mul_le_mul h2 hn
      omega
    · have := lotAt_len h i
      omega
theorem LH_nd : ((LH rows ord k late u d).map Prod.fst).Nodup := LH_asc.imp fun h e => by omega
theorem LH_lk {i : Int} (h0 : 0 ≤ i) (h1 : i < k) (hl : left ord u d i = true) : lk (late + i) (LH rows ord k late u d) = some (fd (hv rows ord u d i)) :=
  lk_mem LH_nd (List.mem_map.mpr ⟨i, List.mem_filter.mpr ⟨mem_rgI.mpr ⟨h0, h1⟩, hl⟩, rfl⟩)
/-- what is given of an order: all heaps, each once, the last is u -/
structure OrdOk (ord : List Int) (k : Nat) (u : Int) : Prop where
  perm : ord.Perm (rgI k)
  last : ord[k - 1]? = some u
  two : 2 ≤ k
theorem OrdOk.len (o : OrdOk ord k u) : ord.length = k := by rw [o.perm.length_eq, rgI_length]
theorem OrdOk.nd (o : OrdOk ord k u) : ord.Nodup := o.perm.nodup_iff.mpr (rgI_nodup k)
theorem OrdOk.mem (o : OrdOk ord k u) {i : Int} : i ∈ ord ↔ 0 ≤ i ∧ i < k := by rw [o.perm.mem_iff, mem_rgI]
theorem OrdOk.u_mem (o : OrdOk ord k u) : 0 ≤ u ∧ u < k := o.mem.mp (List.mem_of_getElem? o.last)
theorem OrdOk.split (o : OrdOk ord k u) : ord = ord.take (k - 1) ++ [u] := by
  have h1 : ord.drop (k - 1) = [u] := by
    have hl : k - 1 < ord.length := by rw [o.len]; have := o.two; omega
    rw [List.drop_eq_getElem_cons hl]
    have h2 : ord[k - 1] = u := by
      have := o.last
      rw [List.getElem?_eq_getElem hl] at this
      exact Option.some.inj this
    rw [h2, List.drop_of_length_le (by rw [o.len]; have := o.two; omega)]
  conv => lhs; rw [← List.take_append_drop (k - 1) ord, h1]
theorem OrdOk.u_not (o : OrdOk ord k u) {d : Nat} (hd : d ≤ k - 1) : u ∉ ord.take d := fun h => by
  have nd := o.nd
  rw [o.split, List.nodup_append] at nd
  have hs : (ord.take d).Sublist (ord.take (k - 1)) := List.take_sublist_take_left hd
  exact nd.2.2 u (hs.subset h) u List.mem_cons_self rfl
/-- one more is laid over: o at d -/
theorem LH_step (o : OrdOk ord k u) {a : Int} (hd : d + 1 ≤ k - 1) (ha : ord[d]? = some a) : joined (LH rows ord k late u (d + 1)) (late + a) (late + u) (fd (lotAt rows a) ++ fd (hv rows ord u (d + 1) u)) = LH rows ord k late u d := by
  have hlt : d < ord.length := by rw [o.len]; omega
  have ea : ord[d] = a := by rw [List.getElem?_eq_getElem hlt] at ha; exact Option.some.inj ha
  have htk : ord.take (d + 1) = ord.take d ++ [a] := by rw [List.take_add_one, List.getElem?_eq_getElem hlt, ea]; rfl
  have hau : a ≠ u := fun e => o.u_not (d := d + 1) hd (by rw [htk, e]; exact List.mem_append_right _ List.mem_cons_self)
  have hat : a ∉ ord.take d := fun h => by
    have nd : (ord.take (d + 1)).Nodup := o.nd.sublist (List.take_sublist _ _)
    rw [htk, List.nodup_append] at nd
    exact nd.2.2 a h a List.mem_cons_self rfl
  have hdr : catO rows (ord.drop d) = lotAt rows a ++ catO rows (ord.drop (d + 1)) := by
    rw [List.drop_eq_getElem_cons hlt, ea]; rfl
  unfold joined setH without LH
  rw [List.filter_map, List.filter_filter, List.map_map]
  have hf : (rgI k).filter (fun i => (((fun x : Int × List Crd => !decide (x.1 = late + a)) ∘ fun i => (late + i, fd (hv rows ord u (d + 1) i))) i && left ord u (d + 1) i)) = (rgI k).filter (left ord u d) := List.filter_congr fun i _ => by
    show (!decide (late + i = late + a) && (decide (i ∈ ord.take (d + 1)) || decide (i = u))) = (decide (i ∈ ord.take d) || decide (i = u))
    rw [htk]
    by_cases h1 : i = a
    · subst h1
      simp [hat, hau]
    · have : ¬ late + i = late + a := by omega
      simp [h1, this]
  rw [hf]
  refine List.map_congr_left fun i hi => ?_
  show (if late + i = late + u then (late + i, fd (lotAt rows a) ++ fd (hv rows ord u (d + 1) u)) else (late + i, fd (hv rows ord u (d + 1) i))) = (late + i, fd (hv rows ord u d i))
  by_cases h : i = u
  · subst h
    rw [if_pos rfl, ← fd_append]
    unfold hv
    rw [if_pos rfl, if_pos rfl, hdr]
  · rw [if_neg (by omega)]
    unfold hv
    rw [if_neg h, if_neg h]
theorem LH_others (o : OrdOk ord k u) {a : Int} (hd : d + 1 ≤ k - 1) (ha : ord[d]? = some a) (hne : lotAt rows a ≠ []) : others (LH rows ord k late u (d + 1)) (LH rows ord k late u d) = [late + u] := by
  have hlt : d < ord.length := by rw [o.len]; omega
  have ea : ord[d] = a := by rw [List.getElem?_eq_getElem hlt] at ha; exact Option.some.inj ha
  have htk : ord.take (d + 1) = ord.take d ++ [a] := by rw [List.take_add_one, List.getElem?_eq_getElem hlt, ea]; rfl
  have hdr : catO rows (ord.drop d) = lotAt rows a ++ catO rows (ord.drop (d + 1)) := by
    rw [List.drop_eq_getElem_cons hlt, ea]; rfl
  unfold others
  rw [LH_fst, List.filter_map]
  have hf : ((rgI k).filter (left ord u d)).filter ((fun q => decide (lk q (LH rows ord k late u (d + 1)) ≠ lk q (LH rows ord k late u d))) ∘ fun i => late + i) = ((rgI k).filter (left ord u d)).filter fun i => decide (i = u) := List.filter_congr fun i hi => by
    obtain ⟨h1, h2⟩ := List.mem_filter.mp hi
    obtain ⟨h3, h4⟩ := mem_rgI.mp h1
    have h5 : left ord u (d + 1) i = true := by
      unfold left at h2 ⊢
      rw [Bool.or_eq_true, decide_eq_true_eq, decide_eq_true_eq] at h2 ⊢
      rcases h2 with h2 | h2
      · exact .inl (by rw [htk]; exact List.mem_append_left _ h2)
      · exact .inr h2
    show decide (lk (late + i) (LH rows ord k late u (d + 1)) ≠ lk (late + i) (LH rows ord k late u d)) = _
    rw [LH_lk h3 h4 h5, LH_lk h3 h4 h2]
    by_cases h : i = u
    · subst h
      rw [decide_eq_true rfl, decide_eq_true_eq]
      intro e
      have e := fd_inj (Option.some.inj e)
      unfold hv at e
      rw [if_pos rfl, if_pos rfl, hdr] at e
      have := congrArg List.length e
      rw [List.length_append] at this
      have : (lotAt rows a).length = 0 := by omega
      exact hne (List.length_eq_zero_iff.mp this)
    · rw [decide_eq_false h, decide_eq_false_iff_not, Classical.not_not]
      unfold hv
      rw [if_neg h, if_neg h]
  rw [hf]
  have h1 : ∀ l : List Int, l.Nodup → u ∈ l → l.filter (fun i => decide (i = u)) = [u] := fun l => by
    induction l with
    | nil => intro _ h; nomatch h
    | cons x l ih =>
      intro nd hm
      rw [List.nodup_cons] at nd
      by_cases e : x = u
      · subst e
        rw [List.filter_cons_of_pos (by simp)]
        have : l.filter (fun i => decide (i = x)) = [] := by
          rw [List.filter_eq_nil_iff]
          intro y hy
          have : y ≠ x := fun e => nd.1 (e ▸ hy)
          simp [this]
        rw [this]
      · rw [List.filter_cons_of_neg (by simp [e])]
        rcases List.mem_cons.mp hm with e2 | hm
        · exact absurd e2.symm e
        · exact ih nd.2 hm
  have h2 : u ∈ (rgI k).filter (left ord u d) := List.mem_filter.mpr ⟨mem_rgI.mpr o.u_mem, by simp [left]⟩
  rw [h1 _ ((rgI_nodup k).sublist List.filter_sublist) h2]
  rfl
theorem LH_length (o : OrdOk ord k u) (hd : d + 1 ≤ k - 1) (ha : ∃ a, ord[d]? = some a) : (LH rows ord k late u d).length ≠ (LH rows ord k late u (d + 1)).length := by
  obtain ⟨a, ha⟩ := ha
  have hlt : d < ord.length := by rw [o.len]; omega
  have ea : ord[d] = a := by rw [List.getElem?_eq_getElem hlt] at ha; exact Option.some.inj ha
  have htk : ord.take (d + 1) = ord.take d ++ [a] := by rw [List.take_add_one, List.getElem?_eq_getElem hlt, ea]; rfl
  have hau : a ≠ u := fun e => o.u_not (d := d + 1) hd (by rw [htk, e]; exact List.mem_append_right _ List.mem_cons_self)
  have hat : a ∉ ord.take d := fun h => by
    have nd : (ord.take (d + 1)).Nodup := o.nd.sublist (List.take_sublist _ _)
    rw [htk, List.nodup_append] at nd
    exact nd.2.2 a h a List.mem_cons_self rfl
  unfold LH
  rw [List.length_map, List.length_map]
  have ha2 : a ∈ rgI k := mem_rgI.mpr (o.mem.mp (List.mem_of_getElem? ha))
  have h1 : (rgI k).filter (left ord u d) = ((rgI k).filter (left ord u (d + 1))).filter fun i => !decide (i = a) := by
    rw [List.filter_filter]
    refine List.filter_congr fun i _ => ?_
    unfold left
    rw [htk]
    by_cases h1 : i = a
    · subst h1; simp [hat, hau]
    · simp [h1]
  rw [h1]
  have : ∀ l : List Int, a ∈ l → (l.filter fun i => !decide (i = a)).length < l.length := fun l => by
    induction l with
    | nil => intro h; nomatch h
    | cons x l ih =>
      intro hm
      by_cases e : x = a
      · rw [List.filter_cons_of_neg (by simp [e]), List.length_cons]
        have := List.length_filter_le (fun i => !decide (i = a)) l
        omega
      · rw [List.filter_cons_of_pos (by simp [e]), List.length_cons, List.length_cons]
        rcases List.mem_cons.mp hm with e2 | hm
        · exact absurd e2.symm e
        · have := ih hm; omega
  have hm : a ∈ (rgI k).filter (left ord u (d + 1)) := List.mem_filter.mpr ⟨ha2, by
    unfold left
    rw [htk]; simp⟩
  have := this _ hm
  omega
/-- at first all heaps lie -/
theorem LH_first (o : OrdOk ord k u) : LH rows ord k late u (k - 1) = (rgI k).map fun i => (late + i, fd (lotAt rows i)) := by
  unfold LH
  have hf : (rgI k).filter (left ord u (k - 1)) = rgI k := List.filter_eq_self.mpr fun i hi => by
    have : i ∈ ord := o.mem.mpr (mem_rgI.mp hi)
    rw [o.split] at this
    unfold left
    rw [Bool.or_eq_true, decide_eq_true_eq, decide_eq_true_eq]
    rcases List.mem_append.mp this with h | h
    · exact .inl h
    · exact .inr (List.mem_singleton.mp h)
  rw [hf]
  refine List.map_congr_left fun i _ => ?_
  show (late + i, fd (if i = u then catO rows (ord.drop (k - 1)) else lotAt rows i)) = _
  split
  · rename_i e
    subst e
    have h1 : ord.drop (k - 1) = [i] := by
      have h2 := o.split
      have h3 := congrArg (List.drop (k - 1)) h2
      rw [List.drop_append, List.drop_take, Nat.sub_self, List.take_zero, List.nil_append, List.length_take, o.len, Nat.min_eq_left (by omega), Nat.sub_self, List.drop_zero] at h3
      exact h3
    rw [h1]
    simp [catO]
  · rfl
/-- at the end one heap lies -/
theorem LH_last (o : OrdOk ord k u) : LH rows ord k late u 0 = [(late + u, fd (catO rows ord))] := by
  unfold LH
  have hf : (rgI k).filter (left ord u 0) = [u] := by
    have : (rgI k).filter (left ord u 0) = (rgI k).filter fun i => decide (i = u) := List.filter_congr fun i _ => by simp [left]
    rw [this]
    have h1 : ∀ l : List Int, l.Nodup → u ∈ l → l.filter (fun i => decide (i = u)) = [u] := fun l => by
      induction l with
      | nil => intro _ h; nomatch h
      | cons x l ih =>
        intro nd hm
        rw [List.nodup_cons] at nd
        by_cases e : x = u
        · subst e
          rw [List.filter_cons_of_pos (by simp)]
          have : l.filter (fun i => decide (i = x)) = [] := by
            rw [List.filter_eq_nil_iff]
            intro y hy
            have : y ≠ x := fun e => nd.1 (e ▸ hy)
            simp [this]
          rw [this]
        · rw [List.filter_cons_of_neg (by simp [e])]
          rcases List.mem_cons.mp hm with e2 | hm
          · exact absurd e2.symm e
          · exact ih nd.2 hm
    exact h1 _ (rgI_nodup k) (mem_rgI.mpr o.u_mem)
  rw [hf]
  show [(late + u, fd (if u = u then catO rows (ord.drop 0) else lotAt rows u))] = _
  rw [if_pos rfl, List.drop_zero]
end
end TL
end
section
set_option Elab.async false
set_option linter.all false
set_option maxRecDepth 100000
/-! D85: what a purse and a draw are, in numbers alone. -/
namespace TL
open PySem PySem.Spec PyProof.Rows L2

theorem log_lt {i : Int} {b : Nat} (h : i.natAbs < 2 ^ b) (hb : 0 < b) : i.natAbs.log2 < b := by
  by_cases h0 : i.natAbs = 0
  · rw [h0]; simpa using hb
  · exact (Nat.log2_lt h0).mpr h
theorem kMul_ok {i j : Int} {M : Sto} (h1 : i.natAbs < 2 ^ 500000) (h2 : j.natAbs < 2 ^ 500000) : kMul (.int i) (.int j) M = .ok (.int (i * j)) M := by
  have a := log_lt h1 (by decide)
  have b := log_lt h2 (by decide)
  show (if _ then _ else _) = _
  rw [if_pos (by omega)]
theorem kMod_ok {i j : Int} {M : Sto} (h : 0 < j) : kMod (.int i) (.int j) M = .ok (.int (i % j)) M := if_pos h
theorem kDiv_ok {i j : Int} {M : Sto} (h : 0 < j) (h2 : j.natAbs.log2 < 9000) : kDiv (.int i) (.int j) M = .ok (.int (i / j)) M := if_pos ⟨h, h2⟩
theorem kPow_ok {i j : Int} {M : Sto} (h : 1 < i ∧ 0 < j ∧ Builtin.Int.intTooBig (((Builtin.Int.intBits i : Nat) : Int) * j) = false) : kPow (.int i) (.int j) M = .ok (.int (i ^ j.toNat)) M := if_pos h
theorem get_setS {M : Sto} {n : Nat} {u o : MO} (h : M.get n = some u) : (M.set n o).get n = some o := by
  have := lkM_set (k := n) (o := o) (l := M.m) ⟨u, h⟩
  rw [if_pos rfl] at this
  exact this
theorem small {i : Int} (h1 : -18446744073709551616 < i) (h2 : i < 18446744073709551616) : i.natAbs < 2 ^ 500000 := by
  have : (2 : Nat) ^ 64 ≤ 2 ^ 500000 := Nat.pow_le_pow_right (by decide) (by decide)
  have e : (2 : Nat) ^ 64 = 18446744073709551616 := by decide
  omega
theorem mixed_sem {a b c : Int} {M : Sto} (h1 : 0 ≤ a) (h2 : a < 2147483629) (h3 : 0 ≤ b) (h4 : b ≤ 1000001) (h5 : 0 ≤ c) (h6 : c ≤ 63) : ∃ v, r__law_mixed [.int a, .int b, .int c] M = .ok (.int v) M := by
  have e1 : kMul (.int a) (.int 69069) M = .ok (.int (a * 69069)) M := kMul_ok (small (by omega) (by omega)) (by decide +kernel)
  have e2' : kMul (.int 104729) (.int b) M = .ok (.int (104729 * b)) M := kMul_ok (by decide +kernel) (small (by omega) (by omega))
  have e3 : kMul (.int (104729 * b)) (.int b) M = .ok (.int (104729 * b * b)) M := kMul_ok (small (by omega) (by omega)) (small (by omega) (by omega))
  have e4 : kMul (.int 7919) (.int c) M = .ok (.int (7919 * c)) M := kMul_ok (by decide +kernel) (small (by omega) (by omega))
  have m1 : 0 ≤ (a * 69069 + 104729 * b * b + 7919 * c + b) % 2147483647 := Int.emod_nonneg _ (by decide)
  have m1' : (a * 69069 + 104729 * b * b + 7919 * c + b) % 2147483647 < 2147483647 := Int.emod_lt_of_pos _ (by decide)
  generalize hx : (a * 69069 + 104729 * b * b + 7919 * c + b) % 2147483647 = x at m1 m1'
  have e5 : kMul (.int x) (.int x) M = .ok (.int (x * x)) M := kMul_ok (small (by omega) (by omega)) (small (by omega) (by omega))
  have m2 : 0 ≤ (x * x + 40503) % 2147483629 := Int.emod_nonneg _ (by decide)
  have m2' : (x * x + 40503) % 2147483629 < 2147483629 := Int.emod_lt_of_pos _ (by decide)
  generalize hy : (x * x + 40503) % 2147483629 = y at m2 m2'
  have e6 : kMul (.int y) (.int 48271) M = .ok (.int (y * 48271)) M := kMul_ok (small (by omega) (by omega)) (by decide +kernel)
  refine ⟨(y * 48271) % 2147483587, ?_⟩
  simp only [r__law_mixed, fnRun, b__law_mixed, sSeq, sAsg, sRet, e2, eVar, eC, eA, eCons, eNil, gN, Res.bind, List.map_cons, List.map_nil, List.length_cons, List.length_nil, List.replicate, List.cons_append, List.nil_append, List.getElem?_cons_zero, List.getElem?_cons_succ, List.set_cons_zero, List.set_cons_succ, kAddI, kInt, e1, e2', e3, e4,
    kMod_ok (show (0 : Int) < 2147483647 by decide), kMod_ok (show (0 : Int) < 2147483629 by decide), kMod_ok (show (0 : Int) < 2147483587 by decide), hx, e5, hy, e6]

theorem ix_pT {M : Sto} {n : Nat} {p0 p1 p2 p3 : Int} (h : M.get n = some (.lst (pT p0 p1 p2 p3))) :
    kIx (.ref n) (.int 0) M = .ok (.int p0) M ∧ kIx (.ref n) (.int 1) M = .ok (.int p1) M ∧ kIx (.ref n) (.int 2) M = .ok (.int p2) M ∧ kIx (.ref n) (.int 3) M = .ok (.int p3) M := by
  refine ⟨?_, ?_, ?_, ?_⟩ <;> (simp only [kIx, h]; rfl)
theorem draw_sem (n k : Nat) (m p0 p1 p2 p3 : Int) (M : Sto) (hM : M.get n = some (.lst (pT p0 p1 p2 p3))) (pr : Prs k p0 p1 p2 p3) (h0 : 0 < m) (hm : m < 134217728) (hk : k < 1000000) :
    ∃ d q0 q2, 0 ≤ d ∧ d < m ∧ Prs (k + 1) q0 p1 q2 p3 ∧ r__law_draw0 [.ref n, .int m] M = .ok (.int d) (M.set n (.lst (pT q0 p1 q2 p3))) := by
  obtain ⟨i0, i1, i2, i3⟩ := ix_pT hM
  obtain ⟨a0, a1, b0, b1, c0, c1, d0, d1⟩ := pr
  have hlog : m.natAbs.log2 < 27 := log_lt (by have : (2 : Nat) ^ 27 = 134217728 := by decide
                                               omega) (by decide)
  by_cases hp : p0 > 0
  · refine ⟨p0 % m, p0 / m, p2, Int.emod_nonneg _ (by omega), Int.emod_lt_of_pos _ h0, ⟨Int.ediv_nonneg a0 (by omega), ?_, b0, b1, c0, by omega, d0, d1⟩, ?_⟩
    · have := Int.ediv_le_self m a0
      omega
    · have e1' : kDiv (.int p0) (.int m) M = .ok (.int (p0 / m)) M := kDiv_ok h0 (by omega)
      have e2' : kGt (.int p0) (.int 0) M = .ok (.bl true) M := by
        show Res.ok (T.bl (decide (0 < p0))) M = _
        rw [decide_eq_true hp]
      have hg : ∀ τ : Tau, gAt (eVar 0) (eC (.int 0)) (.int (p0 / m)) (some (.ref n) :: τ) M = .ok (some (.ref n) :: τ) (M.set n (.lst (pT (p0 / m) p1 p2 p3))) := fun τ => by
        simp only [gAt, eVar, eC, Res.bind, List.getElem?_cons_zero, hM]
        rfl
      simp only [r__law_draw0, fnRun, b__law_draw0, sSeq, sIf, eB, sAsg, sRet, e2, eVar, eC, eA, eCons, eNil, gN, Res.bind, List.map_cons, List.map_nil, List.length_cons, List.length_nil, List.replicate, List.cons_append, List.nil_append, List.getElem?_cons_zero, List.getElem?_cons_succ, List.set_cons_zero, List.set_cons_succ, i0, e2', kInt, kMod_ok h0, if_true, e1', hg]
  · have hz : p0 = 0 := by omega
    subst hz
    have e2' : kGt (.int 0) (.int 0) M = .ok (.bl false) M := rfl
    have hb : Builtin.Int.intBits m ≤ 27 := by
      unfold Builtin.Int.intBits
      split
      · exact Nat.zero_le _
      · omega
    have hdiv : ((Builtin.Int.intBits m : Nat) : Int) / 28 = 0 := Int.ediv_eq_zero_of_lt (by omega) (by omega)
    have e3 : kDiv (.int ((Builtin.Int.intBits m : Nat) : Int)) (.int 28) M = .ok (.int 0) M := by
      have : kDiv (.int ((Builtin.Int.intBits m : Nat) : Int)) (.int 28) M = .ok (.int (((Builtin.Int.intBits m : Nat) : Int) / 28)) M := kDiv_ok (by decide) (by decide +kernel)
      rw [this, hdiv]
    have hM2 : (M.set n (.lst (pT 0 p1 (p2 + 1) p3))).get n = some (.lst (pT 0 p1 (p2 + 1) p3)) := get_setS hM
    obtain ⟨j0, j1, j2, j3⟩ := ix_pT hM2
    obtain ⟨v, hv⟩ := mixed_sem (a := p1) (b := p2 + 1) (c := p3) (M := M.set n (.lst (pT 0 p1 (p2 + 1) p3))) b0 b1 (by omega) (by omega) d0 d1
    refine ⟨v % m, 0, p2 + 1, Int.emod_nonneg _ (by omega), Int.emod_lt_of_pos _ h0, ⟨Int.le_refl _, by decide +kernel, b0, b1, by omega, by omega, d0, d1⟩, ?_⟩
    have hg : ∀ τ : Tau, gAt (eVar 0) (eC (.int 2)) (.int (p2 + 1)) (some (.ref n) :: τ) M = .ok (some (.ref n) :: τ) (M.set n (.lst (pT 0 p1 (p2 + 1) p3))) := fun τ => by
      simp only [gAt, eVar, eC, Res.bind, List.getElem?_cons_zero, hM]
      rfl
    have em : kMul (.int 0) (.int 2147483587) (M.set n (.lst (pT 0 p1 (p2 + 1) p3))) = .ok (.int (0 * 2147483587)) (M.set n (.lst (pT 0 p1 (p2 + 1) p3))) := kMul_ok (by decide +kernel) (by decide +kernel)
    have er : (iRg1 (e2 kAddI (eC (.int 1)) (e2 kDiv (e1 kBits (eVar 1)) (eC (.int 28))))) [some (.ref n), some (.int m), some (.int 0), none, none] M = .ok [.int 0] M := by
      simp only [iRg1, e2, e1, eVar, eC, Res.bind, List.getElem?_cons_zero, List.getElem?_cons_succ, kBits, e3, kAddI]
      rfl
    simp only [r__law_draw0, fnRun, b__law_draw0, sSeq, sIf, eB, sAsg, sRet, sNil, sFor, e2, eVar, eC, eA, eCons, eNil, gN, Res.bind, List.map_cons, List.map_nil, List.length_cons, List.length_nil, List.replicate, List.cons_append, List.nil_append, List.getElem?_cons_zero, List.getElem?_cons_succ, List.set_cons_zero, List.set_cons_succ, i0, e2', kInt, if_false, Bool.false_eq_true] at er ⊢
    rw [er]
    simp only [Res.bind, forL, sSeq, sAsg, kInt, gN, List.getElem?_cons_zero, List.getElem?_cons_succ, List.set_cons_zero, List.set_cons_succ, i2, kAddI, hg, em, eCall, eCons, eNil, e2, eVar, eC, j1, j2, j3, List.length_cons, List.length_nil, List.append_nil, hv, Int.zero_mul, Int.zero_add, kMod_ok h0, if_true]
theorem ofScr_cut {o : Osc} {t0 : T} {ns : List Int} (h : ofScr o t0 = some (ns.map T.int)) (lo hi : Option Int) : ∃ ms : List Int, cutT (ns.map T.int) lo hi = ms.map T.int := by
  unfold cutT
  exact ⟨_, by rw [← List.map_drop, ← List.map_take]⟩
theorem p480 : ((10 : Int) ^ 60) ^ 8 = 10 ^ 480 := by rw [← Int.pow_mul]
theorem purse_sem {o : Osc} {t0 : T} {ns : List Int} {at_ : Int} {M : Sto} (h : ofScr o t0 = some (ns.map T.int)) : ∃ p0 p1 : Int, 0 ≤ p0 ∧ p0 < 10 ^ 480 ∧ 0 ≤ p1 ∧ p1 < 2147483629 ∧ r__law_purse o [t0, .int at_] M = .ok (.lst (pT p0 p1 0 at_)) M := by
  obtain ⟨ms, hms⟩ := ofScr_cut h (some at_) (some (at_ + 1))
  have hs : kSum [.lst (ms.map T.int)] M = .ok (.int ms.sum) M := by
    show (match inTs (ms.map T.int) with | some bs => Res.ok (T.int bs.sum) M | none => .stuck) = _
    rw [inTs_map]
  generalize ms.sum = z at hs
  have e1' : kPow (.int 10) (.int 18) M = .ok (.int (10 ^ 18)) M := kPow_ok (by decide +kernel)
  have e2' : kPow (.int 10) (.int 60) M = .ok (.int (10 ^ 60)) M := kPow_ok (by decide +kernel)
  have e3' : kPow (.int (10 ^ 60)) (.int 8) M = .ok (.int ((10 ^ 60) ^ 8)) M := kPow_ok (by decide +kernel)
  have e4' : ∀ i, kMod (.int i) (.int ((10 ^ 60) ^ 8)) M = .ok (.int (i % (10 ^ 60) ^ 8)) M := fun i => kMod_ok (by decide +kernel)
  refine ⟨(if (0 : Int) > z - 10 ^ 18 then 0 else z - 10 ^ 18) % (10 ^ 60) ^ 8, z % 2147483629, Int.emod_nonneg _ (by decide +kernel), ?_, Int.emod_nonneg _ (by decide), Int.emod_lt_of_pos _ (by decide), ?_⟩
  · rw [← p480]; exact Int.emod_lt_of_pos _ (by decide +kernel)
  · simp only [r__law_purse, fnRun, b__law_purse, sSeq, sAsg, sRet, e2, eVar, eC, eA, eCons, eNil, gN, eSlS, ePart, eLst, Res.bind, List.map_cons, List.map_nil, List.length_cons, List.length_nil, List.replicate, List.cons_append, List.nil_append, List.getElem?_cons_zero, List.getElem?_cons_succ, List.set_cons_zero, List.set_cons_succ,
      kAddI, h, hms, hs, kInt, kSub, kMax, e1', e2', e3', e4', kMod_ok (show (0 : Int) < 2147483629 by decide)]
    rfl
end TL
end
section
set_option Elab.async false
set_option linter.all false
set_option maxRecDepth 100000
/-! U85: k85: the law's loop. -/
namespace TL
open PySem PySem.Spec PyProof.Rows L2
def Mc (K : Nat) : Sto := ⟨[(0, .purse K)], 1⟩
def Mh (j : Nat) (row : List T) (at_ nx : Nat) : Sto := ⟨[(0, .purse j), (1, houseM row at_)], nx⟩
section
variable {j at_ nx : Nat} {row : List T}
theorem Mh_get1 : (Mh j row at_ nx).get 1 = some (houseM row at_) := rfl
theorem Mh_free (h : 2 ≤ nx) {i : Nat} (hi : nx ≤ i) : (Mh j row at_ nx).get i = none := by
  show (if Nat.beq 0 i then some (MO.purse j) else if Nat.beq 1 i then some (houseM row at_) else none) = none
  rw [if_neg fun z => by have := Nat.eq_of_beq_eq_true z; omega, if_neg fun z => by have := Nat.eq_of_beq_eq_true z; omega]
theorem Mh_pu (h : 2 ≤ nx) : Pu (Mh j row at_ nx) 0 j := ⟨rfl, fun i hi => Mh_free h hi⟩
theorem Mh_draw {m : Int} (h0 : 0 < m) (h1 : m < 134217728) (hj : j < 1000000) : rDraw [.ref 0, .int m] (Mh j row at_ nx) = .pick m.toNat fun d => .ok (.int (d : Nat)) (Mh (j + 1) row at_ nx) := by
  have e : (Mh j row at_ nx).get 0 = some (.purse j) := rfl
  unfold rDraw
  simp only [e]
  rw [if_pos ⟨h0, h1, hj⟩]
  rfl
theorem meth_do {fo : Ev T} {fs : Ev (List T)} {τ : Tau} {M : Sto} (ho : fo τ M = .ok (.ref 1) M) (e : M.get 1 = some (houseM row at_)) :
    eMeth sHouse ⟨#[100, 111]⟩ 2 [] r_House_do fo fs τ M = (fs τ M).bind fun ts M2 => if ts.length + 1 = 2 then r_House_do (.ref 1 :: ts) M2 else .stuck := by
  rw [meth_run ho e (by simp [lkF])]
  simp only [List.length_nil, Nat.add_zero, List.append_nil]
theorem meth_heaps {fo : Ev T} {τ : Tau} {M : Sto} {hs : Hs} {n m : Int} (ho : fo τ M = .ok (.ref 1) M) (e : M.get 1 = some (houseM row at_)) (r : Row row at_ (stT hs n m)) (ok : HsOk hs) :
    eMeth sHouse ⟨#[104, 101, 97, 112, 115]⟩ 1 [] r_House_heaps fo eNil τ M = .ok (hsT hs) M := by
  rw [meth_run ho e (by simp [lkF])]
  simp only [eNil_run, bind_ok, List.length_nil, List.append_nil, if_true]
  exact heaps_run e r ok
end
theorem init_run {K many : Nat} (h1 : 1 ≤ many) (h2 : many ≤ 4000) : ∃ row, r_House___init__ [.ref 1, .int many] ((Mc K).add (.ins sHouse [] [])) = .ok .non (Mh K row 0 2) ∧ Row row 0 (stT [(0, fd (rgI many))] 1 many) := by
  have hc : ∀ M, compL (gN 2) cYes (eTup (eCons (eVar 2) (eCons (eC (.int 0)) eNil))) [some (.ref 1), some (.int many), none] (rgT 0 many) M = .ok ((fd (rgI many)).map crd) M := fun M => by
    rw [comp_rg0 (h := fun i => crd ((i : Int), 0)) fun i hi => by simp [crd]]
    congr 1
    simp [fd, rgI, List.map_map, Function.comp_def]
  have hbig : (many : Int) < 4611686018427387904 ∧ (-4611686018427387904 : Int) ≤ many := by omega
  have hcount : decide ((1 : Int) ≤ (many : Int) ∧ 0 ≤ (many : Int)) = true := decide_eq_true (by omega)
  refine ⟨[.tup [.non, stT [(0, fd (rgI many))] 1 many, .non]], ?_, ⟨rfl, ⟨.non, .non, rfl⟩, by decide⟩⟩
  have hadd : (Mc K).add (.ins sHouse [] []) = ⟨[(0, .purse K), (1, .ins sHouse [] [])], 2⟩ := rfl
  have hg0 : (⟨[(0, .purse K), (1, .ins sHouse [] [])], 2⟩ : Sto).get 1 = some (.ins sHouse [] []) := rfl
  rw [hadd]
  have hdisp : ∀ M, (eDisp [((eC (.str sH)), (eDisp [((eC (.int 0)), (eComp (iRg1 (eVar 1)) (gN 2) cYes (eTup (eCons (eVar 2) (eCons (eC (.int 0)) eNil))) [2]))])), ((eC (.str sN)), (eC (.int 1))), ((eC (.str sM)), (eVar 1))]) [some (.ref 1), some (.int many), none] M = .ok (stT [(0, fd (rgI many))] 1 many) M := fun M => by
    simp only [eDisp, dispL, eC_run, bind_ok, eComp_run, iRg1_run, eVar_run, List.getElem?_cons_zero, List.getElem?_cons_succ, if_pos hbig, Int.toNat_natCast, rgT_length, if_pos (show many ≤ 16777216 by omega), wipeT, List.set_cons_zero, List.set_cons_succ, hc, toK]
    rfl
  have hf1 : (sFld sHouse sRow (eVar 0) (eLst (eCons (eTup (eCons (eC .non) (eCons (eDisp [((eC (.str sH)), (eDisp [((eC (.int 0)), (eComp (iRg1 (eVar 1)) (gN 2) cYes (eTup (eCons (eVar 2) (eCons (eC (.int 0)) eNil))) [2]))])), ((eC (.str sN)), (eC (.int 1))), ((eC (.str sM)), (eVar 1))]) (eCons (eC .non) eNil)))) eNil))) [some (.ref 1), some (.int many), none] ⟨[(0, .purse K), (1, .ins sHouse [] [])], 2⟩ =
      .ok (.nx [some (.ref 1), some (.int many), none]) ⟨[(0, .purse K), (1, .ins sHouse [sRow] [.lst [.tup [.non, stT [(0, fd (rgI many))] 1 many, .non]]])], 2⟩ := by
    unfold sFld
    simp only [eLst_run, eCons_run, eTup_run, eC_run, bind_ok, hdisp, eNil_run, List.length_cons, List.length_nil, Nat.reduceAdd, Nat.reduceLeDiff, if_true, eVar_run, List.getElem?_cons_zero, hg0]
    rfl
  have hg1 : (⟨[(0, .purse K), (1, .ins sHouse [sRow] [.lst [.tup [.non, stT [(0, fd (rgI many))] 1 many, .non]]])], 2⟩ : Sto).get 1 = some (.ins sHouse [sRow] [.lst [.tup [.non, stT [(0, fd (rgI many))] 1 many, .non]]]) := rfl
  have hf2 : (sFld sHouse sAt (eVar 0) (eC (.int 0))) [some (.ref 1), some (.int many), none] ⟨[(0, .purse K), (1, .ins sHouse [sRow] [.lst [.tup [.non, stT [(0, fd (rgI many))] 1 many, .non]]])], 2⟩ = .ok (.nx [some (.ref 1), some (.int many), none]) (Mh K [.tup [.non, stT [(0, fd (rgI many))] 1 many, .non]] 0 2) := by
    unfold sFld
    simp only [eC_run, bind_ok, eVar_run, List.getElem?_cons_zero, hg1]
    rfl
  simp only [r_House___init__, fnRun, b_House___init__, List.replicate, List.map_cons, List.map_nil, List.length_cons, List.length_nil, List.cons_append, List.nil_append, Nat.reduceAdd, Nat.reduceSub, sSeq_run, sIf_run, eNot_run, eB_run, eCall_run, eCons_run, eVar_run, eC_run, eNil_run, List.getElem?_cons_zero, List.getElem?_cons_succ, bind_ok, List.append_nil, if_true, is_count_int, hcount, Bool.not_true, Bool.false_eq_true, if_false, sNil_run]
  simp only [hf1, bind_ok, hf2]
theorem rot_fd {p : List Int} {b : Nat} : rot (fd p) b = fd (rot p b) := rot_map
theorem rot_perm' {p : List Int} {b n : Nat} (h : p.Perm (rgI n)) : (rot p b).Perm (rgI n) := rot_perm.trans h
theorem dealt_DL {p : List Int} {number late : Int} {k : Nat} (hk : k ≤ p.length) : dealtTo [(number, fd p)] number k late (fd p) = (rgI k).map fun i => (late + i, fd (lotAt (lots k p) i)) := by
  unfold dealtTo without
  have h0 : ([(number, fd p)] : Hs).filter (fun x => !decide (x.1 = number)) = [] := by simp
  rw [h0, List.nil_append]
  unfold rgI
  rw [List.map_map]
  refine List.map_congr_left fun i hi => ?_
  have hi := List.mem_range.mp hi
  show (late + (i : Int), (every k i (fd p)).reverse) = (late + (i : Int), fd (lotAt (lots k p) (i : Int)))
  rw [lotAt_lots (by omega) (by omega), Int.toNat_natCast]
  unfold fd
  rw [every_map (by omega), List.map_reverse]
theorem others_DL {p : List Int} {number late : Int} {k : Nat} {L : Hs} (hL : L.map Prod.fst = (rgI k).map fun i => late + i) (nd : (L.map Prod.fst).Nodup) (hn : number < late) : others [(number, fd p)] L = (rgI k).map fun i => late + i := by
  unfold others
  rw [← hL]
  refine List.filter_eq_self.mpr fun q hq => ?_
  obtain ⟨x, hx, e⟩ := List.mem_map.mp hq
  have h1 : lk q L = some x.2 := by rw [← e]; exact lk_mem nd hx
  have h2 : lk q [(number, fd p)] = none := lk_none (by
    rw [hL] at hq
    obtain ⟨i, hi, e⟩ := List.mem_map.mp hq
    have := (mem_rgI.mp hi).1
    simp only [List.map_cons, List.map_nil, List.mem_singleton]
    omega)
  rw [h1, h2]; rfl
theorem rows_all {rows : List (List Int)} : (rgI rows.length).map (lotAt rows) = rows := by
  apply List.ext_getElem
  · simp [rgI_length]
  · intro i h1 h2
    simp [rgI, lotAt, h2]
end TL
end
section
set_option Elab.async false
set_option linter.all false
set_option maxRecDepth 100000
/-! V85: k85: the joins, a turn, the law's part. -/
namespace TL
open PySem PySem.Spec PyProof.Rows L2
theorem vNe_done {i : Int} {M : Sto} : kVw kNe0 (.tup [.str sDone, .lst [.int i]]) (.tup [.str sDone, .lst [.int i]]) M = .ok (.bl false) M := kVw_some (by
  have h1 : (PyData.str sDone).canLay0 = true := by decide +kernel
  have h2 : SeqAt.shaped (.tuple [.str sDone, .list [.int i]]) = true := by
    show ((PyData.str sDone).canLay0 && (true && true) && decide ((PyData.tuple [.str sDone, .list [.int i]]).depth ≤ 64)) = true
    rw [h1]; rfl
  show (if SeqAt.shaped (.tuple [.str sDone, .list [.int i]]) && SeqAt.shaped (.tuple [.str sDone, .list [.int i]]) then some (!PyData.eqv (.tuple [.str sDone, .list [.int i]]) (.tuple [.str sDone, .list [.int i]])) else none) = _
  rw [h2]
  have h3 : PyData.eqv (.tuple [.str sDone, .list [.int i]]) (.tuple [.str sDone, .list [.int i]]) = true := by
    show ((sDone == sDone) && (((i == i) && true) && true)) = true
    simp
  rw [h3]; rfl)
theorem dat_done {i : Int} {k : Nat} : Dat (k + 3) (.tup [.str sDone, .lst [.int i]]) := .tup (by simp) fun x hx => by
  simp only [List.mem_cons, List.not_mem_nil, or_false] at hx
  rcases hx with rfl | rfl
  · exact .str _ (by decide +kernel)
  · exact .lst (by simp) fun y hy => by rw [List.mem_singleton] at hy; subst hy; exact .int _
theorem dat_doneL {l : List Int} {k : Nat} (h : l.length ≤ 4000) : Dat (k + 3) (.tup [.str sDone, li l]) := .tup (by simp) fun x hx => by
  simp only [List.mem_cons, List.not_mem_nil, or_false] at hx
  rcases hx with rfl | rfl
  · exact .str _ (by decide +kernel)
  · exact .lst (by rw [List.length_map]; omega) fun y hy => by
      obtain ⟨i, _, e⟩ := List.mem_map.mp hy
      subst e; exact .int _
theorem dat_li {k : Nat} {xs : List Int} (h : xs.length ≤ 16777216) : Dat (k + 2) (li xs) := .lst (by rwa [List.length_map]) fun x hx => by
  obtain ⟨i, _, e⟩ := List.mem_map.mp hx
  subst e; exact .int i
theorem dat_lr {k : Nat} {rows : List (List Int)} (h : rows.length ≤ 16777216) (h2 : ∀ r ∈ rows, r.length ≤ 16777216) : Dat (k + 3) (lr rows) := .lst (by rwa [List.length_map]) fun x hx => by
  obtain ⟨r, hr, e⟩ := List.mem_map.mp hx
  subst e; exact dat_li (h2 r hr)
def bJoin : Ev Fl := (sSeq (sPar 15 16 (eCons (e2 kIx (eVar 12) (e2 kIx (eVar 13) (e2 kSub (eVar 9) (eC (.int 1))))) (eCons (e2 kIx (eVar 12) (e2 kIx (eVar 13) (e2 kSub (e2 kSub (eVar 9) (eC (.int 2))) (eVar 14)))) eNil)))
    (sIf (eB (e2 (kVw kNe0) (eMeth ⟨#[72, 111, 117, 115, 101]⟩ ⟨#[100, 111]⟩ 2 [] r_House_do (eVar 4) (eCons (eTup (eCons (eC (.str ⟨#[106, 111, 105, 110]⟩)) (eCons (eVar 16) (eCons (eVar 15) eNil)))) eNil)) (eTup (eCons (eC (.str ⟨#[100, 111, 110, 101]⟩)) (eCons (eLst (eCons (eVar 15) eNil)) eNil))))) (sRet (eC (.bl false))) sNil))
structure Fx where
  many : Nat
  k : Nat
  late : Int
  u : Int
  ord : List Int
  rows : List (List Int)
structure FxOk (F : Fx) : Prop where
  o : OrdOk F.ord F.k F.u
  rl : F.rows.length = F.k
  ne : ∀ r ∈ F.rows, r ≠ []
  len : ∀ r ∈ F.rows, r.length ≤ 100
  k10 : F.k ≤ 10
  l0 : 0 ≤ F.late
def tauJ (F : Fx) (a3 a5 a6 a8 a11 b14 b15 b16 b17 b18 b19 : Option T) : Tau := [none, some (.ref 0), some (.int F.many), a3, some (.ref 1), a5, a6, some (.int F.late), a8, some (.int F.k), some (lr F.rows), a11, some (li ((rgI F.k).map fun i => F.late + i)), some (li F.ord), b14, b15, b16, b17, b18, b19]
theorem join_step {F : Fx} (ok : FxOk F) {i : Nat} (hi : i + 1 ≤ F.k - 1) {a3 a5 a6 a8 a11 b15 b16 b17 b18 b19 : Option T} {j at_ nx : Nat} {row : List T} (hx : 2 ≤ nx) (r : Row row at_ (stT (LH F.rows F.ord F.k F.late F.u (F.k - 1 - i)) (F.late + F.k) F.many)) (ha : at_ < 900) :
    ∃ a, ∃ row', bJoin (tauJ F a3 a5 a6 a8 a11 (some (.int (i : Nat))) b15 b16 b17 b18 b19) (Mh j row at_ nx) = .ok (.nx (tauJ F a3 a5 a6 a8 a11 (some (.int (i : Nat))) (some (.int (F.late + F.u))) (some (.int (F.late + a))) b17 b18 b19)) (Mh j row' (at_ + 1) (nx + 1)) ∧ Row row' (at_ + 1) (stT (LH F.rows F.ord F.k F.late F.u (F.k - 1 - (i + 1))) (F.late + F.k) F.many) := by
  have o := ok.o
  have hk2 := o.two
  have hd : F.k - 1 - i = (F.k - 1 - (i + 1)) + 1 := by omega
  generalize hdd : F.k - 1 - (i + 1) = d at hd
  have hd1 : d + 1 ≤ F.k - 1 := by omega
  have hlt : d < F.ord.length := by rw [o.len]; omega
  obtain ⟨a, hoa⟩ : ∃ a, F.ord[d]? = some a := ⟨_, List.getElem?_eq_getElem hlt⟩
  obtain ⟨a0, a1⟩ := o.mem.mp (List.mem_of_getElem? hoa)
  obtain ⟨u0, u1⟩ := o.u_mem
  rw [hd] at r
  refine ⟨a, ?_⟩
  have x1 : ∀ M, kIx (li F.ord) (.int ((F.k : Int) - 1)) M = .ok (.int F.u) M := fun M => kIx_li (by omega) (by
    have : ((F.k : Int) - 1).toNat = F.k - 1 := by omega
    rw [this, List.getElem?_map, o.last]; rfl)
  have x2 : ∀ M, kIx (li F.ord) (.int ((F.k : Int) - 2 - (i : Nat))) M = .ok (.int a) M := fun M => kIx_li (by omega) (by
    have : ((F.k : Int) - 2 - (i : Nat)).toNat = d := by omega
    rw [this, List.getElem?_map, hoa]; rfl)
  have x3 : ∀ (q : Int) M, 0 ≤ q → q < F.k → kIx (li ((rgI F.k).map fun i => F.late + i)) (.int q) M = .ok (.int (F.late + q)) M := fun q M h0 h1 => kIx_li h0 (by
    have : q.toNat < F.k := by omega
    simp [rgI, this]; omega)
  have htk : F.ord.take (d + 1) = F.ord.take d ++ [a] := by
    have ea : F.ord[d] = a := by rw [List.getElem?_eq_getElem hlt] at hoa; exact Option.some.inj hoa
    rw [List.take_add_one, List.getElem?_eq_getElem hlt, ea]; rfl
  have hau : a ≠ F.u := fun e => o.u_not (d := d + 1) hd1 (by rw [htk, e]; exact List.mem_append_right _ List.mem_cons_self)
  have hla : left F.ord F.u (d + 1) a = true := by unfold left; rw [htk]; simp
  have hlu : left F.ord F.u (d + 1) F.u = true := by unfold left; simp
  have ka : lk (F.late + a) (LH F.rows F.ord F.k F.late F.u (d + 1)) = some (fd (lotAt F.rows a)) := by
    rw [LH_lk a0 a1 hla]; unfold hv; rw [if_neg hau]
  have ku := LH_lk (rows := F.rows) (late := F.late) u0 u1 hlu
  have ho10 : F.ord.length ≤ 10 := by rw [o.len]; exact ok.k10
  have okA : HsOk (LH F.rows F.ord F.k F.late F.u (d + 1)) := LH_ok ok.len ok.k10 (by decide) ho10
  have okB : HsOk (LH F.rows F.ord F.k F.late F.u d) := LH_ok ok.len ok.k10 (by decide) ho10
  have hna : lotAt F.rows a ≠ [] := by
    have hl : a.toNat < F.rows.length := by rw [ok.rl]; omega
    unfold lotAt
    rw [List.getElem?_eq_getElem hl]
    exact ok.ne _ (List.getElem_mem hl)
  have hlen : (fd (lotAt F.rows a)).length + (fd (hv F.rows F.ord F.u (d + 1) F.u)).length ≤ 4000 := by
    rw [fd_len, fd_len]
    have h1 := lotAt_len ok.len a
    unfold hv
    rw [if_pos rfl]
    have h2 := catO_len ok.len (F.ord.drop (d + 1))
    have h3 : (F.ord.drop (d + 1)).length * 100 ≤ 10 * 100 := Nat.mul_le_mul_right _ (by rw [List.length_drop]; omega)
    omega
  have hm := moved_join (n := F.late + F.k) (m := F.many) (M := Mh j row at_ nx) okA (Mh_free hx (Nat.le_refl _)) ka ku (by omega) hlen
  rw [LH_step o hd1 hoa] at hm
  have hac := acted_run hm okB (LH_length o hd1 ⟨a, hoa⟩)
  rw [LH_others o hd1 hoa hna] at hac
  have hact := is_act_run (a := F.late + a) (b := F.late + F.u) (M := Mh j row at_ nx) wd_join rfl (by have := ok.l0; omega) (by have := ok.l0; omega)
  have hfit := fits_join (n := F.late + F.k) (m := F.many) (M := Mh j row at_ nx) ka ku (by omega)
  obtain ⟨row', hdo, hr'⟩ := do_run (h := 1) Mh_get1 (show (UP (Mh j row at_ nx)).get 1 = some (houseM row at_) from rfl) r hact hfit hac (Dat.succ (Dat.succ (Dat.succ (dat_act (by decide +kernel))))) (Dat.succ (Dat.succ (dat_done (i := F.late + F.u)))) (by omega)
  refine ⟨row', ?_, hr'⟩
  have hst : (UP (Mh j row at_ nx)).set 1 (houseM row' (at_ + 1)) = Mh j row' (at_ + 1) (nx + 1) := rfl
  rw [hst] at hdo
  have hdo : r_House_do [.ref 1, actT wJoin (F.late + a) (F.late + F.u)] (Mh j row at_ nx) = .ok (.tup [.str sDone, .lst [.int (F.late + F.u)]]) (Mh j row' (at_ + 1) (nx + 1)) := hdo
  simp only [bJoin, tauJ, sSeq_run, sPar_run, eCons_run, e2_run, eVar_run, eC_run, eNil_run, List.getElem?_cons_zero, List.getElem?_cons_succ, bind_ok, kSub_int, x1, x2, x3 F.u _ u0 u1, x3 a _ a0 a1, List.set_cons_zero, List.set_cons_succ, sIf_run, eB_run]
  rw [meth_do (at_ := at_) (row := row) (by simp) Mh_get1]
  simp only [eCons_run, eTup_run, eC_run, eVar_run, eNil_run, List.getElem?_cons_zero, List.getElem?_cons_succ, bind_ok, List.length_cons, List.length_nil, Nat.reduceAdd, Nat.reduceLeDiff, if_true]
  rw [show (T.tup [.str ⟨#[106, 111, 105, 110]⟩, .int (F.late + a), .int (F.late + F.u)]) = actT wJoin (F.late + a) (F.late + F.u) from rfl, hdo]
  simp only [bind_ok, eLst_run, eCons_run, eVar_run, eNil_run, List.getElem?_cons_zero, List.getElem?_cons_succ, List.length_cons, List.length_nil, Nat.reduceAdd, Nat.reduceLeDiff, if_true, vNe_done, Bool.false_eq_true, if_false, sNil_run]
theorem join_loop {F : Fx} (ok : FxOk F) {a3 a5 a6 a8 a11 b17 b18 b19 : Option T} {j : Nat} : ∀ (r i : Nat), i + r = F.k - 1 → ∀ {b14 b15 b16 : Option T} {at_ nx : Nat} {row : List T}, 2 ≤ nx → Row row at_ (stT (LH F.rows F.ord F.k F.late F.u (F.k - 1 - i)) (F.late + F.k) F.many) → at_ + r < 900 →
    ∃ c14 c15 c16 row' nx', forL (gN 14) bJoin ((List.range' i r).map fun x => T.int (x : Nat)) (tauJ F a3 a5 a6 a8 a11 b14 b15 b16 b17 b18 b19) (Mh j row at_ nx) = .ok (.nx (tauJ F a3 a5 a6 a8 a11 c14 c15 c16 b17 b18 b19)) (Mh j row' (at_ + r) nx') ∧ 2 ≤ nx' ∧ Row row' (at_ + r) (stT [(F.late + F.u, fd (catO F.rows F.ord))] (F.late + F.k) F.many)
  | 0, i, hi, b14, b15, b16, at_, nx, row, hx, hr, ha => by
    refine ⟨b14, b15, b16, row, nx, rfl, hx, ?_⟩
    have : F.k - 1 - i = 0 := by omega
    rw [this, LH_last ok.o] at hr
    exact hr
  | r + 1, i, hi, b14, b15, b16, at_, nx, row, hx, hr, ha => by
    obtain ⟨a, row', h1, h2⟩ := join_step (j := j) (a3 := a3) (a5 := a5) (a6 := a6) (a8 := a8) (a11 := a11) (b15 := b15) (b16 := b16) (b17 := b17) (b18 := b18) (b19 := b19) ok (i := i) (by omega) hx hr (by omega)
    obtain ⟨c14, c15, c16, row2, nx2, h3, h4, h5⟩ := join_loop (a3 := a3) (a5 := a5) (a6 := a6) (a8 := a8) (a11 := a11) (b17 := b17) (b18 := b18) (b19 := b19) (j := j) ok r (i + 1) (by omega) (b14 := some (.int (i : Nat))) (b15 := some (.int (F.late + F.u))) (b16 := some (.int (F.late + a))) (nx := nx + 1) (by omega) h2 (by omega)
    refine ⟨c14, c15, c16, row2, nx2, ?_, h4, by rw [show at_ + (r + 1) = at_ + 1 + r by omega]; exact h5⟩
    rw [List.range'_succ, List.map_cons]
    unfold forL
    have hg : gN 14 (.int (i : Nat)) (tauJ F a3 a5 a6 a8 a11 b14 b15 b16 b17 b18 b19) (Mh j row at_ nx) = .ok (tauJ F a3 a5 a6 a8 a11 (some (.int (i : Nat))) b15 b16 b17 b18 b19) (Mh j row at_ nx) := rfl
    rw [hg]
    simp only [bind_ok, h1]
    rw [h3, show at_ + (r + 1) = at_ + 1 + r by omega]
end TL
end
section
set_option Elab.async false
set_option linter.all false
set_option maxRecDepth 100000
set_option maxHeartbeats 0
/-! W85: k85: a turn, the law's part. -/
namespace TL
open PySem PySem.Spec PyProof.Rows L2
def isNx : Fl → Sto → Prop := fun fl _ => ∃ τ, fl = .nx τ
structure St85 (many : Nat) (left_ : Nat) (τ : Tau) (M : Sto) : Prop where
  ex : ∃ (pack : List Int) (number late : Int) (row : List T) (at_ nx j : Nat) (x3 x8 x9 x10 x11 x12 x13 x14 x15 x16 x17 x18 x19 : Option T), pack.Perm (rgI many) ∧
    τ = [none, some (.ref 0), some (.int many), x3, some (.ref 1), some (li pack), some (.int number), some (.int late), x8, x9, x10, x11, x12, x13, x14, x15, x16, x17, x18, x19] ∧
    M = Mh j row at_ nx ∧ 2 ≤ nx ∧ Row row at_ (stT [(number, fd pack)] late many) ∧ 0 ≤ number ∧ number < late ∧ at_ + 20 * left_ ≤ 100 ∧ j + 20 * left_ ≤ 200
theorem lots_fx {p : List Int} {k n : Nat} (hk : 0 < k) (hkn : k ≤ n) (hp : p.length = n) : (∀ r ∈ lots k p, r ≠ []) ∧ ∀ r ∈ lots k p, r.length ≤ n := by
  constructor
  · intro r hr e
    obtain ⟨i, hi, e2⟩ := List.mem_map.mp hr
    have := (every_len (k := k) (h := p) (i := i) (by have := List.mem_range.mp hi; omega)).1
    have h2 := congrArg List.length e2
    rw [List.length_reverse, e, List.length_nil] at h2
    omega
  · intro r hr
    obtain ⟨i, hi, e2⟩ := List.mem_map.mp hr
    have := (every_len (k := k) (h := p) (i := i) (by have := List.mem_range.mp hi; omega)).2
    have h2 := congrArg List.length e2
    rw [List.length_reverse] at h2
    omega
theorem comp_rgI {i : Nat} {f : Ev T} {τ : Tau} {M : Sto} {h : Int → T} {n : Nat} (H : ∀ x ∈ rgI n, f (τ.set i (some (.int x))) M = .ok (h x) M) : compL (gN i) cYes f τ (rgT 0 n) M = .ok ((rgI n).map h) M := by
  rw [rgT_rgI]; exact comp_ints H
theorem catO_flat {rows : List (List Int)} {ord : List Int} : (ord.map (lotAt rows)).flatten = catO rows ord := by
  unfold catO
  rw [List.flatMap_def]
theorem turn85 {many : Nat} (h2 : 2 ≤ many) (h12 : many ≤ 12) {t : T} {rest : List T} {τ : Tau} {M : Sto} (s : St85 many (rest.length + 1) τ M) :
    Wp ((gN 3 t τ M).bind ((sSeq (sAsg (eCall 2 [] (r__law_draw) (eCons (eVar 1) (eCons (e2 kAddI (eVar 2) (eC (.int 1))) eNil))) (gN 8))
    (sSeq (sExpr (eMeth ⟨#[72, 111, 117, 115, 101]⟩ ⟨#[100, 111]⟩ 2 [] r_House_do (eVar 4) (eCons (eTup (eCons (eC (.str ⟨#[99, 117, 116]⟩)) (eCons (eVar 6) (eCons (eVar 8) eNil)))) eNil)))
    (sSeq (sAsg (eCall 2 [] (r_cut_by) (eCons (eVar 5) (eCons (eVar 8) eNil))) (gN 5))
    (sSeq (sAsg (e2 kAddI (eC (.int 2)) (eCall 2 [] (r__law_draw) (eCons (eVar 1) (eCons (eA kMin (eCons (eC (.int 3)) (eCons (e2 kSub (eVar 2) (eC (.int 1))) eNil))) eNil)))) (gN 9))
    (sSeq (sAsg (eCall 2 [] (r_deals_dealt) (eCons (eVar 5) (eCons (eVar 9) eNil))) (gN 10))
    (sSeq (sAsg (eMeth ⟨#[72, 111, 117, 115, 101]⟩ ⟨#[100, 111]⟩ 2 [] r_House_do (eVar 4) (eCons (eTup (eCons (eC (.str ⟨#[100, 101, 97, 108]⟩)) (eCons (eVar 6) (eCons (eVar 9) eNil)))) eNil)) (gN 11))
    (sSeq (sAsg (eComp (iRg1 (eVar 9)) (gN 14) cYes (e2 kAddI (eVar 7) (eVar 14)) [14]) (gN 12))
    (sSeq (sIf (eOr (eNot (eB (eCall 2 [] (r__law_same 7) (eCons (eVar 11) (eCons (eTup (eCons (eC (.str ⟨#[100, 111, 110, 101]⟩)) (eCons (eVar 12) eNil))) eNil))))) (eNot (eB (eCall 2 [] (r__law_same 7) (eCons (eComp (iLst (eVar 12)) (gN 18) cYes (eComp (iLst (e2 kIx (eMeth ⟨#[72, 111, 117, 115, 101]⟩ ⟨#[104, 101, 97, 112, 115]⟩ 1 [] r_House_heaps (eVar 4) eNil) (eVar 18))) (gTup 2 (gCons (gN 17) (gCons (gN 19) gNil))) cYes (eVar 17) [17, 19]) [18]) (eCons (eVar 10) eNil)))))) (sRet (eC (.bl false))) sNil)
    (sSeq (sAsg (eCall 2 [] (r__law_shuffled) (eCons (eVar 1) (eCons (eLrg1 (eVar 9)) eNil))) (gN 13))
    (sSeq (sFor (iRg1 (e2 kSub (eVar 9) (eC (.int 1)))) (gN 14) bJoin)
    (sSeq (sAsg (eTup (eCons (e2 kIx (eVar 12) (e2 kIx (eVar 13) (e2 kSub (eVar 9) (eC (.int 1))))) (eCons (e2 kAddI (eVar 7) (eVar 9)) eNil))) (gTup 2 (gCons (gN 6) (gCons (gN 7) gNil))))
    (sSeq (sAsg (eCall 2 [] (r_moved) (eCons (eVar 5) (eCons (eCall 3 [] (r_heap_move) (eCons (eVar 2) (eCons (eVar 9) (eCons (eVar 13) eNil)))) eNil))) (gN 5))
    (sIf (eNot (eB (eCall 2 [] (r__law_same 7) (eCons (eLst (eCons (eCall 1 [] (r_read_off) (eCons (eVar 4) eNil)) (eCons (eVar 5) eNil))) (eCons (e2 kRep (eLst (eCons (eCall 1 [] (r__law_chain) (eCons (eComp (iLst (eVar 13)) (gN 18) cYes (e2 kIx (eVar 10) (eVar 18)) [18]) eNil)) eNil)) (eC (.int 2))) eNil))))) (sRet (eC (.bl false))) sNil)))))))))))))))
      (Turn (St85 many rest.length) fun _ _ => False) := by
  obtain ⟨pack, number, late, row, at_, nx, j, x3, x8, x9, x10, x11, x12, x13, x14, x15, x16, x17, x18, x19, hp, eτ, eM, hx, hr, hn0, hnl, hat, hj⟩ := s.ex
  subst eτ eM
  have hpl : pack.length = many := by rw [hp.length_eq, rgI_length]
  have pk := pck_perm hp (show many ≤ 4000 by omega)
  have hne : pack ≠ [] := fun e => by rw [e] at hpl; simp at hpl; omega
  simp only [gN_run, bind_ok, List.set_cons_zero, List.set_cons_succ]
  -- how many are cut
  refine seq_all' ?_
  simp only [sAsg_run, eCall_run, eCons_run, eVar_run, e2_run, eC_run, eNil_run, List.getElem?_cons_zero, List.getElem?_cons_succ, bind_ok, kAddI_int, List.length_cons, List.length_nil, List.append_nil, if_true, r__law_draw]
  rw [show rDraw [.ref 0, .int ((many : Int) + 1)] (Mh j row at_ nx) = .pick (many + 1) fun d => .ok (.int (d : Nat)) (Mh (j + 1) row at_ nx) from Mh_draw (m := ((many : Int) + 1)) (by omega) (by omega) (by omega)]
  simp only [bind_pick, bind_ok, gN_run, List.set_cons_zero, List.set_cons_succ, wp_pick, wp_ok, flS_nx]
  intro b hb
  -- the table is cut
  refine seq_all' ?_
  have hfl : (fd pack).length = many := by rw [fd_len]; exact hpl
  obtain ⟨ans, dans, hac⟩ := acted_cut (a := number) (n := late) (m := many) (h := fd pack) (b := b) (M := Mh (j + 1) row at_ nx) (by omega)
  rw [rot_fd] at hac
  have lk0 : lk number [(number, fd pack)] = some (fd pack) := by show (if number = number then some (fd pack) else none) = _; rw [if_pos rfl]
  obtain ⟨row1, hdo1, hr1⟩ := do_run (h := 1) (M := Mh (j + 1) row at_ nx) (M1 := Mh (j + 1) row at_ nx) Mh_get1 Mh_get1 hr (is_act_run (a := number) (b := (b : Nat)) wd_cut rfl hn0 (by omega)) (fits_cut lk0 (by rw [hfl]; omega)) hac (Dat.succ (Dat.succ (Dat.succ (dat_act (by decide +kernel))))) dans (by omega)
  have hdo1 : r_House_do [.ref 1, .tup [.str ⟨#[99, 117, 116]⟩, .int number, .int (b : Nat)]] (Mh (j + 1) row at_ nx) = .ok ans (Mh (j + 1) row1 (at_ + 1) nx) := hdo1
  simp only [sExpr_run]
  rw [meth_do (at_ := at_) (row := row) (by simp) Mh_get1]
  simp only [eCons_run, eTup_run, eC_run, eVar_run, eNil_run, List.getElem?_cons_zero, List.getElem?_cons_succ, bind_ok, List.length_cons, List.length_nil, Nat.reduceAdd, Nat.reduceLeDiff, if_true, hdo1, wp_ok, flS_nx]
  -- the pack is cut
  have hq : (rot pack b).Perm (rgI many) := rot_perm' hp
  refine seq_all' ?_
  simp only [sAsg_run, eCall_run, eCons_run, eVar_run, eNil_run, List.getElem?_cons_zero, List.getElem?_cons_succ, bind_ok, List.length_cons, List.length_nil, List.append_nil, if_true, cut_by_run pk hne (show b ≤ pack.length by omega), gN_run, List.set_cons_zero, List.set_cons_succ, wp_ok, flS_nx]
  generalize rot pack b = p at hq hr1 ⊢
  have hplen : p.length = many := by rw [hq.length_eq, rgI_length]
  have pq := pck_perm hq (show many ≤ 4000 by omega)
  -- how many heaps
  refine seq_all' ?_
  obtain ⟨W, w1, w2, w3, hW⟩ : ∃ W : Nat, 1 ≤ W ∧ W ≤ 3 ∧ W + 1 ≤ many ∧ (if (many : Int) - 1 < 3 then (many : Int) - 1 else 3) = (W : Int) := by
    by_cases hc : (many : Int) - 1 < 3
    · exact ⟨many - 1, by omega, by omega, by omega, by rw [if_pos hc]; omega⟩
    · exact ⟨3, by omega, by omega, by omega, by rw [if_neg hc]; rfl⟩
  simp only [sAsg_run, e2_run, eC_run, eCall_run, eCons_run, eVar_run, eA_run, eNil_run, List.getElem?_cons_zero, List.getElem?_cons_succ, bind_ok, kSub_int, kMin_int, hW, List.length_cons, List.length_nil, List.append_nil, if_true, r__law_draw]
  rw [show rDraw [.ref 0, .int (W : Nat)] (Mh (j + 1) row1 (at_ + 1) nx) = .pick W fun d => .ok (.int (d : Nat)) (Mh (j + 1 + 1) row1 (at_ + 1) nx) from Mh_draw (m := (W : Int)) (by omega) (by omega) (by omega)]
  simp only [bind_pick, bind_ok, kAddI_int, gN_run, List.set_cons_zero, List.set_cons_succ, wp_pick, wp_ok, flS_nx]
  intro d hd
  obtain ⟨k, hk⟩ : ∃ k, k = 2 + d := ⟨_, rfl⟩
  have ek : (2 : Int) + (d : Int) = (k : Int) := by omega
  rw [ek]
  have hk2 : 2 ≤ k := by omega
  have hkm : k ≤ many := by omega
  have hk10 : k ≤ 4 := by omega
  clear ek hk hd d hW w1 w2 w3 W
  -- the lots
  refine seq_all' ?_
  simp only [sAsg_run, eCall_run, eCons_run, eVar_run, eNil_run, List.getElem?_cons_zero, List.getElem?_cons_succ, bind_ok, List.length_cons, List.length_nil, List.append_nil, if_true, deals_run pq (show 0 < k by omega) (show k ≤ p.length by omega), gN_run, List.set_cons_zero, List.set_cons_succ, wp_ok, flS_nx]
  obtain ⟨rne, rlen⟩ := lots_fx (k := k) (n := many) (by omega) hkm hplen
  have rl : (lots k p).length = k := lots_length
  -- the table is dealt
  refine seq_all' ?_
  have lk1 : lk number [(number, fd p)] = some (fd p) := by show (if number = number then some (fd p) else none) = _; rw [if_pos rfl]
  have ok1 : HsOk [(number, fd p)] := ⟨by simp, by simp, fun x hx => by rw [List.mem_singleton] at hx; subst hx; show (fd p).length ≤ 4000; rw [fd_len]; omega⟩
  have hmd := moved_deal (hs := [(number, fd p)]) (n := late) (m := many) (a := number) (k := k) (h := fd p) (M := Mh (j + 1 + 1) row1 (at_ + 1) nx) ok1 (Mh_free hx (Nat.le_refl _)) lk1 hk2 (by rw [fd_len]; omega) (by rw [fd_len]; omega) (fun x hx => by rw [List.mem_singleton] at hx; subst hx; exact hnl)
  rw [dealt_DL (by omega)] at hmd
  generalize hDL : ((rgI k).map fun i => (late + i, fd (lotAt (lots k p) i)) : Hs) = DL at hmd
  have hDf : DL.map Prod.fst = (rgI k).map fun i => late + i := by rw [← hDL, List.map_map]; rfl
  have okD : HsOk DL := by
    refine ⟨by rw [hDf, List.pairwise_map]; exact (rgI_lt k).imp fun h => by omega, by rw [← hDL, List.length_map, rgI_length]; omega, fun x hx => ?_⟩
    rw [← hDL] at hx
    obtain ⟨i, _, e⟩ := List.mem_map.mp hx
    subst e
    show (fd (lotAt (lots k p) i)).length ≤ 4000
    rw [fd_len]
    have := lotAt_len rlen i
    omega
  have hDlen : DL.length = k := by rw [← hDL, List.length_map, rgI_length]
  have hacd := acted_run hmd okD (by rw [hDlen]; simp; omega)
  rw [others_DL hDf okD.nd hnl] at hacd
  have hfl2 : ((rgI k).map fun i => late + i).length ≤ 4000 := by rw [List.length_map, rgI_length]; omega
  obtain ⟨row2, hdo2, hr2⟩ := do_run (h := 1) (M := Mh (j + 1 + 1) row1 (at_ + 1) nx) Mh_get1 (show (UP (Mh (j + 1 + 1) row1 (at_ + 1) nx)).get 1 = some (houseM row1 (at_ + 1)) from rfl) hr1 (is_act_run (a := number) (b := (k : Nat)) wd_deal rfl hn0 (by omega)) (fits_deal lk1 (by omega) (by rw [fd_len]; omega)) hacd (Dat.succ (Dat.succ (Dat.succ (dat_act (by decide +kernel))))) (Dat.succ (Dat.succ (dat_doneL hfl2))) (by omega)
  have hdo2 : r_House_do [.ref 1, .tup [.str ⟨#[100, 101, 97, 108]⟩, .int number, .int (k : Nat)]] (Mh (j + 1 + 1) row1 (at_ + 1) nx) = .ok (.tup [.str sDone, li ((rgI k).map fun i => late + i)]) (Mh (j + 1 + 1) row2 (at_ + 1 + 1) (nx + 1)) := hdo2
  simp only [sAsg_run]
  rw [meth_do (at_ := at_ + 1) (row := row1) (by simp) Mh_get1]
  simp only [eCons_run, eTup_run, eC_run, eVar_run, eNil_run, List.getElem?_cons_zero, List.getElem?_cons_succ, bind_ok, List.length_cons, List.length_nil, Nat.reduceAdd, Nat.reduceLeDiff, if_true, hdo2, gN_run, List.set_cons_zero, List.set_cons_succ, wp_ok, flS_nx]
  -- the fresh numbers
  refine seq_all' ?_
  have hbig : (k : Int) < 4611686018427387904 ∧ (-4611686018427387904 : Int) ≤ k := by omega
  have cf : ∀ y8 y9 y10 y11 y12 y13 M, compL (gN 14) cYes (e2 kAddI (eVar 7) (eVar 14)) [none, some (.ref 0), some (.int many), some t, some (.ref 1), some (li p), some (.int number), some (.int late), y8, y9, y10, y11, y12, y13, none, x15, x16, x17, x18, x19] (rgT 0 k) M = .ok (((rgI k).map fun i => late + i).map T.int) M := fun y8 y9 y10 y11 y12 y13 M => by
    rw [comp_rgI (h := fun i => .int (late + i)) fun i _ => by simp, List.map_map]; rfl
  simp only [sAsg_run, eComp_run, iRg1_run, eVar_run, List.getElem?_cons_zero, List.getElem?_cons_succ, bind_ok, if_pos hbig, Int.toNat_natCast, rgT_length, if_pos (show k ≤ 16777216 by omega), wipeT, List.set_cons_zero, List.set_cons_succ, cf, gN_run, wp_ok, flS_nx]
  -- the looks
  refine seq_all' ?_
  have same1 : ∀ M, r__law_same 7 [.tup [.str sDone, li ((rgI k).map fun i => late + i)], .tup [.str sDone, li ((rgI k).map fun i => late + i)]] M = .ok (.bl true) M := fun M => same_refl (dat_doneL (k := 4) hfl2)
  have same2 : ∀ M, r__law_same 7 [lr (lots k p), lr (lots k p)] M = .ok (.bl true) M := fun M => same_refl (dat_lr (k := 4) (by rw [rl]; omega) fun r hr => by have := rlen r hr; omega)
  have c2 : ∀ y8 y9 y10 y11 y12 y13 y14, compL (gN 18) cYes (eComp (iLst (e2 kIx (eMeth ⟨#[72, 111, 117, 115, 101]⟩ ⟨#[104, 101, 97, 112, 115]⟩ 1 [] r_House_heaps (eVar 4) eNil) (eVar 18))) (gTup 2 (gCons (gN 17) (gCons (gN 19) gNil))) cYes (eVar 17) [17, 19]) [none, some (.ref 0), some (.int many), some t, some (.ref 1), some (li p), some (.int number), some (.int late), y8, y9, y10, y11, y12, y13, y14, x15, x16, x17, none, x19] (((rgI k).map fun i => late + i).map T.int) (Mh (j + 1 + 1) row2 (at_ + 1 + 1) (nx + 1)) = .ok ((lots k p).map fun r => T.lst (r.map T.int)) (Mh (j + 1 + 1) row2 (at_ + 1 + 1) (nx + 1)) := fun y8 y9 y10 y11 y12 y13 y14 => by
    have hra2 : (((rgI k).map fun i => late + i).map fun q => li (lotAt (lots k p) (q - late))) = (lots k p).map fun r => T.lst (r.map T.int) := by
      have hra := rows_all (rows := lots k p)
      rw [rl] at hra
      rw [List.map_map]
      conv => rhs; rw [← hra]
      rw [List.map_map]
      refine List.map_congr_left fun i _ => ?_
      show li (lotAt (lots k p) (late + i - late)) = li (lotAt (lots k p) i)
      rw [show late + i - late = i by omega]
    rw [← hra2]
    refine comp_ints fun q hq => ?_
    obtain ⟨i, hi, eq⟩ := List.mem_map.mp hq
    subst eq
    have hlk : lk (late + i) DL = some (fd (lotAt (lots k p) i)) := lk_mem okD.nd (by rw [← hDL]; exact List.mem_map.mpr ⟨i, hi, rfl⟩)
    have hmh := meth_heaps (fo := eVar 4) (τ := [none, some (.ref 0), some (.int many), some t, some (.ref 1), some (li p), some (.int number), some (.int late), y8, y9, y10, y11, y12, y13, y14, x15, x16, x17, some (.int (late + i)), x19]) (M := Mh (j + 1 + 1) row2 (at_ + 1 + 1) (nx + 1)) (by simp) Mh_get1 hr2 okD
    have hin : ∀ (g : List Crd) (M : Sto), compL (gTup 2 (gCons (gN 17) (gCons (gN 19) gNil))) cYes (eVar 17) [none, some (.ref 0), some (.int many), some t, some (.ref 1), some (li p), some (.int number), some (.int late), y8, y9, y10, y11, y12, y13, y14, x15, x16, none, some (.int (late + i)), none] (g.map crd) M = .ok ((g.map Prod.fst).map T.int) M := fun g M => by
      rw [compL_map (h := fun t => match t with | .tup [.int c, _] => .int c | _ => .non) fun u hu => ?_]
      · rw [List.map_map, List.map_map]; rfl
      · obtain ⟨c, hc, ec⟩ := List.mem_map.mp hu
        subst ec
        exact ⟨[none, some (.ref 0), some (.int many), some t, some (.ref 1), some (li p), some (.int number), some (.int late), y8, y9, y10, y11, y12, y13, y14, x15, x16, some (.int c.1), some (.int (late + i)), some (.int c.2)], by simp [crd], by rfl⟩
    have hll : ((fd (lotAt (lots k p) i)).map crd).length ≤ 16777216 := by
      rw [List.length_map, fd_len]; have := lotAt_len rlen i; omega
    simp only [eComp_run, iLst_run, e2_run, List.set_cons_zero, List.set_cons_succ, hmh, bind_ok, eVar_run, List.getElem?_cons_zero, List.getElem?_cons_succ, ix_hs hlk, hpT, if_pos hll, wipeT, hin, fst_fd, show late + i - late = i by omega]
  have hfl3 : (((rgI k).map fun i => late + i).map T.int).length ≤ 16777216 := by rw [List.length_map]; omega
  simp only [sIf_run, eOr_run, eNot_run, eB_run, eCall_run, eCons_run, eVar_run, eTup_run, eC_run, eNil_run, List.getElem?_cons_zero, List.getElem?_cons_succ, bind_ok, List.length_cons, List.length_nil, Nat.reduceAdd, Nat.reduceLeDiff, List.append_nil, if_true, same1, Bool.not_true, Bool.false_eq_true, if_false, eComp_run, iLst_run, if_pos hfl3, wipeT, List.set_cons_zero, List.set_cons_succ, c2, same2, sNil_run, wp_ok, flS_nx]
  -- an order is drawn
  refine seq_all' ?_
  simp only [sAsg_run, eCall_run, eCons_run, eVar_run, eLrg1_run, eNil_run, List.getElem?_cons_zero, List.getElem?_cons_succ, bind_ok, okRg_n (show k ≤ 4000 by omega), Int.toNat_natCast, rgT_rgI, List.length_cons, List.length_nil, Nat.reduceAdd, List.append_nil, if_true]
  rw [wp_bind]
  refine (shuffled_run (Mh_pu (j := j + 1 + 1) (row := row2) (at_ := at_ + 1 + 1) (nx := nx + 1) (by omega)) pln_ints (by rw [List.length_map, rgI_length]; omega) (by omega)).mono fun t' M' ⟨us, e1, hpu, e2'⟩ => ?_
  subst e1 e2'
  obtain ⟨ord, e, ho⟩ := map_perm_ints hpu
  subst e
  have hM2 : PB (Mh (j + 1 + 1) row2 (at_ + 1 + 1) (nx + 1)) 0 (j + 1 + 1 + ((rgI k).map T.int).length) [] ((Mh (j + 1 + 1) row2 (at_ + 1 + 1) (nx + 1)).nx + 1) = Mh (j + 1 + 1 + k) row2 (at_ + 1 + 1) (nx + 1 + 1) := by
    rw [List.length_map, rgI_length]; rfl
  rw [hM2]
  have hol : ord.length = k := by rw [ho.length_eq, rgI_length]
  have hok1 : k - 1 < ord.length := by omega
  obtain ⟨u, hu⟩ : ∃ u, ord[k - 1]? = some u := ⟨_, List.getElem?_eq_getElem hok1⟩
  have oo : OrdOk ord k u := ⟨ho, hu, hk2⟩
  obtain ⟨u0, u1⟩ := oo.u_mem
  simp only [gN_run, bind_ok, List.set_cons_zero, List.set_cons_succ, wp_ok, flS_nx]
  -- the heaps are joined
  refine seq_all' ?_
  have okF : FxOk ⟨many, k, late, u, ord, lots k p⟩ := ⟨oo, rl, rne, fun r hr => by have := rlen r hr; show r.length ≤ 100; omega, by show k ≤ 10; omega, by show 0 ≤ late; omega⟩
  have hr3 : Row row2 (at_ + 1 + 1) (stT (LH (lots k p) ord k late u (k - 1 - 0)) (late + k) many) := by
    rw [Nat.sub_zero, LH_first oo, hDL]; exact hr2
  obtain ⟨c14, c15, c16, row3, nx3, hjl, hnx3, hr4⟩ := join_loop okF (a3 := some t) (a5 := some (li p)) (a6 := some (.int number)) (a8 := some (.int (b : Nat))) (a11 := some (.tup [.str sDone, li ((rgI k).map fun i => late + i)])) (b17 := x17) (b18 := x18) (b19 := x19) (j := j + 1 + 1 + k) (k - 1) 0 (by show 0 + (k - 1) = k - 1; omega) (b14 := x14) (b15 := x15) (b16 := x16) (at_ := at_ + 1 + 1) (nx := nx + 1 + 1) (by omega) hr3 (by omega)
  have hrg : (List.range' 0 (k - 1)).map (fun x => T.int (x : Nat)) = rgT 0 (k - 1) := by
    rw [← List.range_eq_range']
    unfold rgT
    exact List.map_congr_left fun j _ => by simp
  rw [hrg] at hjl
  have hkb : (k : Int) - 1 < 4611686018427387904 ∧ (-4611686018427387904 : Int) ≤ (k : Int) - 1 := by omega
  have hkn : ((k : Int) - 1).toNat = k - 1 := by omega
  simp only [tauJ] at hjl
  simp only [sFor_run, iRg1_run, e2_run, eVar_run, eC_run, List.getElem?_cons_zero, List.getElem?_cons_succ, bind_ok, kSub_int, if_pos hkb, hkn, hjl, wp_ok, flS_nx]
  -- number, late
  refine seq_all' ?_
  have y1 : ∀ M, kIx (li ord) (.int ((k : Int) - 1)) M = .ok (.int u) M := fun M => kIx_li (by omega) (by rw [hkn, List.getElem?_map, hu]; rfl)
  have y2 : ∀ M, kIx (li ((rgI k).map fun i => late + i)) (.int u) M = .ok (.int (late + u)) M := fun M => kIx_li u0 (by
    have : u.toNat < k := by omega
    simp [rgI, this]; omega)
  simp only [sAsg_run, eTup_run, eCons_run, e2_run, eVar_run, eC_run, eNil_run, List.getElem?_cons_zero, List.getElem?_cons_succ, bind_ok, kSub_int, y1, y2, kAddI_int, List.length_cons, List.length_nil, Nat.reduceAdd, Nat.reduceLeDiff, if_true, gTup_run, gCons_run, gN_run, gNil_run, List.set_cons_zero, List.set_cons_succ, wp_ok, flS_nx]
  -- the pack is moved
  refine seq_all' ?_
  have hcp := catO_perm (n := many) (show 0 < k by omega) hkm ho
  have hmv := moved_run (mv := catO (lots k (rgI many)) ord) (M := Mh (j + 1 + 1 + k) row3 (at_ + 1 + 1 + (k - 1)) nx3) pq (by rw [hplen]; exact hcp)
  have hlm2 := lots_map (p := p) (k := k) (ord := ord) (fun i hi => oo.mem.mp hi) (by omega)
  rw [hplen] at hlm2
  rw [hlm2] at hmv
  have hmove := heap_move_run (M := Mh (j + 1 + 1 + k) row3 (at_ + 1 + 1 + (k - 1)) nx3) (show 0 < k by omega) hkm (by omega) ho
  have hnp : (catO (lots k p) ord).Perm (rgI many) := by
    rw [← hlm2]
    refine (hcp.map _).trans ?_
    have := getD_rg (p := p)
    rw [hplen] at this
    rw [this]
    exact hq
  simp only [sAsg_run, eCall_run, eCons_run, eVar_run, eNil_run, List.getElem?_cons_zero, List.getElem?_cons_succ, bind_ok, List.length_cons, List.length_nil, Nat.reduceAdd, List.append_nil, if_true, hmove, hmv, gN_run, List.set_cons_zero, List.set_cons_succ, wp_ok, flS_nx]
  -- the last look
  have hnl2 : (catO (lots k p) ord).length = many := by rw [hnp.length_eq, rgI_length]
  have hro := read_off_run (h := 1) (M := Mh (j + 1 + 1 + k) row3 (at_ + 1 + 1 + (k - 1)) nx3) Mh_get1 hr4 (by rw [fd_len]; show (catO (lots k p) ord).length ≤ 4000; omega)
  rw [fst_fd] at hro
  have hro : r_read_off [.ref 1] (Mh (j + 1 + 1 + k) row3 (at_ + 1 + 1 + (k - 1)) nx3) = .ok (li (catO (lots k p) ord)) (Mh (j + 1 + 1 + k) row3 (at_ + 1 + 1 + (k - 1)) nx3) := hro
  have hch : ∀ M, r__law_chain [lr (ord.map (lotAt (lots k p)))] M = .ok (li (catO (lots k p) ord)) M := fun M => by
    have := chain_run (rows := ord.map (lotAt (lots k p))) (M := M) (by rw [catO_flat]; omega)
    rwa [catO_flat] at this
  have c3 : ∀ y5 y6 y7 y8 y9 y11 y12 y13 y14 y15 y16 M, compL (gN 18) cYes (e2 kIx (eVar 10) (eVar 18)) [none, some (.ref 0), some (.int many), some t, some (.ref 1), y5, y6, y7, y8, y9, some (lr (lots k p)), y11, y12, y13, y14, y15, y16, x17, none, x19] (ord.map T.int) M = .ok ((ord.map (lotAt (lots k p))).map fun r => T.lst (r.map T.int)) M := fun y5 y6 y7 y8 y9 y11 y12 y13 y14 y15 y16 M => by
    rw [comp_ints (h := fun i => li (lotAt (lots k p) i)) fun i hi => ?_, List.map_map]
    · rfl
    · obtain ⟨i0, i1⟩ := oo.mem.mp hi
      have hl : i.toNat < (lots k p).length := by rw [rl]; omega
      have : kIx (lr (lots k p)) (.int i) M = .ok (li (lotAt (lots k p) i)) M := kIx_li i0 (by
        rw [List.getElem?_map, List.getElem?_eq_getElem hl]
        unfold lotAt
        rw [List.getElem?_eq_getElem hl]; rfl)
      simp [this]
  have hrep : ∀ x M, kRep (.lst [x]) (.int 2) M = .ok (.lst [x, x]) M := fun x M => rfl
  have same3 : ∀ M, r__law_same 7 [.lst [li (catO (lots k p) ord), li (catO (lots k p) ord)], .lst [li (catO (lots k p) ord), li (catO (lots k p) ord)]] M = .ok (.bl true) M := fun M => same_refl (.lst (by simp) fun x hx => by
    simp only [List.mem_cons, List.not_mem_nil, or_false] at hx
    rcases hx with rfl | rfl <;> exact dat_li (k := 4) (by omega))
  have hol2 : (ord.map T.int).length ≤ 16777216 := by rw [List.length_map]; omega
  simp only [sIf_run, eNot_run, eB_run, eCall_run, eCons_run, eLst_run, e2_run, eC_run, eVar_run, eNil_run, eComp_run, iLst_run, List.getElem?_cons_zero, List.getElem?_cons_succ, bind_ok, List.length_cons, List.length_nil, Nat.reduceAdd, Nat.reduceLeDiff, List.append_nil, if_true, hro, if_pos hol2, wipeT, List.set_cons_zero, List.set_cons_succ, c3, hch, hrep, same3, Bool.not_true, Bool.false_eq_true, if_false, sNil_run, wp_ok]
  exact ⟨catO (lots k p) ord, late + u, late + k, row3, at_ + 1 + 1 + (k - 1), nx3, j + 1 + 1 + k, _, _, _, _, _, _, _, _, _, _, _, _, _, hnp, rfl, rfl, hnx3, hr4, by omega, by omega, by omega, by omega⟩
end TL
end
section
set_option Elab.async false
set_option linter.all false
set_option maxRecDepth 100000
set_option maxHeartbeats 0
/-! G85: the law answers True, whatever the script is. -/
namespace TL
open PySem PySem.Spec PyProof.Rows L2
theorem canL_beh {n K : Nat} {nx : Nat} : ∀ {r : List (Nat × MO)}, Beh n nx r → canL n K r = some []
  | [], _ => rfl
  | (c, o) :: r, h => by
    have h1 := (h (c, o) List.mem_cons_self).1
    unfold canL
    rw [if_neg (by simp at h1; omega)]
    exact canL_beh fun p hp => h p (List.mem_cons_of_mem _ hp)
theorem can_run {ks : List Nat} {K j nx : Nat} {r : List (Nat × MO)} {f : Ev Fl} {τ : Tau} (hj : j ≤ K) (hb : Beh 1 nx r) {K0 : Nat} : sCan 1 ks K f τ (PB (Mc K0) 0 j r nx) = f (canT 1 ks 0 τ) (Mc K) := by
  have : canL 1 K (PB (Mc K0) 0 j r nx).m = some [(0, .purse K)] := by
    show canL 1 K ((0, .purse j) :: r) = _
    unfold canL
    rw [if_pos (by decide)]
    simp only [if_pos hj, canL_beh hb]
    rfl
  unfold sCan
  rw [this]
  rfl
def tauC (many : Nat) : Tau := [none, some (.ref 0), some (.int many)] ++ List.replicate 17 none
theorem make_run {K many : Nat} (h1 : 1 ≤ many) (h2 : many ≤ 4000) {fs : Ev (List T)} {τ : Tau} (hf : fs τ (Mc K) = .ok [.int many] (Mc K)) : ∃ row, eMake sHouse 2 [] r_House___init__ fs τ (Mc K) = .ok (.ref 1) (Mh K row 0 2) ∧ Row row 0 (stT [(0, fd (rgI many))] 1 many) := by
  obtain ⟨row, hi, hr⟩ := init_run (K := K) h1 h2
  refine ⟨row, ?_, hr⟩
  have hnx : (Mc K).nx = 1 := rfl
  unfold eMake
  simp only [hf, bind_ok, List.length_cons, List.length_nil, Nat.reduceAdd, if_true, List.append_nil, hnx, hi]
theorem part85 {many : Nat} (h2 : 2 ≤ many) (h12 : many ≤ 12) : Wp (p_law_1 1 (tauC many) (Mc 100)) isNx := by
  obtain ⟨row, hmk, hr⟩ := make_run (K := 100) (many := many) (fs := eCons (eVar 2) eNil) (τ := tauC many) (by omega) (by omega) (by simp [tauC])
  unfold p_law_1
  refine seq_all' ?_
  simp only [sAsg_run, eTup_run, eCons_run, hmk, bind_ok]
  simp only [tauC, List.replicate, List.cons_append, List.nil_append, eCall_run, eCons_run, eVar_run, eNil_run, List.getElem?_cons_zero, List.getElem?_cons_succ, bind_ok, List.length_cons, List.length_nil, Nat.reduceAdd, Nat.reduceLeDiff, List.append_nil, if_true, whole_pack_run (show many ≤ 4000 by omega), gTup_run, gCons_run, gN_run, gNil_run, List.set_cons_zero, List.set_cons_succ, wp_ok, flS_nx]
  refine seq_all' ?_
  simp only [sAsg_run, eTup_run, eCons_run, eC_run, eNil_run, bind_ok, List.length_cons, List.length_nil, Nat.reduceAdd, Nat.reduceLeDiff, if_true, gTup_run, gCons_run, gN_run, gNil_run, List.set_cons_zero, List.set_cons_succ, wp_ok, flS_nx]
  refine seq_all' ?_
  simp only [sFor_run, iRg1_run, eC_run, bind_ok]
  rw [if_pos (by decide)]
  simp only [bind_ok]
  refine forL_all (P := fun rest τ M => St85 many rest.length τ M) (fun t ts τ M s => ?_) (fun τ M s => ?_) ?_
  · exact (turn85 h2 h12 s).mono fun fl M q => by
      cases fl with
      | nx τ => exact q
      | ct τ => exact q
      | bk τ => exact False.elim q
      | rt t => exact False.elim q
  · obtain ⟨pack, number, late, row, at_, nx, j, x3, x8, x9, x10, x11, x12, x13, x14, x15, x16, x17, x18, x19, hp, eτ, eM, hx, hr, hn0, hnl, hat, hj⟩ := s.ex
    subst eτ eM
    have hpl : pack.length = many := by rw [hp.length_eq, rgI_length]
    have ok1 : HsOk [(number, fd pack)] := ⟨by simp, by simp, fun x hx => by rw [List.mem_singleton] at hx; subst hx; show (fd pack).length ≤ 4000; rw [fd_len]; omega⟩
    have hmh := meth_heaps (fo := eVar 4) (τ := [none, some (.ref 0), some (.int many), x3, some (.ref 1), some (li pack), some (.int number), some (.int late), x8, x9, x10, x11, x12, x13, x14, x15, x16, x17, x18, x19]) (M := Mh j row at_ nx) (by simp) Mh_get1 hr ok1
    have hc : compL (gN 17) cYes (eTup (eCons (eVar 17) (eCons (eC (.int 0)) eNil))) [none, some (.ref 0), some (.int many), x3, some (.ref 1), some (li pack), some (.int number), some (.int late), x8, x9, x10, x11, x12, x13, x14, x15, x16, none, x18, x19] (pack.map T.int) (Mh j row at_ nx) = .ok ((fd pack).map crd) (Mh j row at_ nx) := by
      rw [comp_ints (h := fun c => crd (c, 0)) fun c _ => by simp [crd]]
      unfold fd
      rw [List.map_map]; rfl
    have hdisp : eDisp [((eVar 6), (eComp (iLst (eVar 5)) (gN 17) cYes (eTup (eCons (eVar 17) (eCons (eC (.int 0)) eNil))) [17]))] [none, some (.ref 0), some (.int many), x3, some (.ref 1), some (li pack), some (.int number), some (.int late), x8, x9, x10, x11, x12, x13, x14, x15, x16, x17, x18, x19] (Mh j row at_ nx) = .ok (hsT [(number, fd pack)]) (Mh j row at_ nx) := by
      simp only [eDisp, dispL, eVar_run, eComp_run, iLst_run, List.getElem?_cons_zero, List.getElem?_cons_succ, bind_ok, List.length_map, if_pos (show pack.length ≤ 16777216 by omega), wipeT, List.set_cons_zero, List.set_cons_succ, hc, toK]
      rfl
    have same : r__law_same 7 [hsT [(number, fd pack)], hsT [(number, fd pack)]] (Mh j row at_ nx) = .ok (.bl true) (Mh j row at_ nx) := same_refl (dat_hs (k := 3) ok1)
    show Wp _ _
    simp only [sIf_run, eNot_run, eB_run, eCall_run, eCons_run, hmh, bind_ok, hdisp, eNil_run, List.length_cons, List.length_nil, Nat.reduceAdd, List.append_nil, if_true, same, Bool.not_true, Bool.false_eq_true, if_false, sNil_run, wp_ok]
    exact ⟨_, rfl⟩
  · refine ⟨rgI many, 0, 1, row, 0, 2, 100, none, none, none, none, none, none, none, none, none, none, none, none, none, .refl _, rfl, rfl, by omega, hr, by omega, by omega, ?_, ?_⟩
    · rw [rgT_length]; decide
    · rw [rgT_length]; decide
def M0 : Sto := ⟨[], 0⟩
theorem purses_sem {o : Osc} {t0 : T} {ns : List Int} (h : ofScr o t0 = some (ns.map T.int)) : r__law_purses o [t0, .int 1] M0 = .ok (.lst [.ref 0]) (Mc 0) := by
  have hl : ofScr o t0 = some (ns.map T.int) := h
  have e1' : kLenS o [t0] M0 = .ok (.int ns.length) M0 := by
    show (match ofScr o t0 with | some xs => Res.ok (T.int xs.length) M0 | none => .stuck) = _
    rw [h]
    show Res.ok (T.int ((ns.map T.int).length : Nat)) M0 = _
    rw [List.length_map]
  have e2' : ∃ z : Int, z ≤ 1 ∧ kMin [.int 1, .int ns.length] M0 = .ok (.int z) M0 := by
    refine ⟨if (ns.length : Int) < 1 then ns.length else 1, ?_, rfl⟩
    split <;> omega
  obtain ⟨z, hz, e2'⟩ := e2'
  have e3' : kMax [.int 1, .int z] M0 = .ok (.int 1) M0 := by
    show Res.ok (T.int (if z > 1 then z else 1)) M0 = _
    rw [if_neg (by omega)]
  obtain ⟨p0, p1, a0, a1, b0, b1, hp⟩ := purse_sem (at_ := 0) (M := M0) h
  have ei : (iRg1 (eA kMax (eCons (eC (.int 1)) (eCons (eA kMin (eCons (eVar 1) (eCons (eA (kLenS o) (eCons (eVar 0) eNil)) eNil))) eNil)))) [some t0, some (.int 1), none] M0 = .ok [.int 0] M0 := by
    simp only [iRg1, eA, eCons, eNil, eVar, eC, Res.bind, List.getElem?_cons_zero, List.getElem?_cons_succ, e1', e2', e3']
    rfl
  have et : (eTag (eNew (eCall 2 [] (r__law_purse o) (eCons (eVar 0) (eCons (eVar 2) eNil))))) [some t0, some (.int 1), some (.int 0)] M0 = .ok (.ref 0) (Mc 0) := by
    simp only [eTag, eNew, eCall, eCons, eNil, eVar, Res.bind, List.getElem?_cons_zero, List.getElem?_cons_succ, List.length_cons, List.length_nil, List.append_nil, if_true, hp]
    show (if (0 ≤ p0 ∧ p0 < 10 ^ 480 ∧ 0 ≤ p1 ∧ p1 < 2147483629 ∧ (0 : Int) = 0 ∧ (0 : Int) ≤ 0 ∧ (0 : Int) ≤ 63) then Res.ok (T.ref 0) ((M0.add (.lst (pT p0 p1 0 0))).set 0 (.purse 0)) else .stuck) = _
    rw [if_pos ⟨a0, a1, b0, b1, rfl, by decide, by decide⟩]
    rfl
  simp only [r__law_purses, fnRun, b__law_purses, sRet, eComp, List.map_cons, List.map_nil, List.length_cons, List.length_nil, List.replicate, List.cons_append, List.nil_append] at ei et ⊢
  rw [ei]
  simp only [Res.bind, List.length_cons, List.length_nil, compL, wipeT, gN, cYes, List.set_cons_zero, List.set_cons_succ, if_true, et]
  rfl
structure AllTr (x : Res T) : Prop where
  ok : x.all fun t _ => t = .bl true
theorem allTr_of {x : Res T} (h : Wp x fun t _ => t = .bl true) : AllTr x := ⟨h.ok⟩
def isRt : Fl → Sto → Prop := fun fl _ => fl = .rt (.bl true)
theorem law_gen {P1 : Nat → Ev Fl} {fi : Ev (List T)} {t0 : T} (hfi : fi (some t0 :: List.replicate 19 none) M0 = .ok [.ref 0] (Mc 0)) (hp : ∀ r : Nat, r < 11 → Wp (P1 1 (tauC (2 + r)) (Mc 100)) isNx) :
    Wp (sSeq (sForB fi (gN 1) fun n => sSeq (sAsg (e2 kAddI (eC (.int 2)) (eCall 2 [] rDraw (eCons (eVar 1) (eCons (eC (.int 11)) eNil)))) (gN 2)) (sCan n [1, 2] 100 (P1 n))) (sRet (eC (.bl true))) (some t0 :: List.replicate 19 none) M0) isRt := by
  refine seq_all' ?_
  show Wp (Res.bind _ _) _
  rw [hfi]
  simp only [bind_ok]
  refine forL_all (P := fun rest τ M => (rest = [.ref 0] ∧ τ = some t0 :: List.replicate 19 none ∧ M = Mc 0) ∨ rest = []) ?_ ?_ (.inl ⟨rfl, rfl, rfl⟩)
  · intro t ts τ M h
    rcases h with ⟨e, e2, e3⟩ | e
    · injection e with e e'
      subst e e' e2 e3
      simp only [List.replicate, gN_run, bind_ok, List.set_cons_succ, List.set_cons_zero]
      refine seq_all' ?_
      have e0 : rDraw [.ref 0, .int 11] (Mc 0) = .pick 11 fun d => .ok (.int (d : Nat)) (PB (Mc 0) 0 1 [] 1) := rfl
      simp only [sAsg_run, e2_run, eC_run, eCall_run, eCons_run, eVar_run, eNil_run, List.getElem?_cons_succ, List.getElem?_cons_zero, bind_ok, List.length_cons, List.length_nil, List.append_nil, if_true, e0, bind_pick, kAddI_int, gN_run, List.set_cons_succ, List.set_cons_zero, wp_pick, wp_ok, flS_nx]
      intro r hr
      show Wp (sCan 1 [1, 2] 100 (P1 1) _ _) _
      rw [can_run (by decide) beh_nil]
      have : canT 1 [1, 2] 0 [some t0, some (.ref 0), some (.int (2 + (r : Nat))), none, none, none, none, none, none, none, none, none, none, none, none, none, none, none, none, none] = tauC (2 + r) := by
        simp [canT, memN, flatR, tauC, Nat.beq, List.replicate]
      rw [this]
      exact (hp r hr).mono fun fl M q => by
        obtain ⟨τ, e⟩ := q
        subst e
        exact Or.inr (by first | rfl | trivial)
    · cases e
  · intro τ M h
    show Wp _ _
    simp only [sRet_run, eC_run, bind_ok, wp_ok]
    rfl
theorem it_sem {o : Osc} {t0 : T} {ns : List Int} {τ : Tau} (h : ofScr o t0 = some (ns.map T.int)) : iLst (eCall 2 [] (r__law_purses o) (eCons (eVar 0) (eCons (eC (.int 1)) eNil))) (some t0 :: τ) M0 = .ok [.ref 0] (Mc 0) := by
  simp only [iLst, eCall, eCons, eNil, eVar, eC, Res.bind, List.getElem?_cons_zero, List.length_cons, List.length_nil, List.append_nil, if_true, purses_sem h]
theorem parts : ∀ r : Nat, r < 11 → Wp (p_law_1 1 (tauC (2 + r)) (Mc 100)) isNx := fun r hr => part85 (by omega) (by omega)
theorem law_k {o : Osc} {t0 : T} {ns : List Int} (h : ofScr o t0 = some (ns.map T.int)) : Wp (sSeq (sForB (iLst (eCall 2 [] (r__law_purses o) (eCons (eVar 0) (eCons (eC (.int 1)) eNil)))) (gN 1) fun n => sSeq (sAsg (e2 kAddI (eC (.int 2)) (eCall 2 [] rDraw (eCons (eVar 1) (eCons (eC (.int 11)) eNil)))) (gN 2)) (sCan n [1, 2] 100 (p_law_1 n))) (sRet (eC (.bl true))) (some t0 :: List.replicate 19 none) M0) isRt := by
  apply law_gen
  · exact it_sem h
  · exact parts
theorem law_true {o : Osc} {t0 : T} {ns : List Int} (h : ofScr o t0 = some (ns.map T.int)) : AllTr (r_law o [t0] M0) := by
  have : Wp (r_law o [t0] M0) fun t _ => t = .bl true := by
    unfold r_law
    refine fn_all ?_
    have e : (List.map some [t0] ++ List.replicate (20 - [t0].length) none : Tau) = some t0 :: List.replicate 19 none := rfl
    rw [e]
    unfold b_law
    simp only [r__law_draw]
    exact (law_k h).mono fun fl M q => by
      have q : fl = .rt (.bl true) := q
      subst q
      rfl
  exact allTr_of this
def spLaw (K : PySem.W.Frag) : Sp := fun vs H Q _ => ∃ (a : Addr) (ns : List Int), vs = [.ref a] ∧ SqL K H a (ns.map V.int) ∧ ns.length ≤ 63 ∧ ∀ H', Q (.bl true) H'
def w0 (H : Hp) : Wd := ⟨H, fun _ => 0, M0, fun _ => False⟩
theorem w0_good (mg : Str → Option Value) (H : Hp) : Good mg (w0 H) where
  own := fun n o e => by cases (show (none : Option MO) = some o from e)
  inj := fun n m o u e _ _ => by cases (show (none : Option MO) = some o from e)
  Rd := fun a e => False.elim e
theorem w0_ex (H : Hp) (a : Addr) : ¬ Ex (w0 H) a := fun z => by
  rcases z with z | ⟨n, o, e, _⟩
  · exact z
  · cases (show (none : Option MO) = some o from e)
theorem post_true {mg : Str → Option Value} {w : Wd} {Q : VK} {a : Res T} (h : AllTr a) (hq : ∀ H', Q (.bl true) H') : post mg false Q w a :=
  Res.all_mono (fun t M' e w1 v _ _ _ r1 _ => by subst e; cases r1; exact hq _) h.ok
theorem run_true {mg : Str → Option Value} {H : Hp} {a : Addr} {Q : VK} {E : XK} {t0 : T} {g : List T → Sto → Res T} (r : Rep (w0 H) (.ref a) t0) (h : AllTr (g [t0] M0)) (hq : ∀ H', Q (.bl true) H') : spRun mg false 1 g [.ref a] H Q E :=
  ⟨rfl, w0 H, [t0], rfl, w0_good mg H, .cons r .nil, post_true h hq⟩
theorem spLaw_run {K : PySem.W.Frag} {mg : Str → Option Value} {vs : List V} {H : Hp} {Q : VK} {E : XK} (h : spLaw K vs H Q E) : ∃ o, ScrOk K o ∧ spRun mg false 1 (r_law o) vs H Q E := by
  obtain ⟨a, ns, rfl, hS, hl, hq⟩ := h
  have fin : ∀ {o : Osc} {t0 : T}, ofScr o t0 = some (ns.map T.int) → Rep (w0 H) (.ref a) t0 → spRun mg false 1 (r_law o) [.ref a] H Q E := fun {o t0} ho r =>
    run_true r (law_true ho) hq
  rcases hS with hS | hS
  · exact ⟨none, fun _ _ e => (nomatch e), fin (t0 := .lst (ns.map T.int)) rfl (.lst (w0_ex H a) hS (.ints ns))⟩
  · refine ⟨some (a, ns), fun a' ns' e H' => ?_, fin (t0 := .scr a) (if_pos rfl) (.scr a)⟩
    cases e
    exact .inr hS
theorem law_any {P : Program} {w : World} {K : PySem.W.Frag} {mg : Str → Option Value} {base : Heap} {f : Addr} {fd : FuncData} {ps : List Str} {k : Nat} (h : ∀ o, ScrOk K o → FnOk P w K mg base CX0 k f fd ps (spRun mg false 1 (r_law o))) : FnOk P w K mg base CX0 k f fd ps (spLaw K) :=
  ⟨fun vs H Q E q => let ⟨o, ho, q'⟩ := spLaw_run (mg := mg) q; (h o ho).len vs H Q E q', fun A outer s H args us vs Q E hr he hb hv hs => let ⟨o, ho, q'⟩ := spLaw_run (mg := mg) hs; (h o ho).run A outer s H args us vs Q E hr he hb hv q'⟩
end TL
end
section
set_option Elab.async false
set_option linter.all false
set_option maxRecDepth 100000
set_option maxHeartbeats 0
namespace TL
open PySem PySem.Spec PyProof.Rows L2

theorem all_mk {l : PySem.W.OpenLaw} {w : World} {K : PySem.W.Frag} {h : Heap} {mg : Str → Option Value} {fa : Addr} (X : K.In h) (G : h.Ns mainGlobals mg) (hfa : mg "law" = some (.ref fa))
    {f1 : Addr} {od1 an1 : Option Addr} {sl1 : Array (Option Value)} {oc1 kV1 dc1 pm1 cd1 ct1 : Value}
    {f2 : Addr} {od2 an2 : Option Addr} {sl2 : Array (Option Value)} {oc2 kV2 dc2 pm2 cd2 ct2 : Value}
    {T2 : Addr} {Tod2 : Option Addr} {Tsl2 : Array (Option Value)} {Toc2 : Value} {Tn2 : Nat} {Tk2 : Tok}
    {f3 : Addr} {od3 an3 : Option Addr} {sl3 : Array (Option Value)} {oc3 kV3 dc3 pm3 cd3 ct3 : Value}
    {f4 : Addr} {od4 an4 : Option Addr} {sl4 : Array (Option Value)} {oc4 kV4 dc4 pm4 cd4 ct4 : Value}
    {f5 : Addr} {od5 an5 : Option Addr} {sl5 : Array (Option Value)} {oc5 kV5 dc5 pm5 cd5 ct5 : Value}
    {f6 : Addr} {od6 an6 : Option Addr} {sl6 : Array (Option Value)} {oc6 kV6 dc6 pm6 cd6 ct6 : Value}
    {f7 : Addr} {od7 an7 : Option Addr} {sl7 : Array (Option Value)} {oc7 kV7 dc7 pm7 cd7 ct7 : Value}
    {f8 : Addr} {od8 an8 : Option Addr} {sl8 : Array (Option Value)} {oc8 kV8 dc8 pm8 cd8 ct8 : Value}
    {f9 : Addr} {od9 an9 : Option Addr} {sl9 : Array (Option Value)} {oc9 kV9 dc9 pm9 cd9 ct9 : Value}
    {f10 : Addr} {od10 an10 : Option Addr} {sl10 : Array (Option Value)} {oc10 kV10 dc10 pm10 cd10 ct10 : Value}
    {f11 : Addr} {od11 an11 : Option Addr} {sl11 : Array (Option Value)} {oc11 kV11 dc11 pm11 cd11 ct11 : Value}
    {f12 : Addr} {od12 an12 : Option Addr} {sl12 : Array (Option Value)} {oc12 kV12 dc12 pm12 cd12 ct12 : Value}
    {f13 : Addr} {od13 an13 : Option Addr} {sl13 : Array (Option Value)} {oc13 kV13 dc13 pm13 cd13 ct13 : Value}
    {f14 : Addr} {od14 an14 : Option Addr} {sl14 : Array (Option Value)} {oc14 kV14 dc14 pm14 cd14 ct14 : Value}
    {f15 : Addr} {od15 an15 : Option Addr} {sl15 : Array (Option Value)} {oc15 kV15 dc15 pm15 cd15 ct15 : Value}
    {f16 : Addr} {od16 an16 : Option Addr} {sl16 : Array (Option Value)} {oc16 kV16 dc16 pm16 cd16 ct16 : Value}
    {f17 : Addr} {od17 an17 : Option Addr} {sl17 : Array (Option Value)} {oc17 kV17 dc17 pm17 cd17 ct17 : Value}
    {f18 : Addr} {od18 an18 : Option Addr} {sl18 : Array (Option Value)} {oc18 kV18 dc18 pm18 cd18 ct18 : Value}
    {f19 : Addr} {od19 an19 : Option Addr} {sl19 : Array (Option Value)} {oc19 kV19 dc19 pm19 cd19 ct19 : Value}
    {f20 : Addr} {od20 an20 : Option Addr} {sl20 : Array (Option Value)} {oc20 kV20 dc20 pm20 cd20 ct20 : Value}
    {f21 : Addr} {od21 an21 : Option Addr} {sl21 : Array (Option Value)} {oc21 kV21 dc21 pm21 cd21 ct21 : Value}
    {f22 : Addr} {od22 an22 : Option Addr} {sl22 : Array (Option Value)} {oc22 kV22 dc22 pm22 cd22 ct22 : Value}
    {f23 : Addr} {od23 an23 : Option Addr} {sl23 : Array (Option Value)} {oc23 kV23 dc23 pm23 cd23 ct23 : Value}
    {f24 : Addr} {od24 an24 : Option Addr} {sl24 : Array (Option Value)} {oc24 kV24 dc24 pm24 cd24 ct24 : Value}
    {f25 : Addr} {od25 an25 : Option Addr} {sl25 : Array (Option Value)} {oc25 kV25 dc25 pm25 cd25 ct25 : Value}
    {f26 : Addr} {od26 an26 : Option Addr} {sl26 : Array (Option Value)} {oc26 kV26 dc26 pm26 cd26 ct26 : Value}
    {f27 : Addr} {od27 an27 : Option Addr} {sl27 : Array (Option Value)} {oc27 kV27 dc27 pm27 cd27 ct27 : Value}
    {f28 : Addr} {od28 an28 : Option Addr} {sl28 : Array (Option Value)} {oc28 kV28 dc28 pm28 cd28 ct28 : Value}
    {f29 : Addr} {od29 an29 : Option Addr} {sl29 : Array (Option Value)} {oc29 kV29 dc29 pm29 cd29 ct29 : Value}
    {f30 : Addr} {od30 an30 : Option Addr} {sl30 : Array (Option Value)} {oc30 kV30 dc30 pm30 cd30 ct30 : Value}
    {f31 : Addr} {od31 an31 : Option Addr} {sl31 : Array (Option Value)} {oc31 kV31 dc31 pm31 cd31 ct31 : Value}
    {f32 : Addr} {od32 an32 : Option Addr} {sl32 : Array (Option Value)} {oc32 kV32 dc32 pm32 cd32 ct32 : Value}
    {f33 : Addr} {od33 an33 : Option Addr} {sl33 : Array (Option Value)} {oc33 kV33 dc33 pm33 cd33 ct33 : Value}
    {f34 : Addr} {od34 an34 : Option Addr} {sl34 : Array (Option Value)} {oc34 kV34 dc34 pm34 cd34 ct34 : Value}
    {f35 : Addr} {od35 an35 : Option Addr} {sl35 : Array (Option Value)} {oc35 kV35 dc35 pm35 cd35 ct35 : Value}
    {f36 : Addr} {od36 an36 : Option Addr} {sl36 : Array (Option Value)} {oc36 kV36 dc36 pm36 cd36 ct36 : Value}
    {f37 : Addr} {od37 an37 : Option Addr} {sl37 : Array (Option Value)} {oc37 kV37 dc37 pm37 cd37 ct37 : Value}
    {f38 : Addr} {od38 an38 : Option Addr} {sl38 : Array (Option Value)} {oc38 kV38 dc38 pm38 cd38 ct38 : Value}
    {f39 : Addr} {od39 an39 : Option Addr} {sl39 : Array (Option Value)} {oc39 kV39 dc39 pm39 cd39 ct39 : Value}
    {f40 : Addr} {od40 an40 : Option Addr} {sl40 : Array (Option Value)} {oc40 kV40 dc40 pm40 cd40 ct40 : Value}
    {f41 : Addr} {od41 an41 : Option Addr} {sl41 : Array (Option Value)} {oc41 kV41 dc41 pm41 cd41 ct41 : Value}
    {f42 : Addr} {od42 an42 : Option Addr} {sl42 : Array (Option Value)} {oc42 kV42 dc42 pm42 cd42 ct42 : Value} {C_House : Addr}
    (l1 : K.lookup f1 = some ⟨oc1, od1, .func (PySem.W.fnOf "is_whole" "is_whole" (defArgs s_is_whole) (defBody s_is_whole) (defScope s_is_whole) .none kV1 dc1 pm1 an1 cd1 ct1), sl1⟩)
    (c1 : PySem.W.codeIn K cd1 "is_whole" = true)
    (k1 : PySem.W.keepIn K (.ref f1) = true)
    (t2 : K.lookup T2 = some ⟨Toc2, Tod2, .seq #[.int 0 Tk2] Tn2, Tsl2⟩)
    (l2 : K.lookup f2 = some ⟨oc2, od2, .func (PySem.W.fnOf "is_count" "is_count" (defArgs s_is_count) (defBody s_is_count) (defScope s_is_count) (.ref T2) kV2 dc2 pm2 an2 cd2 ct2), sl2⟩)
    (c2 : PySem.W.codeIn K cd2 "is_count" = true)
    (k2 : PySem.W.keepIn K (.ref f2) = true)
    (l3 : K.lookup f3 = some ⟨oc3, od3, .func (PySem.W.fnOf "is_tuple_of" "is_tuple_of" (defArgs s_is_tuple_of) (defBody s_is_tuple_of) (defScope s_is_tuple_of) .none kV3 dc3 pm3 an3 cd3 ct3), sl3⟩)
    (c3 : PySem.W.codeIn K cd3 "is_tuple_of" = true)
    (k3 : PySem.W.keepIn K (.ref f3) = true)
    (l4 : K.lookup f4 = some ⟨oc4, od4, .func (PySem.W.fnOf "is_said" "is_said" (defArgs s_is_said) (defBody s_is_said) (defScope s_is_said) .none kV4 dc4 pm4 an4 cd4 ct4), sl4⟩)
    (c4 : PySem.W.codeIn K cd4 "is_said" = true)
    (k4 : PySem.W.keepIn K (.ref f4) = true)
    (l5 : K.lookup f5 = some ⟨oc5, od5, .func (PySem.W.fnOf "copied" "copied" (defArgs s_copied) (defBody s_copied) (defScope s_copied) .none kV5 dc5 pm5 an5 cd5 ct5), sl5⟩)
    (c5 : PySem.W.codeIn K cd5 "copied" = true)
    (k5 : PySem.W.keepIn K (.ref f5) = true)
    (l6 : K.lookup f6 = some ⟨oc6, od6, .func (PySem.W.fnOf "is_pack" "is_pack" (defArgs s_is_pack) (defBody s_is_pack) (defScope s_is_pack) .none kV6 dc6 pm6 an6 cd6 ct6), sl6⟩)
    (c6 : PySem.W.codeIn K cd6 "is_pack" = true)
    (k6 : PySem.W.keepIn K (.ref f6) = true)
    (l7 : K.lookup f7 = some ⟨oc7, od7, .func (PySem.W.fnOf "check_pack" "check_pack" (defArgs s_check_pack) (defBody s_check_pack) (defScope s_check_pack) .none kV7 dc7 pm7 an7 cd7 ct7), sl7⟩)
    (c7 : PySem.W.codeIn K cd7 "check_pack" = true)
    (k7 : PySem.W.keepIn K (.ref f7) = true)
    (l8 : K.lookup f8 = some ⟨oc8, od8, .func (PySem.W.fnOf "is_move_there" "is_move_there" (defArgs s_is_move_there) (defBody s_is_move_there) (defScope s_is_move_there) .none kV8 dc8 pm8 an8 cd8 ct8), sl8⟩)
    (c8 : PySem.W.codeIn K cd8 "is_move_there" = true)
    (k8 : PySem.W.keepIn K (.ref f8) = true)
    (l9 : K.lookup f9 = some ⟨oc9, od9, .func (PySem.W.fnOf "check_many" "check_many" (defArgs s_check_many) (defBody s_check_many) (defScope s_check_many) .none kV9 dc9 pm9 an9 cd9 ct9), sl9⟩)
    (c9 : PySem.W.codeIn K cd9 "check_many" = true)
    (k9 : PySem.W.keepIn K (.ref f9) = true)
    (l10 : K.lookup f10 = some ⟨oc10, od10, .func (PySem.W.fnOf "whole_pack" "whole_pack" (defArgs s_whole_pack) (defBody s_whole_pack) (defScope s_whole_pack) .none kV10 dc10 pm10 an10 cd10 ct10), sl10⟩)
    (c10 : PySem.W.codeIn K cd10 "whole_pack" = true)
    (k10 : PySem.W.keepIn K (.ref f10) = true)
    (l11 : K.lookup f11 = some ⟨oc11, od11, .func (PySem.W.fnOf "moved_there" "moved_there" (defArgs s_moved_there) (defBody s_moved_there) (defScope s_moved_there) .none kV11 dc11 pm11 an11 cd11 ct11), sl11⟩)
    (c11 : PySem.W.codeIn K cd11 "moved_there" = true)
    (k11 : PySem.W.keepIn K (.ref f11) = true)
    (l12 : K.lookup f12 = some ⟨oc12, od12, .func (PySem.W.fnOf "moved" "moved" (defArgs s_moved) (defBody s_moved) (defScope s_moved) .none kV12 dc12 pm12 an12 cd12 ct12), sl12⟩)
    (c12 : PySem.W.codeIn K cd12 "moved" = true)
    (k12 : PySem.W.keepIn K (.ref f12) = true)
    (l13 : K.lookup f13 = some ⟨oc13, od13, .func (PySem.W.fnOf "is_act" "is_act" (defArgs s_is_act) (defBody s_is_act) (defScope s_is_act) .none kV13 dc13 pm13 an13 cd13 ct13), sl13⟩)
    (c13 : PySem.W.codeIn K cd13 "is_act" = true)
    (k13 : PySem.W.keepIn K (.ref f13) = true)
    (l14 : K.lookup f14 = some ⟨oc14, od14, .func (PySem.W.fnOf "fits" "fits" (defArgs s_fits) (defBody s_fits) (defScope s_fits) .none kV14 dc14 pm14 an14 cd14 ct14), sl14⟩)
    (c14 : PySem.W.codeIn K cd14 "fits" = true)
    (k14 : PySem.W.keepIn K (.ref f14) = true)
    (l15 : K.lookup f15 = some ⟨oc15, od15, .func (PySem.W.fnOf "without" "without" (defArgs s_without) (defBody s_without) (defScope s_without) .none kV15 dc15 pm15 an15 cd15 ct15), sl15⟩)
    (c15 : PySem.W.codeIn K cd15 "without" = true)
    (k15 : PySem.W.keepIn K (.ref f15) = true)
    (l16 : K.lookup f16 = some ⟨oc16, od16, .func (PySem.W.fnOf "dealt" "dealt" (defArgs s_house_dealt) (defBody s_house_dealt) (defScope s_house_dealt) .none kV16 dc16 pm16 an16 cd16 ct16), sl16⟩)
    (c16 : PySem.W.codeIn K cd16 "dealt" = true)
    (k16 : PySem.W.keepIn K (.ref f16) = true)
    (l17 : K.lookup f17 = some ⟨oc17, od17, .func (PySem.W.fnOf "over_there" "over_there" (defArgs s_over_there) (defBody s_over_there) (defScope s_over_there) .none kV17 dc17 pm17 an17 cd17 ct17), sl17⟩)
    (c17 : PySem.W.codeIn K cd17 "over_there" = true)
    (k17 : PySem.W.keepIn K (.ref f17) = true)
    (l18 : K.lookup f18 = some ⟨oc18, od18, .func (PySem.W.fnOf "changed" "changed" (defArgs s_changed) (defBody s_changed) (defScope s_changed) .none kV18 dc18 pm18 an18 cd18 ct18), sl18⟩)
    (c18 : PySem.W.codeIn K cd18 "changed" = true)
    (k18 : PySem.W.keepIn K (.ref f18) = true)
    (l19 : K.lookup f19 = some ⟨oc19, od19, .func (PySem.W.fnOf "moved" "moved" (defArgs s_house_moved) (defBody s_house_moved) (defScope s_house_moved) .none kV19 dc19 pm19 an19 cd19 ct19), sl19⟩)
    (c19 : PySem.W.codeIn K cd19 "moved" = true)
    (k19 : PySem.W.keepIn K (.ref f19) = true)
    (l20 : K.lookup f20 = some ⟨oc20, od20, .func (PySem.W.fnOf "acted" "acted" (defArgs s_acted) (defBody s_acted) (defScope s_acted) .none kV20 dc20 pm20 an20 cd20 ct20), sl20⟩)
    (c20 : PySem.W.codeIn K cd20 "acted" = true)
    (k20 : PySem.W.keepIn K (.ref f20) = true)
    (l21 : K.lookup f21 = some ⟨oc21, od21, .func (PySem.W.fnOf "__init__" "House.__init__" (defArgs s_House___init__) (defBody s_House___init__) (defScope s_House___init__) .none kV21 dc21 pm21 an21 cd21 ct21), sl21⟩)
    (c21 : PySem.W.codeIn K cd21 "House.__init__" = true)
    (k21 : PySem.W.keepIn K (.ref f21) = true)
    (a21 : PySem.W.findIn K (.ref C_House) "__init__" = some (some (.ref f21)))
    (i21 : PySem.W.isFn K (.ref f21) = true)
    (l22 : K.lookup f22 = some ⟨oc22, od22, .func (PySem.W.fnOf "state" "House.state" (defArgs s_House_state) (defBody s_House_state) (defScope s_House_state) .none kV22 dc22 pm22 an22 cd22 ct22), sl22⟩)
    (c22 : PySem.W.codeIn K cd22 "House.state" = true)
    (k22 : PySem.W.keepIn K (.ref f22) = true)
    (a22 : PySem.W.findIn K (.ref C_House) "state" = some (some (.ref f22)))
    (i22 : PySem.W.isFn K (.ref f22) = true)
    (l23 : K.lookup f23 = some ⟨oc23, od23, .func (PySem.W.fnOf "do" "House.do" (defArgs s_House_do) (defBody s_House_do) (defScope s_House_do) .none kV23 dc23 pm23 an23 cd23 ct23), sl23⟩)
    (c23 : PySem.W.codeIn K cd23 "House.do" = true)
    (k23 : PySem.W.keepIn K (.ref f23) = true)
    (a23 : PySem.W.findIn K (.ref C_House) "do" = some (some (.ref f23)))
    (i23 : PySem.W.isFn K (.ref f23) = true)
    (l24 : K.lookup f24 = some ⟨oc24, od24, .func (PySem.W.fnOf "heaps" "House.heaps" (defArgs s_House_heaps) (defBody s_House_heaps) (defScope s_House_heaps) .none kV24 dc24 pm24 an24 cd24 ct24), sl24⟩)
    (c24 : PySem.W.codeIn K cd24 "House.heaps" = true)
    (k24 : PySem.W.keepIn K (.ref f24) = true)
    (a24 : PySem.W.findIn K (.ref C_House) "heaps" = some (some (.ref f24)))
    (i24 : PySem.W.isFn K (.ref f24) = true)
    (l25 : K.lookup f25 = some ⟨oc25, od25, .func (PySem.W.fnOf "check_house" "check_house" (defArgs s_check_house) (defBody s_check_house) (defScope s_check_house) .none kV25 dc25 pm25 an25 cd25 ct25), sl25⟩)
    (c25 : PySem.W.codeIn K cd25 "check_house" = true)
    (k25 : PySem.W.keepIn K (.ref f25) = true)
    (l26 : K.lookup f26 = some ⟨oc26, od26, .func (PySem.W.fnOf "cut_there" "cut_there" (defArgs s_cut_there) (defBody s_cut_there) (defScope s_cut_there) .none kV26 dc26 pm26 an26 cd26 ct26), sl26⟩)
    (c26 : PySem.W.codeIn K cd26 "cut_there" = true)
    (k26 : PySem.W.keepIn K (.ref f26) = true)
    (l27 : K.lookup f27 = some ⟨oc27, od27, .func (PySem.W.fnOf "cut_by" "cut_by" (defArgs s_cut_by) (defBody s_cut_by) (defScope s_cut_by) .none kV27 dc27 pm27 an27 cd27 ct27), sl27⟩)
    (c27 : PySem.W.codeIn K cd27 "cut_by" = true)
    (k27 : PySem.W.keepIn K (.ref f27) = true)
    (l28 : K.lookup f28 = some ⟨oc28, od28, .func (PySem.W.fnOf "check_many" "check_many" (defArgs s_deals_check_many) (defBody s_deals_check_many) (defScope s_deals_check_many) .none kV28 dc28 pm28 an28 cd28 ct28), sl28⟩)
    (c28 : PySem.W.codeIn K cd28 "check_many" = true)
    (k28 : PySem.W.keepIn K (.ref f28) = true)
    (l29 : K.lookup f29 = some ⟨oc29, od29, .func (PySem.W.fnOf "check_heaps" "check_heaps" (defArgs s_check_heaps) (defBody s_check_heaps) (defScope s_check_heaps) .none kV29 dc29 pm29 an29 cd29 ct29), sl29⟩)
    (c29 : PySem.W.codeIn K cd29 "check_heaps" = true)
    (k29 : PySem.W.keepIn K (.ref f29) = true)
    (l30 : K.lookup f30 = some ⟨oc30, od30, .func (PySem.W.fnOf "heaps_there" "heaps_there" (defArgs s_heaps_there) (defBody s_heaps_there) (defScope s_heaps_there) .none kV30 dc30 pm30 an30 cd30 ct30), sl30⟩)
    (c30 : PySem.W.codeIn K cd30 "heaps_there" = true)
    (k30 : PySem.W.keepIn K (.ref f30) = true)
    (l31 : K.lookup f31 = some ⟨oc31, od31, .func (PySem.W.fnOf "dealt" "dealt" (defArgs s_deals_dealt) (defBody s_deals_dealt) (defScope s_deals_dealt) .none kV31 dc31 pm31 an31 cd31 ct31), sl31⟩)
    (c31 : PySem.W.codeIn K cd31 "dealt" = true)
    (k31 : PySem.W.keepIn K (.ref f31) = true)
    (l32 : K.lookup f32 = some ⟨oc32, od32, .func (PySem.W.fnOf "is_order" "is_order" (defArgs s_is_order) (defBody s_is_order) (defScope s_is_order) .none kV32 dc32 pm32 an32 cd32 ct32), sl32⟩)
    (c32 : PySem.W.codeIn K cd32 "is_order" = true)
    (k32 : PySem.W.keepIn K (.ref f32) = true)
    (l33 : K.lookup f33 = some ⟨oc33, od33, .func (PySem.W.fnOf "heap_move" "heap_move" (defArgs s_heap_move) (defBody s_heap_move) (defScope s_heap_move) .none kV33 dc33 pm33 an33 cd33 ct33), sl33⟩)
    (c33 : PySem.W.codeIn K cd33 "heap_move" = true)
    (k33 : PySem.W.keepIn K (.ref f33) = true)
    (l34 : K.lookup f34 = some ⟨oc34, od34, .func (PySem.W.fnOf "read_off" "read_off" (defArgs s_read_off) (defBody s_read_off) (defScope s_read_off) .none kV34 dc34 pm34 an34 cd34 ct34), sl34⟩)
    (c34 : PySem.W.codeIn K cd34 "read_off" = true)
    (k34 : PySem.W.keepIn K (.ref f34) = true)
    (l35 : K.lookup f35 = some ⟨oc35, od35, .func (PySem.W.fnOf "_law_purse" "_law_purse" (defArgs s__law_purse) (defBody s__law_purse) (defScope s__law_purse) .none kV35 dc35 pm35 an35 cd35 ct35), sl35⟩)
    (c35 : PySem.W.codeIn K cd35 "_law_purse" = true)
    (k35 : PySem.W.keepIn K (.ref f35) = true)
    (l36 : K.lookup f36 = some ⟨oc36, od36, .func (PySem.W.fnOf "_law_mixed" "_law_mixed" (defArgs s__law_mixed) (defBody s__law_mixed) (defScope s__law_mixed) .none kV36 dc36 pm36 an36 cd36 ct36), sl36⟩)
    (c36 : PySem.W.codeIn K cd36 "_law_mixed" = true)
    (k36 : PySem.W.keepIn K (.ref f36) = true)
    (l37 : K.lookup f37 = some ⟨oc37, od37, .func (PySem.W.fnOf "_law_draw" "_law_draw" (defArgs s__law_draw0) (defBody s__law_draw0) (defScope s__law_draw0) .none kV37 dc37 pm37 an37 cd37 ct37), sl37⟩)
    (c37 : PySem.W.codeIn K cd37 "_law_draw" = true)
    (k37 : PySem.W.keepIn K (.ref f37) = true)
    (l38 : K.lookup f38 = some ⟨oc38, od38, .func (PySem.W.fnOf "_law_shuffled" "_law_shuffled" (defArgs s__law_shuffled) (defBody s__law_shuffled) (defScope s__law_shuffled) .none kV38 dc38 pm38 an38 cd38 ct38), sl38⟩)
    (c38 : PySem.W.codeIn K cd38 "_law_shuffled" = true)
    (k38 : PySem.W.keepIn K (.ref f38) = true)
    (l39 : K.lookup f39 = some ⟨oc39, od39, .func (PySem.W.fnOf "_law_same" "_law_same" (defArgs s__law_same) (defBody s__law_same) (defScope s__law_same) .none kV39 dc39 pm39 an39 cd39 ct39), sl39⟩)
    (c39 : PySem.W.codeIn K cd39 "_law_same" = true)
    (k39 : PySem.W.keepIn K (.ref f39) = true)
    (l40 : K.lookup f40 = some ⟨oc40, od40, .func (PySem.W.fnOf "_law_purses" "_law_purses" (defArgs s__law_purses) (defBody s__law_purses) (defScope s__law_purses) .none kV40 dc40 pm40 an40 cd40 ct40), sl40⟩)
    (c40 : PySem.W.codeIn K cd40 "_law_purses" = true)
    (k40 : PySem.W.keepIn K (.ref f40) = true)
    (l41 : K.lookup f41 = some ⟨oc41, od41, .func (PySem.W.fnOf "_law_chain" "_law_chain" (defArgs s__law_chain) (defBody s__law_chain) (defScope s__law_chain) .none kV41 dc41 pm41 an41 cd41 ct41), sl41⟩)
    (c41 : PySem.W.codeIn K cd41 "_law_chain" = true)
    (k41 : PySem.W.keepIn K (.ref f41) = true)
    (l42 : K.lookup f42 = some ⟨oc42, od42, .func (PySem.W.fnOf "law" "law" (defArgs s_law) (defBody s_law) (defScope s_law) .none kV42 dc42 pm42 an42 cd42 ct42), sl42⟩)
    (c42 : PySem.W.codeIn K cd42 "law" = true)
    (k42 : PySem.W.keepIn K (.ref f42) = true)
    (g_House : PySem.W.nsIn K mainGlobals "House" = some (some (.ref C_House)))
    (pg_House : PySem.W.plainGet K C_House Str.empty = true)
    (hd_House : PySem.W.hasDictIn K C_House = true)
    (po_House : PySem.W.plainOver K C_House = true)
    (sa_House : PySem.W.findIn K (.ref C_House) "__setattr__" = some (some (.builtin "object.__setattr__")))
    (mk_House : PySem.W.makesIn K C_House = true)
    (kc_House : PySem.W.keepIn K (.ref C_House) = true)
    (xc_House : PySem.W.findIn K (.ref C_House) "__class__" = some (some (.builtin "object.__class__")))
    (mr_House : PySem.W.mroIn K C_House (.type "object") = some true)
    (n_House_row : PySem.W.findIn K (.ref C_House) "row" = some none)
    (n_House_at : PySem.W.findIn K (.ref C_House) "at" = some none)
    (xs : PySem.W.specialIn K (.builtin "object.__class__") "__get__" = some (some (.builtin "getset_descriptor.__get__")))
    (xt : PySem.W.takesIn K (.builtin "object.__class__") = some true)
    (g_is_whole : PySem.W.nsIn K mainGlobals "is_whole" = some (some (.ref f1)))
    (g_is_tuple_of : PySem.W.nsIn K mainGlobals "is_tuple_of" = some (some (.ref f3)))
    (g_copied : PySem.W.nsIn K mainGlobals "copied" = some (some (.ref f5)))
    (g_is_count : PySem.W.nsIn K mainGlobals "is_count" = some (some (.ref f2)))
    (g_is_pack : PySem.W.nsIn K mainGlobals "is_pack" = some (some (.ref f6)))
    (g_check_many_packs : PySem.W.nsIn K mainGlobals "check_many_packs" = some (some (.ref f9)))
    (g_check_pack : PySem.W.nsIn K mainGlobals "check_pack" = some (some (.ref f7)))
    (g_is_move_there : PySem.W.nsIn K mainGlobals "is_move_there" = some (some (.ref f8)))
    (g_moved_there : PySem.W.nsIn K mainGlobals "moved_there" = some (some (.ref f11)))
    (g_is_said : PySem.W.nsIn K mainGlobals "is_said" = some (some (.ref f4)))
    (g_without : PySem.W.nsIn K mainGlobals "without" = some (some (.ref f15)))
    (g_over_there : PySem.W.nsIn K mainGlobals "over_there" = some (some (.ref f17)))
    (g_dealt_house : PySem.W.nsIn K mainGlobals "dealt_house" = some (some (.ref f16)))
    (g_changed : PySem.W.nsIn K mainGlobals "changed" = some (some (.ref f18)))
    (g_moved_house : PySem.W.nsIn K mainGlobals "moved_house" = some (some (.ref f19)))
    (g_is_act : PySem.W.nsIn K mainGlobals "is_act" = some (some (.ref f13)))
    (g_fits : PySem.W.nsIn K mainGlobals "fits" = some (some (.ref f14)))
    (g_acted : PySem.W.nsIn K mainGlobals "acted" = some (some (.ref f20)))
    (g_cut_there : PySem.W.nsIn K mainGlobals "cut_there" = some (some (.ref f26)))
    (g_check_heaps : PySem.W.nsIn K mainGlobals "check_heaps" = some (some (.ref f29)))
    (g_heaps_there : PySem.W.nsIn K mainGlobals "heaps_there" = some (some (.ref f30)))
    (g_check_many_deals : PySem.W.nsIn K mainGlobals "check_many_deals" = some (some (.ref f28)))
    (g_is_order : PySem.W.nsIn K mainGlobals "is_order" = some (some (.ref f32)))
    (g_check_house : PySem.W.nsIn K mainGlobals "check_house" = some (some (.ref f25)))
    (g__law_mixed : PySem.W.nsIn K mainGlobals "_law_mixed" = some (some (.ref f36)))
    (g__law_draw : PySem.W.nsIn K mainGlobals "_law_draw" = some (some (.ref f37)))
    (g__law_same : PySem.W.nsIn K mainGlobals "_law_same" = some (some (.ref f39)))
    (g__law_purse : PySem.W.nsIn K mainGlobals "_law_purse" = some (some (.ref f35)))
    (g__law_purses : PySem.W.nsIn K mainGlobals "_law_purses" = some (some (.ref f40)))
    (g_cut_by : PySem.W.nsIn K mainGlobals "cut_by" = some (some (.ref f27)))
    (g_dealt_deals : PySem.W.nsIn K mainGlobals "dealt_deals" = some (some (.ref f31)))
    (g__law_shuffled : PySem.W.nsIn K mainGlobals "_law_shuffled" = some (some (.ref f38)))
    (g_moved_packs : PySem.W.nsIn K mainGlobals "moved_packs" = some (some (.ref f12)))
    (g_heap_move : PySem.W.nsIn K mainGlobals "heap_move" = some (some (.ref f33)))
    (g__law_chain : PySem.W.nsIn K mainGlobals "_law_chain" = some (some (.ref f41)))
    (g_read_off : PySem.W.nsIn K mainGlobals "read_off" = some (some (.ref f34)))
    (g_whole_pack : PySem.W.nsIn K mainGlobals "whole_pack" = some (some (.ref f10)))
    (g_law : PySem.W.nsIn K mainGlobals "law" = some (some (.ref f42)))
    (z_len : PySem.W.nsIn K mainGlobals "len" = some none)
    (z_isinstance : PySem.W.nsIn K mainGlobals "isinstance" = some none)
    (z_all : PySem.W.nsIn K mainGlobals "all" = some none)
    (z_any : PySem.W.nsIn K mainGlobals "any" = some none)
    (z_sorted : PySem.W.nsIn K mainGlobals "sorted" = some none)
    (z_list : PySem.W.nsIn K mainGlobals "list" = some none)
    (z_tuple : PySem.W.nsIn K mainGlobals "tuple" = some none)
    (z_dict : PySem.W.nsIn K mainGlobals "dict" = some none)
    (z_set : PySem.W.nsIn K mainGlobals "set" = some none)
    (z_range : PySem.W.nsIn K mainGlobals "range" = some none)
    (z_zip : PySem.W.nsIn K mainGlobals "zip" = some none)
    (z_enumerate : PySem.W.nsIn K mainGlobals "enumerate" = some none)
    (z_max : PySem.W.nsIn K mainGlobals "max" = some none)
    (z_min : PySem.W.nsIn K mainGlobals "min" = some none)
    (z_sum : PySem.W.nsIn K mainGlobals "sum" = some none)
    (z_abs : PySem.W.nsIn K mainGlobals "abs" = some none)
    (z_int : PySem.W.nsIn K mainGlobals "int" = some none)
    (z_str : PySem.W.nsIn K mainGlobals "str" = some none)
    (z_bool : PySem.W.nsIn K mainGlobals "bool" = some none) :
    ∃ fd : FuncData, (∀ (s : Shared) (v : Value), BindsTo s fd ⟨[v], []⟩ [("script", v)]) ∧ ∀ base : Heap, K.In base → base.Ns mainGlobals mg → FnOk l.prog w K mg base CX0 9 fa fd ["script"] (spLaw K) := by
  have e := hfa.symm.trans (PySem.W.mg_of X G g_law)
  have e2 : f42 = fa := by cases e; rfl
  clear e
  subst e2
  have B : Blt mg := ⟨PySem.W.mg_none_of X G z_len, PySem.W.mg_none_of X G z_isinstance, PySem.W.mg_none_of X G z_all, PySem.W.mg_none_of X G z_any, PySem.W.mg_none_of X G z_sorted, PySem.W.mg_none_of X G z_list, PySem.W.mg_none_of X G z_tuple, PySem.W.mg_none_of X G z_dict, PySem.W.mg_none_of X G z_set, PySem.W.mg_none_of X G z_range, PySem.W.mg_none_of X G z_zip, PySem.W.mg_none_of X G z_enumerate, PySem.W.mg_none_of X G z_max, PySem.W.mg_none_of X G z_min, PySem.W.mg_none_of X G z_sum, PySem.W.mg_none_of X G z_abs, PySem.W.mg_none_of X G z_int, PySem.W.mg_none_of X G z_str, PySem.W.mg_none_of X G z_bool⟩
  have cl_House : Cls K C_House := ⟨pg_House, hd_House, po_House, sa_House⟩
  have K_House : ClsF K mg "House" ["row", "at"] := ⟨C_House, PySem.W.mg_of X G g_House, cl_House, (fun f hf => by
      simp only [List.mem_cons, List.not_mem_nil, or_false] at hf
      rcases hf with rfl | rfl
      · exact n_House_row
      · exact n_House_at), xc_House, xs, xt, mr_House, kc_House⟩
  have F1 : FunD K "is_whole" "is_whole" (defArgs s_is_whole) (defBody s_is_whole) (defScope s_is_whole) [] [] f1 _ := ⟨⟨_, _, _, _, _, _, _, _, _, _, rfl, l1, c1, .inl ⟨rfl, rfl⟩, .inl rfl⟩, k1⟩
  have b1 := F1.bindsN (ps := ["value"]) fun _ _ _ _ _ _ us hl => match us, hl with | [_], _ => rfl
  have F2 : FunD K "is_count" "is_count" (defArgs s_is_count) (defBody s_is_count) (defScope s_is_count) [.int 0] [] f2 _ := ⟨⟨_, _, _, _, _, _, _, _, _, _, rfl, l2, c2, .inr ⟨List.cons_ne_nil _ _, T2, _, [.int 0 Tk2], Tn2, rfl, t2, rfl, (.cons ⟨_, rfl⟩ .nil)⟩, .inl rfl⟩, k2⟩
  obtain ⟨ds2_0, v2_0, b2_0⟩ := F2.binds1 (ps := ["value", "least"]) 2 1 (List.cons_ne_nil _ _) rfl fun _ _ _ _ _ _ _ us its h1 h2 => match us, h1, its, h2 with | [_, _], _, [_], _ => ⟨_, rfl, rfl⟩
  obtain ⟨ds2_1, v2_1, b2_1⟩ := F2.binds1 (ps := ["value", "least"]) 1 0 (List.cons_ne_nil _ _) rfl fun _ _ _ _ _ _ _ us its h1 h2 => match us, h1, its, h2 with | [_], _, [_], _ => ⟨_, rfl, rfl⟩
  have F3 : FunD K "is_tuple_of" "is_tuple_of" (defArgs s_is_tuple_of) (defBody s_is_tuple_of) (defScope s_is_tuple_of) [] [] f3 _ := ⟨⟨_, _, _, _, _, _, _, _, _, _, rfl, l3, c3, .inl ⟨rfl, rfl⟩, .inl rfl⟩, k3⟩
  have b3 := F3.bindsN (ps := ["value", "size"]) fun _ _ _ _ _ _ us hl => match us, hl with | [_, _], _ => rfl
  have F4 : FunD K "is_said" "is_said" (defArgs s_is_said) (defBody s_is_said) (defScope s_is_said) [] [] f4 _ := ⟨⟨_, _, _, _, _, _, _, _, _, _, rfl, l4, c4, .inl ⟨rfl, rfl⟩, .inl rfl⟩, k4⟩
  have b4 := F4.bindsN (ps := ["value", "word", "size"]) fun _ _ _ _ _ _ us hl => match us, hl with | [_, _, _], _ => rfl
  have F5 : FunD K "copied" "copied" (defArgs s_copied) (defBody s_copied) (defScope s_copied) [] [] f5 _ := ⟨⟨_, _, _, _, _, _, _, _, _, _, rfl, l5, c5, .inl ⟨rfl, rfl⟩, .inl rfl⟩, k5⟩
  have b5 := F5.bindsN (ps := ["thing"]) fun _ _ _ _ _ _ us hl => match us, hl with | [_], _ => rfl
  have F6 : FunD K "is_pack" "is_pack" (defArgs s_is_pack) (defBody s_is_pack) (defScope s_is_pack) [] [] f6 _ := ⟨⟨_, _, _, _, _, _, _, _, _, _, rfl, l6, c6, .inl ⟨rfl, rfl⟩, .inl rfl⟩, k6⟩
  have b6 := F6.bindsN (ps := ["value"]) fun _ _ _ _ _ _ us hl => match us, hl with | [_], _ => rfl
  have F7 : FunD K "check_pack" "check_pack" (defArgs s_check_pack) (defBody s_check_pack) (defScope s_check_pack) [] [] f7 _ := ⟨⟨_, _, _, _, _, _, _, _, _, _, rfl, l7, c7, .inl ⟨rfl, rfl⟩, .inl rfl⟩, k7⟩
  have b7 := F7.bindsN (ps := ["value"]) fun _ _ _ _ _ _ us hl => match us, hl with | [_], _ => rfl
  have F8 : FunD K "is_move_there" "is_move_there" (defArgs s_is_move_there) (defBody s_is_move_there) (defScope s_is_move_there) [] [] f8 _ := ⟨⟨_, _, _, _, _, _, _, _, _, _, rfl, l8, c8, .inl ⟨rfl, rfl⟩, .inl rfl⟩, k8⟩
  have b8 := F8.bindsN (ps := ["many", "value"]) fun _ _ _ _ _ _ us hl => match us, hl with | [_, _], _ => rfl
  have F9 : FunD K "check_many" "check_many" (defArgs s_check_many) (defBody s_check_many) (defScope s_check_many) [] [] f9 _ := ⟨⟨_, _, _, _, _, _, _, _, _, _, rfl, l9, c9, .inl ⟨rfl, rfl⟩, .inl rfl⟩, k9⟩
  have b9 := F9.bindsN (ps := ["many"]) fun _ _ _ _ _ _ us hl => match us, hl with | [_], _ => rfl
  have F10 : FunD K "whole_pack" "whole_pack" (defArgs s_whole_pack) (defBody s_whole_pack) (defScope s_whole_pack) [] [] f10 _ := ⟨⟨_, _, _, _, _, _, _, _, _, _, rfl, l10, c10, .inl ⟨rfl, rfl⟩, .inl rfl⟩, k10⟩
  have b10 := F10.bindsN (ps := ["many"]) fun _ _ _ _ _ _ us hl => match us, hl with | [_], _ => rfl
  have F11 : FunD K "moved_there" "moved_there" (defArgs s_moved_there) (defBody s_moved_there) (defScope s_moved_there) [] [] f11 _ := ⟨⟨_, _, _, _, _, _, _, _, _, _, rfl, l11, c11, .inl ⟨rfl, rfl⟩, .inl rfl⟩, k11⟩
  have b11 := F11.bindsN (ps := ["pack", "move"]) fun _ _ _ _ _ _ us hl => match us, hl with | [_, _], _ => rfl
  have F12 : FunD K "moved" "moved" (defArgs s_moved) (defBody s_moved) (defScope s_moved) [] [] f12 _ := ⟨⟨_, _, _, _, _, _, _, _, _, _, rfl, l12, c12, .inl ⟨rfl, rfl⟩, .inl rfl⟩, k12⟩
  have b12 := F12.bindsN (ps := ["pack", "move"]) fun _ _ _ _ _ _ us hl => match us, hl with | [_, _], _ => rfl
  have F13 : FunD K "is_act" "is_act" (defArgs s_is_act) (defBody s_is_act) (defScope s_is_act) [] [] f13 _ := ⟨⟨_, _, _, _, _, _, _, _, _, _, rfl, l13, c13, .inl ⟨rfl, rfl⟩, .inl rfl⟩, k13⟩
  have b13 := F13.bindsN (ps := ["value"]) fun _ _ _ _ _ _ us hl => match us, hl with | [_], _ => rfl
  have F14 : FunD K "fits" "fits" (defArgs s_fits) (defBody s_fits) (defScope s_fits) [] [] f14 _ := ⟨⟨_, _, _, _, _, _, _, _, _, _, rfl, l14, c14, .inl ⟨rfl, rfl⟩, .inl rfl⟩, k14⟩
  have b14 := F14.bindsN (ps := ["state", "act"]) fun _ _ _ _ _ _ us hl => match us, hl with | [_, _], _ => rfl
  have F15 : FunD K "without" "without" (defArgs s_without) (defBody s_without) (defScope s_without) [] [] f15 _ := ⟨⟨_, _, _, _, _, _, _, _, _, _, rfl, l15, c15, .inl ⟨rfl, rfl⟩, .inl rfl⟩, k15⟩
  have b15 := F15.bindsN (ps := ["heaps", "number"]) fun _ _ _ _ _ _ us hl => match us, hl with | [_, _], _ => rfl
  have F16 : FunD K "dealt" "dealt" (defArgs s_house_dealt) (defBody s_house_dealt) (defScope s_house_dealt) [] [] f16 _ := ⟨⟨_, _, _, _, _, _, _, _, _, _, rfl, l16, c16, .inl ⟨rfl, rfl⟩, .inl rfl⟩, k16⟩
  have b16 := F16.bindsN (ps := ["state", "act"]) fun _ _ _ _ _ _ us hl => match us, hl with | [_, _], _ => rfl
  have F17 : FunD K "over_there" "over_there" (defArgs s_over_there) (defBody s_over_there) (defScope s_over_there) [] [] f17 _ := ⟨⟨_, _, _, _, _, _, _, _, _, _, rfl, l17, c17, .inl ⟨rfl, rfl⟩, .inl rfl⟩, k17⟩
  have b17 := F17.bindsN (ps := ["faced", "at"]) fun _ _ _ _ _ _ us hl => match us, hl with | [_, _], _ => rfl
  have F18 : FunD K "changed" "changed" (defArgs s_changed) (defBody s_changed) (defScope s_changed) [] [] f18 _ := ⟨⟨_, _, _, _, _, _, _, _, _, _, rfl, l18, c18, .inl ⟨rfl, rfl⟩, .inl rfl⟩, k18⟩
  have b18 := F18.bindsN (ps := ["heap", "act"]) fun _ _ _ _ _ _ us hl => match us, hl with | [_, _], _ => rfl
  have F19 : FunD K "moved" "moved" (defArgs s_house_moved) (defBody s_house_moved) (defScope s_house_moved) [] [] f19 _ := ⟨⟨_, _, _, _, _, _, _, _, _, _, rfl, l19, c19, .inl ⟨rfl, rfl⟩, .inl rfl⟩, k19⟩
  have b19 := F19.bindsN (ps := ["state", "act"]) fun _ _ _ _ _ _ us hl => match us, hl with | [_, _], _ => rfl
  have F20 : FunD K "acted" "acted" (defArgs s_acted) (defBody s_acted) (defScope s_acted) [] [] f20 _ := ⟨⟨_, _, _, _, _, _, _, _, _, _, rfl, l20, c20, .inl ⟨rfl, rfl⟩, .inl rfl⟩, k20⟩
  have b20 := F20.bindsN (ps := ["state", "act"]) fun _ _ _ _ _ _ us hl => match us, hl with | [_, _], _ => rfl
  have F21 : FunD K "__init__" "House.__init__" (defArgs s_House___init__) (defBody s_House___init__) (defScope s_House___init__) [] [] f21 _ := ⟨⟨_, _, _, _, _, _, _, _, _, _, rfl, l21, c21, .inl ⟨rfl, rfl⟩, .inl rfl⟩, k21⟩
  have b21 := F21.bindsN (ps := ["self", "many"]) fun _ _ _ _ _ _ us hl => match us, hl with | [_, _], _ => rfl
  have F22 : FunD K "state" "House.state" (defArgs s_House_state) (defBody s_House_state) (defScope s_House_state) [] [] f22 _ := ⟨⟨_, _, _, _, _, _, _, _, _, _, rfl, l22, c22, .inl ⟨rfl, rfl⟩, .inl rfl⟩, k22⟩
  have b22 := F22.bindsN (ps := ["self"]) fun _ _ _ _ _ _ us hl => match us, hl with | [_], _ => rfl
  have F23 : FunD K "do" "House.do" (defArgs s_House_do) (defBody s_House_do) (defScope s_House_do) [] [] f23 _ := ⟨⟨_, _, _, _, _, _, _, _, _, _, rfl, l23, c23, .inl ⟨rfl, rfl⟩, .inl rfl⟩, k23⟩
  have b23 := F23.bindsN (ps := ["self", "act"]) fun _ _ _ _ _ _ us hl => match us, hl with | [_, _], _ => rfl
  have F24 : FunD K "heaps" "House.heaps" (defArgs s_House_heaps) (defBody s_House_heaps) (defScope s_House_heaps) [] [] f24 _ := ⟨⟨_, _, _, _, _, _, _, _, _, _, rfl, l24, c24, .inl ⟨rfl, rfl⟩, .inl rfl⟩, k24⟩
  have b24 := F24.bindsN (ps := ["self"]) fun _ _ _ _ _ _ us hl => match us, hl with | [_], _ => rfl
  have F25 : FunD K "check_house" "check_house" (defArgs s_check_house) (defBody s_check_house) (defScope s_check_house) [] [] f25 _ := ⟨⟨_, _, _, _, _, _, _, _, _, _, rfl, l25, c25, .inl ⟨rfl, rfl⟩, .inl rfl⟩, k25⟩
  have b25 := F25.bindsN (ps := ["value"]) fun _ _ _ _ _ _ us hl => match us, hl with | [_], _ => rfl
  have F26 : FunD K "cut_there" "cut_there" (defArgs s_cut_there) (defBody s_cut_there) (defScope s_cut_there) [] [] f26 _ := ⟨⟨_, _, _, _, _, _, _, _, _, _, rfl, l26, c26, .inl ⟨rfl, rfl⟩, .inl rfl⟩, k26⟩
  have b26 := F26.bindsN (ps := ["pack", "by"]) fun _ _ _ _ _ _ us hl => match us, hl with | [_, _], _ => rfl
  have F27 : FunD K "cut_by" "cut_by" (defArgs s_cut_by) (defBody s_cut_by) (defScope s_cut_by) [] [] f27 _ := ⟨⟨_, _, _, _, _, _, _, _, _, _, rfl, l27, c27, .inl ⟨rfl, rfl⟩, .inl rfl⟩, k27⟩
  have b27 := F27.bindsN (ps := ["pack", "by"]) fun _ _ _ _ _ _ us hl => match us, hl with | [_, _], _ => rfl
  have F28 : FunD K "check_many" "check_many" (defArgs s_deals_check_many) (defBody s_deals_check_many) (defScope s_deals_check_many) [] [] f28 _ := ⟨⟨_, _, _, _, _, _, _, _, _, _, rfl, l28, c28, .inl ⟨rfl, rfl⟩, .inl rfl⟩, k28⟩
  have b28 := F28.bindsN (ps := ["many"]) fun _ _ _ _ _ _ us hl => match us, hl with | [_], _ => rfl
  have F29 : FunD K "check_heaps" "check_heaps" (defArgs s_check_heaps) (defBody s_check_heaps) (defScope s_check_heaps) [] [] f29 _ := ⟨⟨_, _, _, _, _, _, _, _, _, _, rfl, l29, c29, .inl ⟨rfl, rfl⟩, .inl rfl⟩, k29⟩
  have b29 := F29.bindsN (ps := ["heaps"]) fun _ _ _ _ _ _ us hl => match us, hl with | [_], _ => rfl
  have F30 : FunD K "heaps_there" "heaps_there" (defArgs s_heaps_there) (defBody s_heaps_there) (defScope s_heaps_there) [] [] f30 _ := ⟨⟨_, _, _, _, _, _, _, _, _, _, rfl, l30, c30, .inl ⟨rfl, rfl⟩, .inl rfl⟩, k30⟩
  have b30 := F30.bindsN (ps := ["pack", "heaps"]) fun _ _ _ _ _ _ us hl => match us, hl with | [_, _], _ => rfl
  have F31 : FunD K "dealt" "dealt" (defArgs s_deals_dealt) (defBody s_deals_dealt) (defScope s_deals_dealt) [] [] f31 _ := ⟨⟨_, _, _, _, _, _, _, _, _, _, rfl, l31, c31, .inl ⟨rfl, rfl⟩, .inl rfl⟩, k31⟩
  have b31 := F31.bindsN (ps := ["pack", "heaps"]) fun _ _ _ _ _ _ us hl => match us, hl with | [_, _], _ => rfl
  have F32 : FunD K "is_order" "is_order" (defArgs s_is_order) (defBody s_is_order) (defScope s_is_order) [] [] f32 _ := ⟨⟨_, _, _, _, _, _, _, _, _, _, rfl, l32, c32, .inl ⟨rfl, rfl⟩, .inl rfl⟩, k32⟩
  have b32 := F32.bindsN (ps := ["heaps", "value"]) fun _ _ _ _ _ _ us hl => match us, hl with | [_, _], _ => rfl
  have F33 : FunD K "heap_move" "heap_move" (defArgs s_heap_move) (defBody s_heap_move) (defScope s_heap_move) [] [] f33 _ := ⟨⟨_, _, _, _, _, _, _, _, _, _, rfl, l33, c33, .inl ⟨rfl, rfl⟩, .inl rfl⟩, k33⟩
  have b33 := F33.bindsN (ps := ["many", "heaps", "order"]) fun _ _ _ _ _ _ us hl => match us, hl with | [_, _, _], _ => rfl
  have F34 : FunD K "read_off" "read_off" (defArgs s_read_off) (defBody s_read_off) (defScope s_read_off) [] [] f34 _ := ⟨⟨_, _, _, _, _, _, _, _, _, _, rfl, l34, c34, .inl ⟨rfl, rfl⟩, .inl rfl⟩, k34⟩
  have b34 := F34.bindsN (ps := ["house"]) fun _ _ _ _ _ _ us hl => match us, hl with | [_], _ => rfl
  have F35 : FunD K "_law_purse" "_law_purse" (defArgs s__law_purse) (defBody s__law_purse) (defScope s__law_purse) [] [] f35 _ := ⟨⟨_, _, _, _, _, _, _, _, _, _, rfl, l35, c35, .inl ⟨rfl, rfl⟩, .inl rfl⟩, k35⟩
  have b35 := F35.bindsN (ps := ["script", "at"]) fun _ _ _ _ _ _ us hl => match us, hl with | [_, _], _ => rfl
  have F36 : FunD K "_law_mixed" "_law_mixed" (defArgs s__law_mixed) (defBody s__law_mixed) (defScope s__law_mixed) [] [] f36 _ := ⟨⟨_, _, _, _, _, _, _, _, _, _, rfl, l36, c36, .inl ⟨rfl, rfl⟩, .inl rfl⟩, k36⟩
  have b36 := F36.bindsN (ps := ["seed", "spin", "at"]) fun _ _ _ _ _ _ us hl => match us, hl with | [_, _, _], _ => rfl
  have F37 : FunD K "_law_draw" "_law_draw" (defArgs s__law_draw0) (defBody s__law_draw0) (defScope s__law_draw0) [] [] f37 _ := ⟨⟨_, _, _, _, _, _, _, _, _, _, rfl, l37, c37, .inl ⟨rfl, rfl⟩, .inl rfl⟩, k37⟩
  have b37 := F37.bindsN (ps := ["purse", "many"]) fun _ _ _ _ _ _ us hl => match us, hl with | [_, _], _ => rfl
  have F38 : FunD K "_law_shuffled" "_law_shuffled" (defArgs s__law_shuffled) (defBody s__law_shuffled) (defScope s__law_shuffled) [] [] f38 _ := ⟨⟨_, _, _, _, _, _, _, _, _, _, rfl, l38, c38, .inl ⟨rfl, rfl⟩, .inl rfl⟩, k38⟩
  have b38 := F38.bindsN (ps := ["purse", "some"]) fun _ _ _ _ _ _ us hl => match us, hl with | [_, _], _ => rfl
  have F39 : FunD K "_law_same" "_law_same" (defArgs s__law_same) (defBody s__law_same) (defScope s__law_same) [] [] f39 _ := ⟨⟨_, _, _, _, _, _, _, _, _, _, rfl, l39, c39, .inl ⟨rfl, rfl⟩, .inl rfl⟩, k39⟩
  have b39 := F39.bindsN (ps := ["told", "due"]) fun _ _ _ _ _ _ us hl => match us, hl with | [_, _], _ => rfl
  have F40 : FunD K "_law_purses" "_law_purses" (defArgs s__law_purses) (defBody s__law_purses) (defScope s__law_purses) [] [] f40 _ := ⟨⟨_, _, _, _, _, _, _, _, _, _, rfl, l40, c40, .inl ⟨rfl, rfl⟩, .inl rfl⟩, k40⟩
  have b40 := F40.bindsN (ps := ["script", "few"]) fun _ _ _ _ _ _ us hl => match us, hl with | [_, _], _ => rfl
  have F41 : FunD K "_law_chain" "_law_chain" (defArgs s__law_chain) (defBody s__law_chain) (defScope s__law_chain) [] [] f41 _ := ⟨⟨_, _, _, _, _, _, _, _, _, _, rfl, l41, c41, .inl ⟨rfl, rfl⟩, .inl rfl⟩, k41⟩
  have b41 := F41.bindsN (ps := ["lists"]) fun _ _ _ _ _ _ us hl => match us, hl with | [_], _ => rfl
  have F42 : FunD K "law" "law" (defArgs s_law) (defBody s_law) (defScope s_law) [] [] f42 _ := ⟨⟨_, _, _, _, _, _, _, _, _, _, rfl, l42, c42, .inl ⟨rfl, rfl⟩, .inl rfl⟩, k42⟩
  have b42 := F42.bindsN (ps := ["script"]) fun _ _ _ _ _ _ us hl => match us, hl with | [_], _ => rfl
  refine ⟨_, fun s v => F42.bindsA (ps := ["script"]) (fun _ _ _ _ _ _ us hl => match us, hl with | [_], _ => rfl) s [v] rfl, ?_⟩
  intro base _ _
  have O_is_whole := ok_is_whole (P := l.prog) (w := w) (base := base) B  F1
  have C_is_whole_0 : CallF l.prog w K mg base 1 "is_whole" false 1 [] r_is_whole := ⟨f1, _, _, _, PySem.W.mg_of X G g_is_whole, k1, rfl, b1, .nil, O_is_whole⟩
  have O_is_count := ok_is_count (P := l.prog) (w := w) (base := base) B C_is_whole_0 F2
  have C_is_count_0 : CallF l.prog w K mg base 2 "is_count" false 2 [] r_is_count := ⟨f2, _, _, _, PySem.W.mg_of X G g_is_count, k2, rfl, b2_0, v2_0, O_is_count⟩
  have C_is_count_1 : CallF l.prog w K mg base 2 "is_count" false 2 [.int 0] r_is_count := ⟨f2, _, _, _, PySem.W.mg_of X G g_is_count, k2, rfl, b2_1, v2_1, O_is_count⟩
  have O_is_tuple_of := ok_is_tuple_of (P := l.prog) (w := w) (base := base) B  F3
  have C_is_tuple_of_0 : CallF l.prog w K mg base 1 "is_tuple_of" false 2 [] r_is_tuple_of := ⟨f3, _, _, _, PySem.W.mg_of X G g_is_tuple_of, k3, rfl, b3, .nil, O_is_tuple_of⟩
  have O_is_said := ok_is_said (P := l.prog) (w := w) (base := base) B C_is_tuple_of_0 F4
  have C_is_said_0 : CallF l.prog w K mg base 2 "is_said" false 3 [] r_is_said := ⟨f4, _, _, _, PySem.W.mg_of X G g_is_said, k4, rfl, b4, .nil, O_is_said⟩
  have D5 : Def K mg "copied" "copied" s_copied ["thing"] [] f5 _ [] := ⟨F5, PySem.W.mg_of X G g_copied, b5, .nil⟩
  have C_copied_0 := D5.call (P := l.prog) (w := w) (base := base) (ok_copied B  D5 5)
  have O_is_pack := ok_is_pack (P := l.prog) (w := w) (base := base) B C_is_count_1 F6
  have C_is_pack_0 : CallF l.prog w K mg base 3 "is_pack" false 1 [] r_is_pack := ⟨f6, _, _, _, PySem.W.mg_of X G g_is_pack, k6, rfl, b6, .nil, O_is_pack⟩
  have O_check_pack := ok_check_pack (P := l.prog) (w := w) (base := base) B C_is_pack_0 F7
  have C_check_pack_0 : CallF l.prog w K mg base 4 "check_pack" false 1 [] r_check_pack := ⟨f7, _, _, _, PySem.W.mg_of X G g_check_pack, k7, rfl, b7, .nil, O_check_pack⟩
  have O_is_move_there := ok_is_move_there (P := l.prog) (w := w) (base := base) B C_is_count_1 F8
  have C_is_move_there_0 : CallF l.prog w K mg base 3 "is_move_there" false 2 [] r_is_move_there := ⟨f8, _, _, _, PySem.W.mg_of X G g_is_move_there, k8, rfl, b8, .nil, O_is_move_there⟩
  have O_check_many := ok_check_many (P := l.prog) (w := w) (base := base) B C_is_count_1 F9
  have C_check_many_packs_0 : CallF l.prog w K mg base 3 "check_many_packs" false 1 [] r_check_many := ⟨f9, _, _, _, PySem.W.mg_of X G g_check_many_packs, k9, rfl, b9, .nil, O_check_many⟩
  have O_whole_pack := ok_whole_pack (P := l.prog) (w := w) (base := base) B C_check_many_packs_0 F10
  have C_whole_pack_0 : CallF l.prog w K mg base 4 "whole_pack" false 1 [] r_whole_pack := ⟨f10, _, _, _, PySem.W.mg_of X G g_whole_pack, k10, rfl, b10, .nil, O_whole_pack⟩
  have O_moved_there := ok_moved_there (P := l.prog) (w := w) (base := base) B  F11
  have C_moved_there_0 : CallF l.prog w K mg base 1 "moved_there" false 2 [] r_moved_there := ⟨f11, _, _, _, PySem.W.mg_of X G g_moved_there, k11, rfl, b11, .nil, O_moved_there⟩
  have O_moved := ok_moved (P := l.prog) (w := w) (base := base) B C_check_pack_0 C_is_move_there_0 C_moved_there_0 F12
  have C_moved_packs_0 : CallF l.prog w K mg base 5 "moved_packs" false 2 [] r_moved := ⟨f12, _, _, _, PySem.W.mg_of X G g_moved_packs, k12, rfl, b12, .nil, O_moved⟩
  have O_is_act := ok_is_act (P := l.prog) (w := w) (base := base) B C_is_said_0 C_is_count_1 C_is_move_there_0 F13
  have C_is_act_0 : CallF l.prog w K mg base 4 "is_act" false 1 [] r_is_act := ⟨f13, _, _, _, PySem.W.mg_of X G g_is_act, k13, rfl, b13, .nil, O_is_act⟩
  have O_fits := ok_fits (P := l.prog) (w := w) (base := base) B  F14
  have C_fits_0 : CallF l.prog w K mg base 1 "fits" false 2 [] r_fits := ⟨f14, _, _, _, PySem.W.mg_of X G g_fits, k14, rfl, b14, .nil, O_fits⟩
  have O_without := ok_without (P := l.prog) (w := w) (base := base) B  F15
  have C_without_0 : CallF l.prog w K mg base 1 "without" true 2 [] r_without := ⟨f15, _, _, _, PySem.W.mg_of X G g_without, k15, rfl, b15, .nil, O_without⟩
  have O_house_dealt := ok_house_dealt (P := l.prog) (w := w) (base := base) B C_without_0 F16
  have C_dealt_house_0 : CallF l.prog w K mg base 2 "dealt_house" false 2 [] r_house_dealt := ⟨f16, _, _, _, PySem.W.mg_of X G g_dealt_house, k16, rfl, b16, .nil, O_house_dealt⟩
  have O_over_there := ok_over_there (P := l.prog) (w := w) (base := base) B  F17
  have C_over_there_0 : CallF l.prog w K mg base 1 "over_there" false 2 [] r_over_there := ⟨f17, _, _, _, PySem.W.mg_of X G g_over_there, k17, rfl, b17, .nil, O_over_there⟩
  have O_changed := ok_changed (P := l.prog) (w := w) (base := base) B C_over_there_0 F18
  have C_changed_0 : CallF l.prog w K mg base 2 "changed" false 2 [] r_changed := ⟨f18, _, _, _, PySem.W.mg_of X G g_changed, k18, rfl, b18, .nil, O_changed⟩
  have O_house_moved := ok_house_moved (P := l.prog) (w := w) (base := base) B C_dealt_house_0 C_without_0 C_changed_0 F19
  have C_moved_house_0 : CallF l.prog w K mg base 3 "moved_house" false 2 [] r_house_moved := ⟨f19, _, _, _, PySem.W.mg_of X G g_moved_house, k19, rfl, b19, .nil, O_house_moved⟩
  have O_acted := ok_acted (P := l.prog) (w := w) (base := base) B C_moved_house_0 F20
  have C_acted_0 : CallF l.prog w K mg base 4 "acted" false 2 [] r_acted := ⟨f20, _, _, _, PySem.W.mg_of X G g_acted, k20, rfl, b20, .nil, O_acted⟩
  have O_House___init__ := ok_House___init__ (P := l.prog) (w := w) (base := base) B C_is_count_0 K_House F21
  have N_House : MakeF l.prog w K mg base 3 "House" 2 [] r_House___init__ := ⟨C_House, f21, _, _, _, PySem.W.mg_of X G g_House, ⟨mk_House, a21, i21, kc_House⟩, rfl, b21, .nil, O_House___init__⟩
  have O_House_state := ok_House_state (P := l.prog) (w := w) (base := base) B K_House F22
  have M_House_state : MethF l.prog w K mg base 1 "House" "state" false 1 [] r_House_state := ⟨C_House, f22, _, _, _, PySem.W.mg_of X G g_House, cl_House, ⟨a22, i22, k22⟩, rfl, b22, .nil, O_House_state⟩
  have O_House_do := ok_House_do (P := l.prog) (w := w) (base := base) B C_is_act_0 C_fits_0 M_House_state C_acted_0 K_House C_copied_0 F23
  have M_House_do : MethF l.prog w K mg base 7 "House" "do" false 2 [] r_House_do := ⟨C_House, f23, _, _, _, PySem.W.mg_of X G g_House, cl_House, ⟨a23, i23, k23⟩, rfl, b23, .nil, O_House_do⟩
  have O_House_heaps := ok_House_heaps (P := l.prog) (w := w) (base := base) B C_copied_0 M_House_state F24
  have M_House_heaps : MethF l.prog w K mg base 7 "House" "heaps" false 1 [] r_House_heaps := ⟨C_House, f24, _, _, _, PySem.W.mg_of X G g_House, cl_House, ⟨a24, i24, k24⟩, rfl, b24, .nil, O_House_heaps⟩
  have O_check_house := ok_check_house (P := l.prog) (w := w) (base := base) B K_House F25
  have C_check_house_0 : CallF l.prog w K mg base 1 "check_house" false 1 [] r_check_house := ⟨f25, _, _, _, PySem.W.mg_of X G g_check_house, k25, rfl, b25, .nil, O_check_house⟩
  have O_cut_there := ok_cut_there (P := l.prog) (w := w) (base := base) B  F26
  have C_cut_there_0 : CallF l.prog w K mg base 1 "cut_there" false 2 [] r_cut_there := ⟨f26, _, _, _, PySem.W.mg_of X G g_cut_there, k26, rfl, b26, .nil, O_cut_there⟩
  have O_cut_by := ok_cut_by (P := l.prog) (w := w) (base := base) B C_check_pack_0 C_is_whole_0 C_cut_there_0 F27
  have C_cut_by_0 : CallF l.prog w K mg base 5 "cut_by" false 2 [] r_cut_by := ⟨f27, _, _, _, PySem.W.mg_of X G g_cut_by, k27, rfl, b27, .nil, O_cut_by⟩
  have O_deals_check_many := ok_deals_check_many (P := l.prog) (w := w) (base := base) B C_is_count_1 F28
  have C_check_many_deals_0 : CallF l.prog w K mg base 3 "check_many_deals" false 1 [] r_deals_check_many := ⟨f28, _, _, _, PySem.W.mg_of X G g_check_many_deals, k28, rfl, b28, .nil, O_deals_check_many⟩
  have O_check_heaps := ok_check_heaps (P := l.prog) (w := w) (base := base) B C_is_count_0 F29
  have C_check_heaps_0 : CallF l.prog w K mg base 3 "check_heaps" false 1 [] r_check_heaps := ⟨f29, _, _, _, PySem.W.mg_of X G g_check_heaps, k29, rfl, b29, .nil, O_check_heaps⟩
  have O_heaps_there := ok_heaps_there (P := l.prog) (w := w) (base := base) B  F30
  have C_heaps_there_0 : CallF l.prog w K mg base 1 "heaps_there" false 2 [] r_heaps_there := ⟨f30, _, _, _, PySem.W.mg_of X G g_heaps_there, k30, rfl, b30, .nil, O_heaps_there⟩
  have O_deals_dealt := ok_deals_dealt (P := l.prog) (w := w) (base := base) B C_check_pack_0 C_check_heaps_0 C_heaps_there_0 F31
  have C_dealt_deals_0 : CallF l.prog w K mg base 5 "dealt_deals" false 2 [] r_deals_dealt := ⟨f31, _, _, _, PySem.W.mg_of X G g_dealt_deals, k31, rfl, b31, .nil, O_deals_dealt⟩
  have O_is_order := ok_is_order (P := l.prog) (w := w) (base := base) B C_is_count_1 F32
  have C_is_order_0 : CallF l.prog w K mg base 3 "is_order" false 2 [] r_is_order := ⟨f32, _, _, _, PySem.W.mg_of X G g_is_order, k32, rfl, b32, .nil, O_is_order⟩
  have O_heap_move := ok_heap_move (P := l.prog) (w := w) (base := base) B C_check_many_deals_0 C_check_heaps_0 C_is_order_0 C_heaps_there_0 F33
  have C_heap_move_0 : CallF l.prog w K mg base 4 "heap_move" false 3 [] r_heap_move := ⟨f33, _, _, _, PySem.W.mg_of X G g_heap_move, k33, rfl, b33, .nil, O_heap_move⟩
  have O_read_off := ok_read_off (P := l.prog) (w := w) (base := base) B C_check_house_0 M_House_state F34
  have C_read_off_0 : CallF l.prog w K mg base 2 "read_off" false 1 [] r_read_off := ⟨f34, _, _, _, PySem.W.mg_of X G g_read_off, k34, rfl, b34, .nil, O_read_off⟩
  have O__law_purse : ∀ o, ScrOk K o → FnOk l.prog w K mg base CX0 1 f35 _ ["script", "at"] (spRun mg true 2 (r__law_purse o)) := fun o hO => ok__law_purse hO B  F35
  have C__law_purse_0 : ∀ o, ScrOk K o → CallF l.prog w K mg base 1 "_law_purse" true 2 [] (r__law_purse o) := fun o hO => ⟨f35, _, _, _, PySem.W.mg_of X G g__law_purse, k35, rfl, b35, .nil, O__law_purse o hO⟩
  have O__law_mixed := ok__law_mixed (P := l.prog) (w := w) (base := base) B  F36
  have C__law_mixed_0 : CallF l.prog w K mg base 1 "_law_mixed" false 3 [] r__law_mixed := ⟨f36, _, _, _, PySem.W.mg_of X G g__law_mixed, k36, rfl, b36, .nil, O__law_mixed⟩
  have O__law_draw0 := ok__law_draw0 (P := l.prog) (w := w) (base := base) B C__law_mixed_0 F37
  have O__law_draw := draw_ok O__law_draw0 draw_sem
  have C__law_draw_0 : CallF l.prog w K mg base 2 "_law_draw" false 2 [] r__law_draw := ⟨f37, _, _, _, PySem.W.mg_of X G g__law_draw, k37, rfl, b37, .nil, O__law_draw⟩
  have O__law_shuffled := ok__law_shuffled (P := l.prog) (w := w) (base := base) B C__law_draw_0 F38
  have C__law_shuffled_0 : CallF l.prog w K mg base 3 "_law_shuffled" false 2 [] r__law_shuffled := ⟨f38, _, _, _, PySem.W.mg_of X G g__law_shuffled, k38, rfl, b38, .nil, O__law_shuffled⟩
  have D39 : Def K mg "_law_same" "_law_same" s__law_same ["told", "due"] [] f39 _ [] := ⟨F39, PySem.W.mg_of X G g__law_same, b39, .nil⟩
  have C__law_same_0 := D39.call (P := l.prog) (w := w) (base := base) (ok__law_same B  D39 7)
  have O__law_purses : ∀ o, ScrOk K o → FnOk l.prog w K mg base CX0 2 f40 _ ["script", "few"] (spRun mg false 2 (r__law_purses o)) := fun o hO => ok__law_purses hO B (C__law_purse_0 o hO) F40
  have C__law_purses_0 : ∀ o, ScrOk K o → CallF l.prog w K mg base 2 "_law_purses" false 2 [] (r__law_purses o) := fun o hO => ⟨f40, _, _, _, PySem.W.mg_of X G g__law_purses, k40, rfl, b40, .nil, O__law_purses o hO⟩
  have O__law_chain := ok__law_chain (P := l.prog) (w := w) (base := base) B  F41
  have C__law_chain_0 : CallF l.prog w K mg base 1 "_law_chain" false 1 [] r__law_chain := ⟨f41, _, _, _, PySem.W.mg_of X G g__law_chain, k41, rfl, b41, .nil, O__law_chain⟩
  exact law_any fun o hO => ok_law hO B (C__law_purses_0 o hO) C__law_same_0 M_House_heaps C__law_draw_0 M_House_do C_cut_by_0 C_dealt_deals_0 C__law_shuffled_0 C_moved_packs_0 C_heap_move_0 C__law_chain_0 C_read_off_0 C_whole_pack_0 N_House F42
end TL
end
section
open PySem PySem.W PyProof.Rows
set_option Elab.async false
set_option maxRecDepth 100000
set_option maxHeartbeats 0
open_top head85 for PySem.Challenge.rw_suretricks_k85_whole_tables_and_deals
end
section
set_option Elab.async false
set_option linter.all false
set_option maxRecDepth 100000
open PySem PySem.W PyProof.Rows
set_option maxHeartbeats 0 in
theorem PySem.Challenge.cw_suretricks_k85_whole_tables_and_deals_holds : PySem.Challenge.rw_suretricks_k85_whole_tables_and_deals.Holds := by
  refine head85 ?_
  k_fill
  refine L2.walk_of (l := PySem.Challenge.rw_suretricks_k85_whole_tables_and_deals) (n := 63) (k := 9) (x := "script") (CX := fun _ => L2.CX0) (sp := fun w => TL.spLaw _) rfl (by decide) rfl ⟨rfl, by decide, by decide⟩ (fun w h Y => PySem.W.kIn_of Y) ?F (fun _ _ a ns hl _ hS => ⟨a, ns, rfl, hS, hl, fun _ => rfl⟩) (fun _ _ _ _ _ h => h)
  case F =>
    intro w mg fa h KX G hmg
    refine' TL.all_mk KX G hmg ?l1 ?c1 ?k1 ?t2 ?l2 ?c2 ?k2 ?l3 ?c3 ?k3 ?l4 ?c4 ?k4 ?l5 ?c5 ?k5 ?l6 ?c6 ?k6 ?l7 ?c7 ?k7 ?l8 ?c8 ?k8 ?l9 ?c9 ?k9 ?l10 ?c10 ?k10 ?l11 ?c11 ?k11 ?l12 ?c12 ?k12 ?l13 ?c13 ?k13 ?l14 ?c14 ?k14 ?l15 ?c15 ?k15 ?l16 ?c16 ?k16 ?l17 ?c17 ?k17 ?l18 ?c18 ?k18 ?l19 ?c19 ?k19 ?l20 ?c20 ?k20 ?l21 ?c21 ?k21 ?a21 ?i21 ?l22 ?c22 ?k22 ?a22 ?i22 ?l23 ?c23 ?k23 ?a23 ?i23 ?l24 ?c24 ?k24 ?a24 ?i24 ?l25 ?c25 ?k25 ?l26 ?c26 ?k26 ?l27 ?c27 ?k27 ?l28 ?c28 ?k28 ?l29 ?c29 ?k29 ?l30 ?c30 ?k30 ?l31 ?c31 ?k31 ?l32 ?c32 ?k32 ?l33 ?c33 ?k33 ?l34 ?c34 ?k34 ?l35 ?c35 ?k35 ?l36 ?c36 ?k36 ?l37 ?c37 ?k37 ?l38 ?c38 ?k38 ?l39 ?c39 ?k39 ?l40 ?c40 ?k40 ?l41 ?c41 ?k41 ?l42 ?c42 ?k42 ?g_House ?pg_House ?hd_House ?po_House ?sa_House ?mk_House ?kc_House ?xc_House ?mr_House ?n_House_row ?n_House_at ?xs ?xt ?g_is_whole ?g_is_tuple_of ?g_copied ?g_is_count ?g_is_pack ?g_check_many_packs ?g_check_pack ?g_is_move_there ?g_moved_there ?g_is_said ?g_without ?g_over_there ?g_dealt_house ?g_changed ?g_moved_house ?g_is_act ?g_fits ?g_acted ?g_cut_there ?g_check_heaps ?g_heaps_there ?g_check_many_deals ?g_is_order ?g_check_house ?g__law_mixed ?g__law_draw ?g__law_same ?g__law_purse ?g__law_purses ?g_cut_by ?g_dealt_deals ?g__law_shuffled ?g_moved_packs ?g_heap_move ?g__law_chain ?g_read_off ?g_whole_pack ?g_law ?z_len ?z_isinstance ?z_all ?z_any ?z_sorted ?z_list ?z_tuple ?z_dict ?z_set ?z_range ?z_zip ?z_enumerate ?z_max ?z_min ?z_sum ?z_abs ?z_int ?z_str ?z_bool
    (case g_House => k_is)
    (case g_is_whole => k_is)
    (case g_is_tuple_of => k_is)
    (case g_copied => k_is)
    (case g_is_count => k_is)
    (case g_is_pack => k_is)
    (case g_check_many_packs => k_is)
    (case g_check_pack => k_is)
    (case g_is_move_there => k_is)
    (case g_moved_there => k_is)
    (case g_is_said => k_is)
    (case g_without => k_is)
    (case g_over_there => k_is)
    (case g_dealt_house => k_is)
    (case g_changed => k_is)
    (case g_moved_house => k_is)
    (case g_is_act => k_is)
    (case g_fits => k_is)
    (case g_acted => k_is)
    (case g_cut_there => k_is)
    (case g_check_heaps => k_is)
    (case g_heaps_there => k_is)
    (case g_check_many_deals => k_is)
    (case g_is_order => k_is)
    (case g_check_house => k_is)
    (case g__law_mixed => k_is)
    (case g__law_draw => k_is)
    (case g__law_same => k_is)
    (case g__law_purse => k_is)
    (case g__law_purses => k_is)
    (case g_cut_by => k_is)
    (case g_dealt_deals => k_is)
    (case g__law_shuffled => k_is)
    (case g_moved_packs => k_is)
    (case g_heap_move => k_is)
    (case g__law_chain => k_is)
    (case g_read_off => k_is)
    (case g_whole_pack => k_is)
    (case g_law => k_is)
    (case a21 => k_is)
    (case a22 => k_is)
    (case a23 => k_is)
    (case a24 => k_is)
    (case l1 => k_is)
    (case l2 => k_is)
    (case l3 => k_is)
    (case l4 => k_is)
    (case l5 => k_is)
    (case l6 => k_is)
    (case l7 => k_is)
    (case l8 => k_is)
    (case l9 => k_is)
    (case l10 => k_is)
    (case l11 => k_is)
    (case l12 => k_is)
    (case l13 => k_is)
    (case l14 => k_is)
    (case l15 => k_is)
    (case l16 => k_is)
    (case l17 => k_is)
    (case l18 => k_is)
    (case l19 => k_is)
    (case l20 => k_is)
    (case l21 => k_is)
    (case l22 => k_is)
    (case l23 => k_is)
    (case l24 => k_is)
    (case l25 => k_is)
    (case l26 => k_is)
    (case l27 => k_is)
    (case l28 => k_is)
    (case l29 => k_is)
    (case l30 => k_is)
    (case l31 => k_is)
    (case l32 => k_is)
    (case l33 => k_is)
    (case l34 => k_is)
    (case l35 => k_is)
    (case l36 => k_is)
    (case l37 => k_is)
    (case l38 => k_is)
    (case l39 => k_is)
    (case l40 => k_is)
    (case l41 => k_is)
    (case l42 => k_is)
    (case c1 => k_is)
    (case k1 => k_is)
    (case t2 => k_is)
    (case c2 => k_is)
    (case k2 => k_is)
    (case c3 => k_is)
    (case k3 => k_is)
    (case c4 => k_is)
    (case k4 => k_is)
    (case c5 => k_is)
    (case k5 => k_is)
    (case c6 => k_is)
    (case k6 => k_is)
    (case c7 => k_is)
    (case k7 => k_is)
    (case c8 => k_is)
    (case k8 => k_is)
    (case c9 => k_is)
    (case k9 => k_is)
    (case c10 => k_is)
    (case k10 => k_is)
    (case c11 => k_is)
    (case k11 => k_is)
    (case c12 => k_is)
    (case k12 => k_is)
    (case c13 => k_is)
    (case k13 => k_is)
    (case c14 => k_is)
    (case k14 => k_is)
    (case c15 => k_is)
    (case k15 => k_is)
    (case c16 => k_is)
    (case k16 => k_is)
    (case c17 => k_is)
    (case k17 => k_is)
    (case c18 => k_is)
    (case k18 => k_is)
    (case c19 => k_is)
    (case k19 => k_is)
    (case c20 => k_is)
    (case k20 => k_is)
    (case c21 => k_is)
    (case k21 => k_is)
    (case i21 => k_is)
    (case c22 => k_is)
    (case k22 => k_is)
    (case i22 => k_is)
    (case c23 => k_is)
    (case k23 => k_is)
    (case i23 => k_is)
    (case c24 => k_is)
    (case k24 => k_is)
    (case i24 => k_is)
    (case c25 => k_is)
    (case k25 => k_is)
    (case c26 => k_is)
    (case k26 => k_is)
    (case c27 => k_is)
    (case k27 => k_is)
    (case c28 => k_is)
    (case k28 => k_is)
    (case c29 => k_is)
    (case k29 => k_is)
    (case c30 => k_is)
    (case k30 => k_is)
    (case c31 => k_is)
    (case k31 => k_is)
    (case c32 => k_is)
    (case k32 => k_is)
    (case c33 => k_is)
    (case k33 => k_is)
    (case c34 => k_is)
    (case k34 => k_is)
    (case c35 => k_is)
    (case k35 => k_is)
    (case c36 => k_is)
    (case k36 => k_is)
    (case c37 => k_is)
    (case k37 => k_is)
    (case c38 => k_is)
    (case k38 => k_is)
    (case c39 => k_is)
    (case k39 => k_is)
    (case c40 => k_is)
    (case k40 => k_is)
    (case c41 => k_is)
    (case k41 => k_is)
    (case c42 => k_is)
    (case k42 => k_is)
    (case pg_House => k_is)
    (case hd_House => k_is)
    (case po_House => k_is)
    (case sa_House => k_is)
    (case mk_House => k_is)
    (case kc_House => k_is)
    (case xc_House => k_is)
    (case mr_House => k_is)
    (case n_House_row => k_is)
    (case n_House_at => k_is)
    (case xs => k_is)
    (case xt => k_is)
    (case z_len => k_is)
    (case z_isinstance => k_is)
    (case z_all => k_is)
    (case z_any => k_is)
    (case z_sorted => k_is)
    (case z_list => k_is)
    (case z_tuple => k_is)
    (case z_dict => k_is)
    (case z_set => k_is)
    (case z_range => k_is)
    (case z_zip => k_is)
    (case z_enumerate => k_is)
    (case z_max => k_is)
    (case z_min => k_is)
    (case z_sum => k_is)
    (case z_abs => k_is)
    (case z_int => k_is)
    (case z_str => k_is)
    (case z_bool => k_is)
end
