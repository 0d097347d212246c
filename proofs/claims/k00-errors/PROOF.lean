import PyProof.Rows.All
import Wide.All
import OpenK.AllK
import Wide.FinOn
import KE.KStateDown
import Lean
import HandS.Base
import HandS.Call
import HandS.List
import HandS.Comp
import HandS.Iter
import HandS.Ends
import HandS.Words
import HandS.Flow
import HandS.Style
import HandS.IsInst
import HandS.Zip
import HandS.Lambda
import HandS.HeadHook1
import HandS.Exc
import PyProof.TupleKey
import HandS.Defaults
import HandS.Wide
import HandS.TupAny
import HandS.Text
import PyProof.ReprRoads
import HandS.ExcIs
import KE.KExcIs
import HandS.HeadHook2
import HandS.HeadHook4
import HandS.HeadEnd
import HandS.HeadWalk
import KE.GoesEnum
import HandS.ExcInit
import KE.KExcSuper
import HandS.ExcValue
import HandS.ExcField
import HandS.Dict
import HandS.EndTab
import HandS.SetFor
import HandS.Strs
import HandS.SlotsOwn
import KE.KTypeName
import PyProof.Conv_bool
import HandS.Star
import HandS.Head0
import HandS.Head1
import HandS.Head2
import PySem.Challenge.RW_anydepth_k00_errors_papers_checks
set_option Elab.async false
set_option linter.all false
set_option maxRecDepth 100000
set_option maxHeartbeats 0
/-! Mr: a def's body as a plain function over trees with a small store of mutable objects. -/
namespace Mr
open PySem PySem.Spec PyProof.Rows L2

/-! ### names as numbers: the signs' codes as digits, the first one lowest -/
def dig : Nat → Nat → List Nat
  | 0, _ => []
  | k + 1, n => if n = 0 then [] else (n % 256) :: dig k (n / 256)
def nmS (n : Nat) : Str := ⟨(dig n n).toArray⟩
def undig : List Nat → Nat
  | [] => 0
  | d :: ds => d + 256 * undig ds
theorem undig_dig : ∀ (k n : Nat), n ≤ k → undig (dig k n) = n
  | 0, n, h => by
    have : n = 0 := by omega
    subst this
    rfl
  | k + 1, n, h => by
    unfold dig
    split
    · rename_i e; rw [e]; rfl
    · show n % 256 + 256 * undig (dig k (n / 256)) = n
      rw [undig_dig k (n / 256) (by omega)]
      omega
theorem nmS_inj {a b : Nat} (h : nmS a = nmS b) : a = b := by
  have e : (dig a a).toArray = (dig b b).toArray := congrArg Str.cps h
  have e2 : dig a a = dig b b := by
    have := congrArg Array.toList e
    simpa using this
  rw [← undig_dig a a (Nat.le_refl _), e2, undig_dig b b (Nat.le_refl _)]

/-! ### keys -/
/-- a key: an int, a text, a tuple of keys -/
inductive KT where
  | int (i : Int) | str (x : List Nat) | tup (ks : List KT)
def eqNs : List Nat → List Nat → Bool
  | [], [] => true
  | a :: as, b :: bs => Nat.beq a b && eqNs as bs
  | _, _ => false
theorem eqNs_iff : ∀ {a b : List Nat}, eqNs a b = true ↔ a = b
  | [], [] => by simp [eqNs]
  | [], _ :: _ => by simp [eqNs]
  | _ :: _, [] => by simp [eqNs]
  | a :: as, b :: bs => by
    unfold eqNs
    rw [Bool.and_eq_true, Nat.beq_eq, eqNs_iff, List.cons.injEq]
mutual
def KT.beq : KT → KT → Bool
  | .int i, .int j => decide (i = j)
  | .str x, .str y => eqNs x y
  | .tup xs, .tup ys => KT.beqL xs ys
  | _, _ => false
def KT.beqL : List KT → List KT → Bool
  | [], [] => true
  | x :: xs, y :: ys => KT.beq x y && KT.beqL xs ys
  | _, _ => false
end
mutual
theorem KT.beq_iff : ∀ {a b : KT}, KT.beq a b = true ↔ a = b
  | .int i, .int j => by simp [KT.beq]
  | .str x, .str y => by rw [KT.beq, eqNs_iff]; simp
  | .tup xs, .tup ys => by rw [KT.beq, KT.beqL_iff]; simp
  | .int _, .str _ => by simp [KT.beq]
  | .int _, .tup _ => by simp [KT.beq]
  | .str _, .int _ => by simp [KT.beq]
  | .str _, .tup _ => by simp [KT.beq]
  | .tup _, .int _ => by simp [KT.beq]
  | .tup _, .str _ => by simp [KT.beq]
theorem KT.beqL_iff : ∀ {a b : List KT}, KT.beqL a b = true ↔ a = b
  | [], [] => by simp [KT.beqL]
  | [], _ :: _ => by simp [KT.beqL]
  | _ :: _, [] => by simp [KT.beqL]
  | a :: as, b :: bs => by rw [KT.beqL, Bool.and_eq_true, KT.beq_iff, KT.beqL_iff, List.cons.injEq]
end
instance : DecidableEq KT := fun a b => if h : KT.beq a b = true then isTrue (KT.beq_iff.mp h) else isFalse fun e => h (KT.beq_iff.mpr e)
def ofKey : Key → KT
  | .inl i => .int i
  | .inr x => .str x.cps.toList
theorem ofKey_inj {a b : Key} (h : ofKey a = ofKey b) : a = b := by
  cases a with
  | inl i =>
    cases b with
    | inl j => cases h; rfl
    | inr y => cases h
  | inr x =>
    cases b with
    | inl j => cases h
    | inr y =>
      have e : x.cps.toList = y.cps.toList := KT.str.inj h
      obtain ⟨x⟩ := x; obtain ⟨y⟩ := y
      have e2 : x = y := by
        have := congrArg List.toArray e
        simpa using this
      rw [e2]
mutual
def nHash (w : World) : KT → Int
  | .int i => hashInt i
  | .str x => hashStr w ⟨x.toArray⟩
  | .tup ks => reduceHash (Builtin.Tuple.tupleHashOf (nHashL w ks))
def nHashL (w : World) : List KT → List Int
  | [] => []
  | k :: ks => nHash w k :: nHashL w ks
end
/-- what stands for an entry of a dict with tuple keys: the key, where its tuple lies, the value -/
abbrev KAV := KT × Addr × V
def entN (w : World) (x : KT × Addr × Value) : DictEntry := ⟨nHash w x.1, .ref x.2.1, x.2.2⟩
def withVs (xs : List KAV) (us : List Value) : List (KT × Addr × Value) := (xs.zip us).map fun p => (p.1.1, p.1.2.1, p.2)
/-- a dict with tuple keys -/
def DN (w : World) (a : Addr) (xs : List KAV) : HO := .ext fun h => ∃ o es ep us, h.get? a = some o ∧ o.ExactDict ∧ o.data = .dict es ep ∧ Vals (xs.map (·.2.2)) us ∧ es.toList = (withVs xs us).map (entN w)

/-! ### trees, the store -/
/-- the built-in types -/
def tyS : Nat → String
  | 0 => "NoneType" | 1 => "bool" | 2 => "int" | 3 => "str" | 4 => "list" | 5 => "tuple" | 6 => "dict" | 7 => "set" | 8 => "ValueError" | _ => "object"
inductive T where
  | non | bl (b : Bool) | int (i : Int) | str (x : List Nat) | ty (n : Nat) | ref (a : Addr)
  | tup (xs : List T) | lst (xs : List T) | kls (xs : List T) | mr (i : Nat) | dic (ks : List KT) (xs : List T)
  | lam (q : Str) (ps : Arguments) (b : Expr) (sc : Scope)
  /-- a class of the text by its name; an instance that nobody changes -/
  | cls (c : Nat) | obj (c : Nat) (ns : List Nat) (xs : List T)
  /-- an exception that was caught, or is not raised -/
  | err (c : Nat) (ns : List Nat) (xs : List T)
inductive MO where
  | lst (xs : List T) | dead | tab (P : Addr) (q : Str)
  | dic (ks : List KT) (xs : List T) | obj (c : Nat) (ns : List Nat) (xs : List T)
  /-- not to be written for now; a dict that is walked -/
  | lck (o : MO) | itd (o : MO)
abbrev Mu := List MO
abbrev Rho := List (Option T)
/-- an exception on its way: its class, its attributes -/
structure Exn where
  c : Nat
  ns : List Nat
  xs : List T

inductive Out (α : Type) where
  | ok (a : α) (m : Mu)
  | exc (x : Exn) (m : Mu)
  | bad
def Out.bind {α β : Type} (o : Out α) (k : α → Mu → Out β) : Out β := match o with
  | .ok a m => k a m
  | .exc x m => .exc x m
  | .bad => .bad
@[simp] theorem Out.bind_ok {α β : Type} (a : α) (m : Mu) (k : α → Mu → Out β) : (Out.ok a m).bind k = k a m := rfl
@[simp] theorem Out.bind_exc {α β : Type} (x : Exn) (m : Mu) (k : α → Mu → Out β) : (Out.exc x m : Out α).bind k = .exc x m := rfl
@[simp] theorem Out.bind_bad {α β : Type} (k : α → Mu → Out β) : (Out.bad : Out α).bind k = .bad := rfl
inductive Flo where
  | nx (r : Rho) | rt (t : T) | bk (r : Rho) | ct (r : Rho)

abbrev ME := Rho → Mu → Out T
abbrev MA := Rho → Mu → Out (List T)
abbrev MT := Rho → Mu → Out Bool
abbrev MS := Rho → Mu → Out Flo
abbrev MG := T → Rho → Mu → Out Rho

/-! ### what stands for what -/
/-- what is written of the module, the world -/
structure KW where
  K : PySem.W.Frag
  w : World
instance : Coe KW PySem.W.Frag := ⟨KW.K⟩
@[reducible] def kwOf (X : Cx) : KW := ⟨X.K, X.w⟩
/-- G: objects that others are at work on; F: objects that nobody changes; e: where the store's objects lie -/
structure Wd where
  G : Addr → Prop
  F : Addr → Prop
  e : List Addr
/-- a list that nobody changes -/
def LF (H : Hp) (W : Wd) (a : Addr) (vs : List V) : Prop := W.F a ∧ H a = some (.lst vs)
/-- a known list (the script, a list of the module) -/
def KF (K : KW) (H : Hp) (a : Addr) (vs : List V) : Prop := (∃ o, H a = some (.frz o (.lst vs))) ∨
    ∃ (o : Obj) (its : Array Value) (n : Nat), K.K.lookup a = some o ∧ o.cls = .type "list" ∧ o.dict = none ∧ o.data = .seq its n ∧ its.size ≤ sizeLine ∧ Vals vs its.toList
theorem LF.sq {K : PySem.W.Frag} {H : Hp} {W : Wd} {a : Addr} {vs : List V} (h : LF H W a vs) : SqL K H a vs := .inl (.inl h.2)
theorem KF.sq {K : KW} {H : Hp} {a : Addr} {vs : List V} (h : KF K H a vs) : SqL K H a vs := by
  rcases h with h | h
  · exact .inl (.inr h)
  · exact .inr h
/-- the lambda at a -/
def LamO (a : Addr) (q : Str) (ps : Arguments) (b : Expr) (sc : Scope) (pm : Value) (c : Addr) (ctv : Value) : HO := .ext fun h => h.get? a = some (PySem.W.kla_obj "<lambda>" q ps b sc [] pm c ctv)
/-! a key's value -/
mutual
inductive KR (K : PySem.W.Frag) (H : Hp) : KT → V → Prop
  | int (i : Int) : KR K H (.int i) (.int i)
  | str (x : List Nat) : KR K H (.str x) (.str ⟨x.toArray⟩)
  | tup {ks : List KT} {a : Addr} {vs : List V} : SqT K H a vs → KRL K H ks vs → KR K H (.tup ks) (.ref a)
inductive KRL (K : PySem.W.Frag) (H : Hp) : List KT → List V → Prop
  | nil : KRL K H [] []
  | cons {k : KT} {ks : List KT} {v : V} {vs : List V} : KR K H k v → KRL K H ks vs → KRL K H (k :: ks) (v :: vs)
end
/-- what is to be known of a dict with tuple keys beside its object -/
structure DNk (K : PySem.W.Frag) (H : Hp) (a : Addr) (xs : List KAV) : Prop where
  nd : (xs.map (·.1)).Nodup
  len : xs.length ≤ sizeLine
  sys : (a == sysModules) = false
  ky : ∀ x ∈ xs, (∃ ks, x.1 = .tup ks) ∧ KR K H x.1 (.ref x.2.1)
/-- an exception of the class at C with its dict at d, raised or not -/
def ErrO (C d a : Addr) : HO := .ext fun h => ∃ (oe : Obj) (vs : Array Value), h.get? a = some oe ∧ Zc (.ref C) (some d) oe ∧ oe.data = .fields vs
mutual
inductive Rp (K : KW) (H : Hp) (W : Wd) : T → V → Prop
  | non : Rp K H W .non .non
  | bl (b : Bool) : Rp K H W (.bl b) (.bl b)
  | int (i : Int) : Rp K H W (.int i) (.int i)
  | str (x : List Nat) : Rp K H W (.str x) (.str ⟨x.toArray⟩)
  | ty (n : Nat) : Rp K H W (.ty n) (.ty (tyS n))
  | ref (a : Addr) : Rp K H W (.ref a) (.ref a)
  | tup {ts : List T} {a : Addr} {vs : List V} : SqT K.K H a vs → RpL K H W ts vs → Rp K H W (.tup ts) (.ref a)
  | lst {ts : List T} {a : Addr} {vs : List V} : LF H W a vs → RpL K H W ts vs → Rp K H W (.lst ts) (.ref a)
  | kls {ts : List T} {a : Addr} {vs : List V} : KF K H a vs → RpL K H W ts vs → Rp K H W (.kls ts) (.ref a)
  | mr {i : Nat} {a : Addr} : W.e[i]? = some a → Rp K H W (.mr i) (.ref a)
  | dicK {ks : List Key} {ts : List T} {a : Addr} {vs : List V} {o : Obj} : W.F a → H a = some (.frz o (.dK (ks.zip vs))) → ks.length = vs.length → RpL K H W ts vs → Rp K H W (.dic (ks.map ofKey) ts) (.ref a)
  | dicN {xs : List KAV} {ts : List T} {a : Addr} {o : Obj} : W.F a → H a = some (.frz o (DN K.w a xs)) → DNk K.K H a xs → RpL K H W ts (xs.map (·.2.2)) → Rp K H W (.dic (xs.map (·.1)) ts) (.ref a)
  | lam {q : Str} {ps : Arguments} {b : Expr} {sc : Scope} {a : Addr} {pm : Value} {c : Addr} {ctv : Value} : W.F a → W.F c → H a = some (LamO a q ps b sc pm c ctv) → H c = some (LamX.CodeO c q) → Rp K H W (.lam q ps b sc) (.ref a)
  | cls (c : Nat) : Rp K H W (.cls c) (.ref (He.ga K.K (nmS c)))
  | obj {c : Nat} {ns : List Nat} {ts : List T} {a dx : Addr} {vs : List V} : W.F a → H a = some (.ins (He.ga K.K (nmS c)) dx ((ns.map nmS).zip vs)) → ns.length = vs.length → RpL K H W ts vs → Rp K H W (.obj c ns ts) (.ref a)
  | err {c : Nat} {ns : List Nat} {ts : List T} {a d : Addr} {vs : List V} : W.F a → H a = some (ErrO (He.ga K.K (nmS c)) d a) → W.F d → H d = some (.xd ((ns.map nmS).zip vs)) → ns.length = vs.length → RpL K H W ts vs → Rp K H W (.err c ns ts) (.ref a)
inductive RpL (K : KW) (H : Hp) (W : Wd) : List T → List V → Prop
  | nil : RpL K H W [] []
  | cons {t : T} {ts : List T} {v : V} {vs : List V} : Rp K H W t v → RpL K H W ts vs → RpL K H W (t :: ts) (v :: vs)
end
/-- what is read stays: the frozen objects, tuples, known ones; the store only grows -/
structure Rf (H : Hp) (W : Wd) (H' : Hp) (W' : Wd) : Prop where
  fz : ∀ a, W.F a → W'.F a ∧ H' a = H a
  tp : ∀ a xs, H a = some (.tup xs) → H' a = some (.tup xs)
  kn : ∀ a o u, H a = some (.frz o u) → H' a = some (.frz o u)
  et : ∀ (i : Nat) (a : Addr), W.e[i]? = some a → W'.e[i]? = some a
/-- what suffices that a tree stands for what it stood for -/
structure Rw (H : Hp) (W : Wd) (H' : Hp) (W' : Wd) : Prop where
  fz : ∀ a, W.F a → W'.F a ∧ H' a = H a
  tp : ∀ a xs, H a = some (.tup xs) → H' a = some (.tup xs)
  kt : ∀ a o xs, H a = some (.frz o (.tup xs)) → H' a = some (.frz o (.tup xs))
  kl : ∀ a o xs, H a = some (.frz o (.lst xs)) → H' a = some (.frz o (.lst xs))
  et : ∀ (i : Nat) (a : Addr), W.e[i]? = some a → W'.e[i]? = some a
theorem Rf.w {H H' : Hp} {W W' : Wd} (f : Rf H W H' W') : Rw H W H' W' := ⟨f.fz, f.tp, fun a o xs h => f.kn a o _ h, fun a o xs h => f.kn a o _ h, f.et⟩
/-- .. and the guarded ones -/
structure Fr (H : Hp) (W : Wd) (H' : Hp) (W' : Wd) : Prop extends Rf H W H' W' where
  gg : W'.G = W.G
  gz : ∀ a, W.G a → H' a = H a
/-- an object, and no table of code objects -/
def NT (o : Option HO) : Prop := o ≠ none ∧ ∀ ps, o ≠ some (.tbl ps)
theorem NT.of {o : HO} (h : ∀ ps, o ≠ .tbl ps) : NT (some o) := ⟨(fun z => nomatch z), fun ps z => h ps (Option.some.inj z)⟩
theorem NT.lst {xs : List V} : NT (some (.lst xs)) := NT.of fun _ z => nomatch z
/-- what may be written -/
def Wr (o : Option HO) : Prop := o ≠ none ∧ (∀ xs, o ≠ some (.tup xs)) ∧ (∀ ob u, o ≠ some (.frz ob u))
theorem Wr.of {o : HO} (h : ∀ xs, o ≠ .tup xs) (h' : ∀ ob u, o ≠ .frz ob u) : Wr (some o) := ⟨(fun z => nomatch z), fun xs z => h xs (Option.some.inj z), fun ob u z => h' ob u (Option.some.inj z)⟩
theorem Wr.lst {xs : List V} : Wr (some (.lst xs)) := Wr.of (fun _ z => nomatch z) (fun _ _ z => nomatch z)
theorem Wr.dK {xs : List (Key × V)} : Wr (some (.dK xs)) := Wr.of (fun _ z => nomatch z) (fun _ _ z => nomatch z)
theorem Wr.ins {C dx : Addr} {fs : List (Str × V)} : Wr (some (.ins C dx fs)) := Wr.of (fun _ z => nomatch z) (fun _ _ z => nomatch z)
theorem Wr.DN {w : World} {a : Addr} {xs : List KAV} : Wr (some (Mr.DN w a xs)) := Wr.of (fun _ z => nomatch z) (fun _ _ z => nomatch z)
theorem NT.DN {w : World} {a : Addr} {xs : List KAV} : NT (some (Mr.DN w a xs)) := NT.of fun _ z => nomatch z
/-- u at a, or locked there -/
def At (H : Hp) (a : Addr) (b : Bool) (u : HO) : Prop := H a = some u ∨ (b = true ∧ ∃ o, H a = some (.frz o u))
def RpOb (K : KW) (H : Hp) (W : Wd) (a : Addr) (b : Bool) : MO → Prop
  | .lst ts => ∃ vs, H a = some (.lst vs) ∧ RpL K H W ts vs
  | .dead => NT (H a)
  | .tab P q => a = P ∧ ∃ ps : Array Value, H P = some (.tbl ps) ∧ TriplesOk ps.toList ∧ ∀ (pos : Pos) (cv : Value), codeAmong pos ps.toList = some cv → ∃ c, cv = .ref c ∧ W.F c ∧ H c = some (LamX.CodeO c q)
  | .dic ks ts => (∃ (keys : List Key) (vs : List V), ks = keys.map ofKey ∧ At H a b (.dK (keys.zip vs)) ∧ keys.length = vs.length ∧ RpL K H W ts vs) ∨ (∃ xs : List KAV, ks = xs.map (·.1) ∧ At H a b (DN K.w a xs) ∧ DNk K.K H a xs ∧ RpL K H W ts (xs.map (·.2.2)))
  | .obj c ns ts => ∃ dx vs, H a = some (.ins (He.ga K.K (nmS c)) dx ((ns.map nmS).zip vs)) ∧ ns.length = vs.length ∧ RpL K H W ts vs
  | .lck o => RpOb K H W a b o
  | .itd o => RpOb K H W a true o
abbrev RpO (K : KW) (H : Hp) (W : Wd) (a : Addr) (o : MO) : Prop := RpOb K H W a false o
structure Ok (K : KW) (H : Hp) (W : Wd) (m : Mu) : Prop where
  len : W.e.length = m.length
  nd : W.e.Nodup
  nf : ∀ a, a ∈ W.e → ¬ W.F a ∧ ¬ W.G a
  fk : ∀ a, W.F a → NT (H a) ∧ ¬ W.G a
  gk : ∀ a, W.G a → NT (H a)
  ob : ∀ (i : Nat) (a : Addr) (o : MO), W.e[i]? = some a → m[i]? = some o → RpO K H W a o
structure RpSt (K : KW) (H : Hp) (W : Wd) (σ : L2.St) (ρ : Rho) : Prop where
  len : ρ.length = σ.length
  at_ : ∀ (i : Nat) (t : T), ρ[i]? = some (some t) → ∃ v, σ[i]? = some (some v) ∧ Rp K H W t v
/-- an exception's class and own dict -/
def RpX (K : KW) (H : Hp) (W : Wd) (x : Exn) (cls : Value) (d : Option Addr) : Prop := cls = .ref (He.ga K.K (nmS x.c)) ∧ ∃ dd vs, d = some dd ∧ W.F dd ∧ H dd = some (.xd ((x.ns.map nmS).zip vs)) ∧ x.ns.length = vs.length ∧ RpL K H W x.xs vs

section
variable {K : KW} {E : XK} {H H' H1 H2 : Hp} {W W' W1 W2 : Wd}
theorem Rf.refl : Rf H W H W := ⟨fun _ h => ⟨h, rfl⟩, fun _ _ h => h, fun _ _ _ h => h, fun _ _ h => h⟩
/-- the tables stay where all but lists stays -/
theorem tabS_nl {P : Addr} {q : Str} (t : LamX.TabS H P q) (e : ∀ b o, H b = some o → (∀ xs, o ≠ .lst xs) → H' b = some o) : LamX.TabS H' P q := by
  obtain ⟨ps, h1, h2, h3⟩ := t
  refine ⟨ps, e _ _ h1 (fun _ z => nomatch z), h2, fun pos cv hc => ?_⟩
  obtain ⟨c, e1, e2⟩ := h3 pos cv hc
  exact ⟨c, e1, e _ _ e2 (fun _ z => nomatch z)⟩
theorem tabs_nl {l : List (Addr × Str)} (t : LamX.Tabs l H) (e : ∀ b o, H b = some o → (∀ xs, o ≠ .lst xs) → H' b = some o) : LamX.Tabs l H' := fun p hp => tabS_nl (t p hp) e
theorem tabs_upd {l : List (Addr × Str)} {a : Addr} {o : HO} (t : LamX.Tabs l H) (h : H a = none ∨ ∃ ys, H a = some (.lst ys)) : LamX.Tabs l (upd H a o) := tabs_nl t fun b u hb n => by
  have hne : b ≠ a := fun z => by
    subst z
    rcases h with h | ⟨ys, h⟩
    · rw [h] at hb; cases hb
    · rw [h] at hb; cases hb; exact n ys rfl
  rw [upd_ne hne]
  exact hb
theorem Rf.trans (a : Rf H W H1 W1) (b : Rf H1 W1 H2 W2) : Rf H W H2 W2 :=
  ⟨fun x h => ⟨(b.fz x (a.fz x h).1).1, (b.fz x (a.fz x h).1).2.trans (a.fz x h).2⟩, fun x xs h => b.tp x xs (a.tp x xs h), fun x o u h => b.kn x o u (a.kn x o u h), fun i x h => b.et i x (a.et i x h)⟩
theorem Fr.refl : Fr H W H W := ⟨Rf.refl, rfl, fun _ _ => rfl⟩
theorem Fr.trans (a : Fr H W H1 W1) (b : Fr H1 W1 H2 W2) : Fr H W H2 W2 :=
  ⟨a.toRf.trans b.toRf, b.gg.trans a.gg, fun x h => (b.gz x (by rw [a.gg]; exact h)).trans (a.gz x h)⟩
theorem sqT_rw (f : Rw H W H' W') {a : Addr} {vs : List V} (h : SqT K H a vs) : SqT K H' a vs := by
  rcases h with (h | ⟨o, h⟩) | h
  · exact .inl (.inl (f.tp _ _ h))
  · exact .inl (.inr ⟨o, f.kt _ _ _ h⟩)
  · exact .inr h
theorem lf_rw (f : Rw H W H' W') {a : Addr} {vs : List V} (h : LF H W a vs) : LF H' W' a vs := ⟨(f.fz a h.1).1, (f.fz a h.1).2.trans h.2⟩
theorem kf_rw (f : Rw H W H' W') {a : Addr} {vs : List V} (h : KF K H a vs) : KF K H' a vs := h.imp (fun ⟨o, z⟩ => ⟨o, f.kl _ _ _ z⟩) id
mutual
theorem KR.rw (f : Rw H W H' W') : ∀ {k : KT} {v : V}, KR K.K H k v → KR K.K H' k v
  | _, _, .int i => .int i
  | _, _, .str x => .str x
  | _, _, .tup h l => .tup (sqT_rw f h) (KRL.rw f l)
theorem KRL.rw (f : Rw H W H' W') : ∀ {ks : List KT} {vs : List V}, KRL K.K H ks vs → KRL K.K H' ks vs
  | _, _, .nil => .nil
  | _, _, .cons h l => .cons (KR.rw f h) (KRL.rw f l)
end
theorem DNk.rw (f : Rw H W H' W') {a : Addr} {xs : List KAV} (h : DNk K.K H a xs) : DNk K.K H' a xs := ⟨h.nd, h.len, h.sys, fun x hx => ⟨(h.ky x hx).1, KR.rw f (h.ky x hx).2⟩⟩
mutual
theorem Rp.rw (f : Rw H W H' W') : ∀ {t : T} {v : V}, Rp K H W t v → Rp K H' W' t v
  | _, _, .non => .non
  | _, _, .bl b => .bl b
  | _, _, .int i => .int i
  | _, _, .str x => .str x
  | _, _, .ty n => .ty n
  | _, _, .ref a => .ref a
  | _, _, .tup h l => .tup (sqT_rw f h) (RpL.rw f l)
  | _, _, .lst h l => .lst (lf_rw f h) (RpL.rw f l)
  | _, _, .kls h l => .kls (kf_rw f h) (RpL.rw f l)
  | _, _, .mr h => .mr (f.et _ _ h)
  | _, _, .dicK h0 h1 h2 l => .dicK (f.fz _ h0).1 ((f.fz _ h0).2.trans h1) h2 (RpL.rw f l)
  | _, _, .dicN h0 h1 h2 l => .dicN (f.fz _ h0).1 ((f.fz _ h0).2.trans h1) (DNk.rw f h2) (RpL.rw f l)
  | _, _, .lam h1 h2 h3 h4 => .lam (f.fz _ h1).1 (f.fz _ h2).1 ((f.fz _ h1).2.trans h3) ((f.fz _ h2).2.trans h4)
  | _, _, .cls c => .cls c
  | _, _, .obj h h1 h2 l => .obj (f.fz _ h).1 ((f.fz _ h).2.trans h1) h2 (RpL.rw f l)
  | _, _, .err h h1 h2 h3 h4 l => .err (f.fz _ h).1 ((f.fz _ h).2.trans h1) (f.fz _ h2).1 ((f.fz _ h2).2.trans h3) h4 (RpL.rw f l)
theorem RpL.rw (f : Rw H W H' W') : ∀ {ts : List T} {vs : List V}, RpL K H W ts vs → RpL K H' W' ts vs
  | _, _, .nil => .nil
  | _, _, .cons h l => .cons (Rp.rw f h) (RpL.rw f l)
end
theorem sqT_rf (f : Rf H W H' W') {a : Addr} {vs : List V} (h : SqT K H a vs) : SqT K H' a vs := sqT_rw f.w h
theorem lf_rf (f : Rf H W H' W') {a : Addr} {vs : List V} (h : LF H W a vs) : LF H' W' a vs := lf_rw f.w h
theorem kf_rf (f : Rf H W H' W') {a : Addr} {vs : List V} (h : KF K H a vs) : KF K H' a vs := kf_rw f.w h
theorem KR.rf (f : Rf H W H' W') {k : KT} {v : V} (h : KR K.K H k v) : KR K.K H' k v := KR.rw f.w h
theorem KRL.rf (f : Rf H W H' W') {ks : List KT} {vs : List V} (h : KRL K.K H ks vs) : KRL K.K H' ks vs := KRL.rw f.w h
theorem DNk.rf (f : Rf H W H' W') {a : Addr} {xs : List KAV} (h : DNk K.K H a xs) : DNk K.K H' a xs := DNk.rw f.w h
theorem Rp.rf (f : Rf H W H' W') {t : T} {v : V} (h : Rp K H W t v) : Rp K H' W' t v := Rp.rw f.w h
theorem RpL.rf (f : Rf H W H' W') {ts : List T} {vs : List V} (h : RpL K H W ts vs) : RpL K H' W' ts vs := RpL.rw f.w h
theorem sqT_fr (f : Fr H W H' W') {a : Addr} {vs : List V} (h : SqT K H a vs) : SqT K H' a vs := sqT_rf f.toRf h
theorem lf_fr (f : Fr H W H' W') {a : Addr} {vs : List V} (h : LF H W a vs) : LF H' W' a vs := lf_rf f.toRf h
theorem Rp.fr (f : Fr H W H' W') {t : T} {v : V} (h : Rp K H W t v) : Rp K H' W' t v := h.rf f.toRf
theorem RpL.fr (f : Fr H W H' W') {ts : List T} {vs : List V} (h : RpL K H W ts vs) : RpL K H' W' ts vs := h.rf f.toRf
theorem RpL.length : ∀ {ts : List T} {vs : List V}, RpL K H W ts vs → ts.length = vs.length
  | _, _, .nil => rfl
  | _, _, .cons _ l => congrArg Nat.succ (RpL.length l)
theorem RpL.get : ∀ {ts : List T} {vs : List V} {i : Nat} {t : T}, RpL K H W ts vs → ts[i]? = some t → ∃ v, vs[i]? = some v ∧ Rp K H W t v
  | _, _, _, _, .nil, h => by simp at h
  | _, _, 0, _, .cons r _, h => by simp at h; subst h; exact ⟨_, rfl, r⟩
  | _, _, i + 1, t, .cons _ l, h => by
    obtain ⟨v, h1, h2⟩ := RpL.get (i := i) (t := t) l (by simpa using h)
    exact ⟨v, by simpa using h1, h2⟩
theorem RpL.getV : ∀ {ts : List T} {vs : List V} {i : Nat} {v : V}, RpL K H W ts vs → vs[i]? = some v → ∃ t, ts[i]? = some t ∧ Rp K H W t v
  | _, _, _, _, .nil, h => by simp at h
  | _, _, 0, _, .cons r _, h => by simp at h; subst h; exact ⟨_, rfl, r⟩
  | _, _, i + 1, t, .cons _ l, h => by
    obtain ⟨v, h1, h2⟩ := RpL.getV (i := i) (v := t) l (by simpa using h)
    exact ⟨v, by simpa using h1, h2⟩
theorem RpL.append : ∀ {ts us : List T} {vs ws : List V}, RpL K H W ts vs → RpL K H W us ws → RpL K H W (ts ++ us) (vs ++ ws)
  | _, _, _, _, .nil, s => s
  | _, _, _, _, .cons r l, s => .cons r (RpL.append l s)
theorem RpL.take : ∀ {ts : List T} {vs : List V} (n : Nat), RpL K H W ts vs → RpL K H W (ts.take n) (vs.take n)
  | _, _, 0, _ => .nil
  | _, _, _ + 1, .nil => .nil
  | _, _, n + 1, .cons r l => .cons r (RpL.take n l)
theorem RpL.drop : ∀ {ts : List T} {vs : List V} (n : Nat), RpL K H W ts vs → RpL K H W (ts.drop n) (vs.drop n)
  | _, _, 0, r => r
  | _, _, _ + 1, .nil => .nil
  | _, _, n + 1, .cons _ l => RpL.drop n l
theorem RpL.set {t : T} {v : V} (r : Rp K H W t v) : ∀ {ts : List T} {vs : List V} (i : Nat), RpL K H W ts vs → RpL K H W (ts.set i t) (vs.set i v)
  | _, _, _, .nil => .nil
  | _, _, 0, .cons _ l => .cons r l
  | _, _, i + 1, .cons q l => .cons q (RpL.set r i l)
theorem RpL.reverse {ts : List T} {vs : List V} (r : RpL K H W ts vs) : RpL K H W ts.reverse vs.reverse := by
  induction ts generalizing vs with
  | nil => cases r; exact .nil
  | cons t ts ih =>
    cases r with
    | cons h l =>
      rw [List.reverse_cons, List.reverse_cons]
      exact (ih l).append (.cons h .nil)
theorem RpL.eraseIdx : ∀ {ts : List T} {vs : List V} (i : Nat), RpL K H W ts vs → RpL K H W (ts.eraseIdx i) (vs.eraseIdx i)
  | _, _, _, .nil => .nil
  | _, _, 0, .cons _ l => l
  | _, _, i + 1, .cons q l => .cons q (RpL.eraseIdx i l)
theorem RpL.flatRep {ts : List T} {vs : List V} (r : RpL K H W ts vs) : ∀ k : Nat, RpL K H W (List.replicate k ts).flatten (List.replicate k vs).flatten
  | 0 => .nil
  | k + 1 => by
    rw [List.replicate_succ, List.replicate_succ, List.flatten_cons, List.flatten_cons]
    exact r.append (RpL.flatRep r k)
theorem RpL.ints : ∀ {ns : List Int} {vs : List V}, RpL K H W (ns.map T.int) vs → vs = ns.map V.int
  | [], _, r => by cases r; rfl
  | n :: ns, _, r => by
    cases r with
    | cons h l =>
      cases h
      rw [RpL.ints l] <;> rfl
theorem RpL.bls : ∀ {ns : List Bool} {vs : List V}, RpL K H W (ns.map T.bl) vs → vs = ns.map V.bl
  | [], _, r => by cases r; rfl
  | n :: ns, _, r => by
    cases r with
    | cons h l =>
      cases h
      rw [RpL.bls l] <;> rfl
theorem RpL.of_ints : ∀ {ns : List Int}, RpL K H W (ns.map T.int) (ns.map V.int)
  | [] => .nil
  | _ :: _ => .cons (.int _) RpL.of_ints
theorem RpSt.fr {σ : L2.St} {ρ : Rho} (f : Fr H W H' W') (r : RpSt K H W σ ρ) : RpSt K H' W' σ ρ :=
  ⟨r.len, fun i t h => let ⟨v, h1, h2⟩ := r.at_ i t h; ⟨v, h1, h2.fr f⟩⟩
theorem RpSt.set {σ : L2.St} {ρ : Rho} {t : T} {v : V} (r : RpSt K H W σ ρ) (h : Rp K H W t v) (i : Nat) : RpSt K H W (σ.set i (some v)) (ρ.set i (some t)) := by
  refine ⟨by rw [List.length_set, List.length_set]; exact r.len, fun j u hj => ?_⟩
  by_cases hij : i = j
  · subst hij
    have hl : i < ρ.length := by
      have := (List.getElem?_eq_some_iff.mp hj).1
      rwa [List.length_set] at this
    rw [List.getElem?_set_self hl] at hj
    cases hj
    refine ⟨v, ?_, h⟩
    rw [List.getElem?_set_self (by rw [← r.len]; exact hl)]
  · rw [List.getElem?_set_ne hij] at hj ⊢
    exact r.at_ j u hj
theorem Ok.get {m : Mu} (o : Ok K H W m) {i : Nat} {x : MO} (h : m[i]? = some x) : ∃ a, W.e[i]? = some a ∧ RpO K H W a x := by
  have hl : i < W.e.length := by rw [o.len]; exact (List.getElem?_eq_some_iff.mp h).1
  exact ⟨W.e[i], List.getElem?_eq_getElem hl, o.ob i _ x (List.getElem?_eq_getElem hl) h⟩
theorem At.ne {a : Addr} {b : Bool} {u : HO} (h : At H a b u) : H a ≠ none := by
  rcases h with h | ⟨_, o, h⟩
  · rw [h]; exact fun z => nomatch z
  · rw [h]; exact fun z => nomatch z
theorem At.of_eq {a : Addr} {b : Bool} {u : HO} (e : H' a = H a) (h : At H a b u) : At H' a b u := h.imp (fun h => e.trans h) fun ⟨hb, o, h⟩ => ⟨hb, o, e.trans h⟩
theorem RpOb.known {a : Addr} : ∀ {o : MO} {b : Bool}, RpOb K H W a b o → H a ≠ none
  | .lst ts, b, ⟨vs, h1, _⟩ => by rw [h1]; exact fun z => nomatch z
  | .dead, b, q => q.1
  | .tab P q, b, ⟨e, ps, h1, _⟩ => by rw [e, h1]; exact fun z => nomatch z
  | .dic ks ts, b, q => by
    rcases q with ⟨_, _, _, h, _⟩ | ⟨_, _, h, _⟩
    · exact h.ne
    · exact h.ne
  | .obj c ns ts, b, ⟨dx, vs, h1, _⟩ => by rw [h1]; exact fun z => nomatch z
  | .lck o, b, q => RpOb.known (o := o) (b := b) q
  | .itd o, b, q => RpOb.known (o := o) (b := true) q
theorem Ok.known {m : Mu} (o : Ok K H W m) {a : Addr} (h : a ∈ W.e) : H a ≠ none := by
  obtain ⟨i, hi⟩ := List.mem_iff_getElem?.mp h
  have hl : i < m.length := by rw [← o.len]; exact (List.getElem?_eq_some_iff.mp hi).1
  exact RpOb.known (o.ob i a _ hi (List.getElem?_eq_getElem hl))
theorem RpOb.rw {a : Addr} (f : Rw H W H' W') (h : H' a = H a) : ∀ {x : MO} {b : Bool}, RpOb K H W a b x → RpOb K H' W' a b x
  | .lst ts, b, r => by
    obtain ⟨vs, h1, h2⟩ := r
    exact ⟨vs, h.trans h1, h2.rw f⟩
  | .dead, b, r => by
    show NT (H' a)
    rw [h]
    exact r
  | .tab P q, b, r => by
    obtain ⟨rfl, ps, h1, h2, h3⟩ := r
    refine ⟨rfl, ps, h.trans h1, h2, fun pos cv hc => ?_⟩
    obtain ⟨c, e1, e2, e3⟩ := h3 pos cv hc
    exact ⟨c, e1, (f.fz c e2).1, (f.fz c e2).2.trans e3⟩
  | .dic ks ts, b, r => by
    rcases r with ⟨keys, vs, h1, h2, h3, h4⟩ | ⟨xs, h1, h2, h3, h4⟩
    · exact .inl ⟨keys, vs, h1, h2.of_eq h, h3, h4.rw f⟩
    · exact .inr ⟨xs, h1, h2.of_eq h, DNk.rw f h3, h4.rw f⟩
  | .obj c ns ts, b, r => by
    obtain ⟨dx, vs, h1, h2, h3⟩ := r
    exact ⟨dx, vs, h.trans h1, h2, h3.rw f⟩
  | .lck o, b, r => RpOb.rw f h (x := o) (b := b) r
  | .itd o, b, r => RpOb.rw f h (x := o) (b := true) r
theorem RpOb.rf {a : Addr} (f : Rf H W H' W') (h : H' a = H a) {x : MO} {b : Bool} (r : RpOb K H W a b x) : RpOb K H' W' a b x := RpOb.rw f.w h r
theorem RpO.rf {a : Addr} {x : MO} (f : Rf H W H' W') (h : H' a = H a) (r : RpO K H W a x) : RpO K H' W' a x := RpOb.rf f h r
theorem RpO.fr {a : Addr} {x : MO} (f : Fr H W H' W') (h : H' a = H a) (r : RpO K H W a x) : RpO K H' W' a x := r.rf f.toRf h
/-! ### the heap's steps -/
theorem fr_new {p : Addr} {o : HO} (hp : H p = none) (hg : W'.G = W.G) (hG : ∀ a, W.G a → H a ≠ none) (hF : ∀ a, W.F a → H a ≠ none) (hFF : ∀ a, W.F a → W'.F a) (he : ∀ (i : Nat) (a : Addr), W.e[i]? = some a → W'.e[i]? = some a) : Fr H W (upd H p o) W' where
  gg := hg
  gz := fun a h => upd_ne fun z => hG a h (by rw [z]; exact hp)
  fz := fun a h => ⟨hFF a h, upd_ne fun z => hF a h (by rw [z]; exact hp)⟩
  tp := fun a xs h => by rw [upd_ne (ne_of_none h hp)]; exact h
  kn := fun a o u h => by rw [upd_ne (ne_of_none h hp)]; exact h
  et := he
/-- the world with one more object that nobody changes, one more in the store, one more at work -/
def Wd.frz (W : Wd) (p : Addr) : Wd := { W with F := fun a => W.F a ∨ a = p }
def Wd.psh (W : Wd) (p : Addr) : Wd := { W with e := W.e ++ [p] }
def Wd.grd (W : Wd) (p : Addr) : Wd := { W with G := fun a => W.G a ∨ a = p }
theorem Ok.frozen {m : Mu} {p : Addr} {o : HO} (k : Ok K H W m) (hp : H p = none) (hno : ∀ ps, o ≠ .tbl ps := by intro _ z; cases z) : Fr H W (upd H p o) (W.frz p) ∧ Ok K (upd H p o) (W.frz p) m := by
  have f : Fr H W (upd H p o) (W.frz p) := fr_new hp rfl (fun a h => (k.gk a h).1) (fun a h => (k.fk a h).1.1) (fun _ h => .inl h) fun _ _ h => h
  refine ⟨f, k.len, k.nd, fun a ha => ⟨fun h => ?_, (k.nf a ha).2⟩, fun a h => ?_, fun a h => ?_, fun i a x h1 h2 => ?_⟩
  · rcases h with h | h
    · exact (k.nf a ha).1 h
    · exact k.known ha (by rw [h]; exact hp)
  · rcases h with h | h
    · rw [(f.fz a h).2]; exact k.fk a h
    · refine ⟨?_, fun g => (k.gk a g).1 (by rw [h]; exact hp)⟩
      rw [h, upd_same]; exact NT.of hno
  · rw [f.gz a h]; exact k.gk a h
  · have hne : a ≠ p := fun z => k.known (List.mem_of_getElem? h1) (by rw [z]; exact hp)
    exact (k.ob i a x h1 h2).fr f (upd_ne hne)
/-- a new object for the store -/
theorem Ok.push {m : Mu} {p : Addr} {vs : List V} {ts : List T} (k : Ok K H W m) (hp : H p = none) (r : RpL K H W ts vs) :
    Fr H W (upd H p (.lst vs)) (W.psh p) ∧ Ok K (upd H p (.lst vs)) (W.psh p) (m ++ [.lst ts]) := by
  have f : Fr H W (upd H p (.lst vs)) (W.psh p) := fr_new hp rfl (fun a h => (k.gk a h).1) (fun a h => (k.fk a h).1.1) (fun _ h => h) fun i a h => by
    show (W.e ++ [p])[i]? = some a
    rw [List.getElem?_append_left (List.getElem?_eq_some_iff.mp h).1]; exact h
  have hnp : p ∉ W.e := fun z => k.known z hp
  refine ⟨f, by show (W.e ++ [p]).length = _; simp [k.len], ?_, fun a ha => ?_, fun a h => ?_, fun a h => ?_, fun i a x h1 h2 => ?_⟩
  · refine List.nodup_append.mpr ⟨k.nd, by simp, fun a ha b hb => ?_⟩
    rintro rfl
    have : a = p := by simpa using hb
    exact hnp (this ▸ ha)
  · rcases List.mem_append.mp ha with ha | ha
    · exact k.nf a ha
    · have : a = p := by simpa using ha
      subst this
      exact ⟨fun h => (k.fk a h).1.1 hp, fun h => (k.gk a h).1 hp⟩
  · rw [(f.fz a h).2]; exact k.fk a h
  · rw [f.gz a h]; exact k.gk a h
  · have h1 : (W.e ++ [p])[i]? = some a := h1
    by_cases hi : i < W.e.length
    · rw [List.getElem?_append_left hi] at h1
      rw [List.getElem?_append_left (by rw [← k.len]; exact hi)] at h2
      have hne : a ≠ p := fun z => hnp (z ▸ List.mem_of_getElem? h1)
      exact (k.ob i a x h1 h2).fr f (upd_ne hne)
    · rw [List.getElem?_append_right (by omega)] at h1
      rw [List.getElem?_append_right (by have := k.len; omega), ← k.len] at h2
      cases hz : i - W.e.length with
      | zero =>
        rw [hz] at h1 h2
        cases h1; cases h2
        exact ⟨vs, upd_same, r.fr f⟩
      | succ n =>
        rw [hz] at h1
        simp at h1
/-- an object of the store is written -/
theorem Ok.write {m : Mu} {i : Nat} {a : Addr} {o : HO} {x : MO} (k : Ok K H W m) (h : W.e[i]? = some a) (hm : Wr (H a)) (r : RpO K (upd H a o) W a x) :
    Fr H W (upd H a o) W ∧ Ok K (upd H a o) W (m.set i x) := by
  obtain ⟨hnf, hng⟩ := k.nf a (List.mem_of_getElem? h)
  have f : Fr H W (upd H a o) W := by
    refine ⟨⟨fun b hb => ⟨hb, upd_ne fun z => hnf (z ▸ hb)⟩, fun b xs hb => ?_, fun b o u hb => ?_, fun _ _ q => q⟩, rfl, fun b hb => upd_ne fun z => hng (z ▸ hb)⟩
    · rw [upd_ne (fun z => hm.2.1 xs (by rw [← z]; exact hb))]; exact hb
    · rw [upd_ne (fun z => hm.2.2 o u (by rw [← z]; exact hb))]; exact hb
  refine ⟨f, by rw [List.length_set]; exact k.len, k.nd, k.nf, fun b hb => ?_, fun b hb => ?_, fun j b y h1 h2 => ?_⟩
  · rw [(f.fz b hb).2]; exact k.fk b hb
  · rw [f.gz b hb]; exact k.gk b hb
  · by_cases hj : i = j
    · subst hj
      rw [h] at h1; cases h1
      have hl : i < m.length := by rw [← k.len]; exact (List.getElem?_eq_some_iff.mp h).1
      rw [List.getElem?_set_self hl] at h2
      cases h2
      exact r
    · rw [List.getElem?_set_ne hj] at h2
      have hne : b ≠ a := fun z => hj (by
        subst z
        obtain ⟨l1, g1⟩ := List.getElem?_eq_some_iff.mp h
        obtain ⟨l2, g2⟩ := List.getElem?_eq_some_iff.mp h1
        exact (List.getElem_inj k.nd).mp (g1.trans g2.symm))
      exact (k.ob j b y h1 h2).fr f (upd_ne hne)
/-- the same world, other guards -/
def Wd.un (W : Wd) (G0 : Addr → Prop) : Wd := { W with G := G0 }
theorem rf_un {G0 : Addr → Prop} : Rf H W H (W.un G0) := ⟨fun _ h => ⟨h, rfl⟩, fun _ _ h => h, fun _ _ _ h => h, fun _ _ h => h⟩
theorem rf_nu {G0 : Addr → Prop} : Rf H (W.un G0) H W := ⟨fun _ h => ⟨h, rfl⟩, fun _ _ h => h, fun _ _ _ h => h, fun _ _ h => h⟩
theorem Ok.un {m : Mu} {G0 : Addr → Prop} (k : Ok K H W m) (hG : ∀ a, G0 a → W.G a) : Ok K H (W.un G0) m :=
  ⟨k.len, k.nd, fun a ha => ⟨(k.nf a ha).1, fun g => (k.nf a ha).2 (hG a g)⟩, fun a h => ⟨(k.fk a h).1, fun g => (k.fk a h).2 (hG a g)⟩, fun a g => k.gk a (hG a g), fun i a x h1 h2 => (k.ob i a x h1 h2).rf rf_un rfl⟩
theorem Fr.un {G0 : Addr → Prop} (f : Fr H W H' W') (hG : ∀ a, G0 a → W.G a) : Fr H (W.un G0) H' (W'.un G0) :=
  ⟨rf_nu.trans (f.toRf.trans rf_un), rfl, fun a g => f.gz a (hG a g)⟩
/-- a new list is put under guard while one works on it -/
theorem Ok.guard {m : Mu} {p : Addr} {o : HO} (k : Ok K H W m) (hp : H p = none) (hno : ∀ ps, o ≠ .tbl ps := by intro _ z; cases z) : Fr H W (upd H p o) ((W.grd p).un W.G) ∧ Ok K (upd H p o) (W.grd p) m := by
  have f : Fr H W (upd H p o) ((W.grd p).un W.G) := fr_new hp rfl (fun a h => (k.gk a h).1) (fun a h => (k.fk a h).1.1) (fun _ h => h) fun _ _ h => h
  refine ⟨f, k.len, k.nd, fun a ha => ⟨(k.nf a ha).1, fun g => ?_⟩, fun a h => ⟨by rw [(f.fz a h).2]; exact (k.fk a h).1, fun g => ?_⟩, fun a g => ?_, fun i a x h1 h2 => ?_⟩
  · rcases g with g | g
    · exact (k.nf a ha).2 g
    · exact k.known ha (by rw [g]; exact hp)
  · rcases g with g | g
    · exact (k.fk a h).2 g
    · exact (k.fk a h).1.1 (by rw [g]; exact hp)
  · rcases g with g | g
    · rw [f.gz a g]; exact k.gk a g
    · rw [g, upd_same]; exact NT.of hno
  · have hne : a ≠ p := fun z => k.known (List.mem_of_getElem? h1) (by rw [z]; exact hp)
    exact (k.ob i a x h1 h2).rf (f.toRf.trans rf_nu) (upd_ne hne)
/-- the guarded list is written by who guards it -/
theorem Ok.gwrite {m : Mu} {p : Addr} {vs ws : List V} {G0 : Addr → Prop} (k : Ok K H W m) (hg : W.G p) (h0 : ¬ G0 p) (hG : ∀ a, G0 a → W.G a) (hp : H p = some (.lst vs)) : Fr H (W.un G0) (upd H p (.lst ws)) (W.un G0) ∧ Ok K (upd H p (.lst ws)) W m ∧ Rf H W (upd H p (.lst ws)) W := by
  have nF : ¬ W.F p := fun z => (k.fk p z).2 hg
  have f : Rf H W (upd H p (.lst ws)) W := by
    refine ⟨fun b hb => ⟨hb, upd_ne fun z => nF (z ▸ hb)⟩, fun b xs hb => ?_, fun b o u hb => ?_, fun _ _ q => q⟩
    · rw [upd_ne (ne_of hb hp fun z => nomatch z)]; exact hb
    · rw [upd_ne (ne_of hb hp fun z => nomatch z)]; exact hb
  refine ⟨⟨rf_nu.trans (f.trans rf_un), rfl, fun a g => upd_ne fun z => h0 (z ▸ g)⟩, ⟨k.len, k.nd, k.nf, fun a h => ⟨by rw [(f.fz a h).2]; exact (k.fk a h).1, (k.fk a h).2⟩, fun a g => ?_, fun i a x h1 h2 => ?_⟩, f⟩
  · by_cases z : a = p
    · subst z; rw [upd_same]; exact NT.lst
    · rw [upd_ne z]; exact k.gk a g
  · have hne : a ≠ p := fun z => (k.nf a (List.mem_of_getElem? h1)).2 (z ▸ hg)
    exact (k.ob i a x h1 h2).rf f (upd_ne hne)
/-- the guarded list is frozen, or goes to the store -/
theorem Ok.gfreeze {m : Mu} {p : Addr} {G0 : Addr → Prop} (k : Ok K H W m) (hg : W.G p) (h0 : ¬ G0 p) (hG : ∀ a, G0 a → W.G a) : Fr H (W.un G0) H ((W.un G0).frz p) ∧ Ok K H ((W.un G0).frz p) m := by
  have f : Fr H (W.un G0) H ((W.un G0).frz p) := ⟨⟨fun _ h => ⟨.inl h, rfl⟩, fun _ _ h => h, fun _ _ _ h => h, fun _ _ h => h⟩, rfl, fun _ _ => rfl⟩
  refine ⟨f, k.len, k.nd, fun a ha => ⟨fun h => ?_, fun g => (k.nf a ha).2 (hG a g)⟩, fun a h => ?_, fun a g => k.gk a (hG a g), fun i a x h1 h2 => (k.ob i a x h1 h2).rf (rf_un.trans f.toRf) rfl⟩
  · rcases h with h | h
    · exact (k.nf a ha).1 h
    · exact (k.nf a ha).2 (by rw [h]; exact hg)
  · rcases h with h | h
    · exact ⟨(k.fk a h).1, fun g => (k.fk a h).2 (hG a g)⟩
    · rw [h]
      exact ⟨k.gk p hg, h0⟩
theorem Ok.gpush {m : Mu} {p : Addr} {G0 : Addr → Prop} {vs : List V} {ts : List T} (k : Ok K H W m) (hg : W.G p) (h0 : ¬ G0 p) (hG : ∀ a, G0 a → W.G a) (hp : H p = some (.lst vs)) (r : RpL K H W ts vs) :
    Fr H (W.un G0) H ((W.un G0).psh p) ∧ Ok K H ((W.un G0).psh p) (m ++ [.lst ts]) := by
  have f : Fr H (W.un G0) H ((W.un G0).psh p) := ⟨⟨fun _ h => ⟨h, rfl⟩, fun _ _ h => h, fun _ _ _ h => h, fun i a h => by
    have h : W.e[i]? = some a := h
    show (W.e ++ [p])[i]? = some a
    rw [List.getElem?_append_left (List.getElem?_eq_some_iff.mp h).1]; exact h⟩, rfl, fun _ _ => rfl⟩
  have hnp : p ∉ W.e := fun z => (k.nf p z).2 hg
  refine ⟨f, by show (W.e ++ [p]).length = _; simp [k.len], ?_, fun a ha => ?_, fun a h => ⟨(k.fk a h).1, fun g => (k.fk a h).2 (hG a g)⟩, fun a g => k.gk a (hG a g), fun i a x h1 h2 => ?_⟩
  · refine List.nodup_append.mpr ⟨k.nd, by simp, fun a ha b hb => ?_⟩
    rintro rfl
    have : a = p := by simpa using hb
    exact hnp (this ▸ ha)
  · rcases List.mem_append.mp ha with ha | ha
    · exact ⟨(k.nf a ha).1, fun g => (k.nf a ha).2 (hG a g)⟩
    · have : a = p := by simpa using ha
      subst this
      exact ⟨fun h => (k.fk a h).2 hg, h0⟩
  · have h1 : (W.e ++ [p])[i]? = some a := h1
    by_cases hi : i < W.e.length
    · rw [List.getElem?_append_left hi] at h1
      rw [List.getElem?_append_left (by rw [← k.len]; exact hi)] at h2
      exact (k.ob i a x h1 h2).rf (rf_un.trans f.toRf) rfl
    · rw [List.getElem?_append_right (by omega)] at h1
      rw [List.getElem?_append_right (by have := k.len; omega), ← k.len] at h2
      cases hz : i - W.e.length with
      | zero =>
        rw [hz] at h1 h2
        cases h1; cases h2
        exact ⟨vs, hp, r.rf (rf_un.trans f.toRf)⟩
      | succ n =>
        rw [hz] at h1
        simp at h1
end

/-! ### what is wanted of an answer -/
/-- R: how the answer stands for the value -/
def Po {α β : Type} (K : KW) (E : XK) (R : Hp → Wd → α → β → Prop) (H : Hp) (W : Wd) (Q : β → Hp → Prop) : Out α → Prop
  | .ok a m => ∀ H' W' v, Fr H W H' W' → Ok K H' W' m → R H' W' a v → Q v H'
  | .exc x m => ∀ H' W' c d, Fr H W H' W' → Ok K H' W' m → RpX K H' W' x c d → E c d H'
  | .bad => False
section
variable {K : KW} {E : XK} {H H' : Hp} {W W' : Wd} {α β γ δ : Type}
  {R : Hp → Wd → α → β → Prop} {R' : Hp → Wd → γ → δ → Prop}
theorem Po.fr {Q : β → Hp → Prop} {o : Out α} (f : Fr H W H' W') (h : Po K E R H W Q o) : Po K E R H' W' Q o := by
  cases o with
  | ok a m => exact fun H2 W2 v f2 k r => h H2 W2 v (f.trans f2) k r
  | exc x m => exact fun H2 W2 c d f2 k r => h H2 W2 c d (f.trans f2) k r
  | bad => exact h
theorem Po.bind {Q : δ → Hp → Prop} {Q1 : β → Hp → Prop} {o : Out α} {k : α → Mu → Out γ} (h : Po K E R' H W Q (o.bind k))
    (hk : ∀ a m1, o = .ok a m1 → ∀ H1 W1 v, Fr H W H1 W1 → Ok K H1 W1 m1 → R H1 W1 a v → Po K E R' H1 W1 Q (k a m1) → Q1 v H1) : Po K E R H W Q1 o := by
  cases o with
  | ok a m => exact fun H1 W1 v f ok r => hk a m rfl H1 W1 v f ok r (Po.fr f h)
  | exc x m => exact h
  | bad => exact h.elim
theorem Po.go {Q : β → Hp → Prop} {a : α} {m : Mu} {v : β} (h : Po K E R H W Q (.ok a m)) (f : Fr H W H' W') (k : Ok K H' W' m) (r : R H' W' a v) : Q v H' := h H' W' v f k r
end
abbrev PoE (K : KW) (E : XK) := Po (α := T) (β := V) K E (Rp K)
abbrev PoA (K : KW) (E : XK) := Po (α := List T) (β := List V) K E (RpL K)
abbrev PoT (K : KW) (E : XK) := Po (α := Bool) (β := Bool) K E (fun _ _ a b => b = a)

def tM (K : KW) (E : XK) (m : ME) : TE := fun σ H Q => ∃ W ρ μ, Ok K H W μ ∧ RpSt K H W σ ρ ∧ PoE K E H W Q (m ρ μ)
def tMA (K : KW) (E : XK) (m : MA) : TA := fun σ H Q => ∃ W ρ μ, Ok K H W μ ∧ RpSt K H W σ ρ ∧ PoA K E H W Q (m ρ μ)
def tMT (K : KW) (E : XK) (m : MT) : TT := fun σ H Q => ∃ W ρ μ, Ok K H W μ ∧ RpSt K H W σ ρ ∧ PoT K E H W Q (m ρ μ)

abbrev JE (X : Cx) (E : XK) (e : Expr) (m : ME) : Prop := PE X e (tM (kwOf X) E m)
abbrev JT (X : Cx) (E : XK) (e : Expr) (m : MT) : Prop := PT X e (tMT (kwOf X) E m)
abbrev JA (X : Cx) (E : XK) (es : List Expr) (m : MA) : Prop := PA X es (tMA (kwOf X) E m)

theorem PE_imp {X : Cx} {e : Expr} {t t' : TE} (h : PE X e t) (hi : ∀ σ H Q, t' σ H Q → t σ H Q) : PE X e t' := ⟨fun pins s σ H Q I q => h.run pins s σ H Q I (hi σ H Q q)⟩
theorem PT_imp {X : Cx} {e : Expr} {t t' : TT} (h : PT X e t) (hi : ∀ σ H Q, t' σ H Q → t σ H Q) : PT X e t' := ⟨fun pins s σ H Q I q => h.run pins s σ H Q I (hi σ H Q q)⟩
theorem PA_imp {X : Cx} {e : List Expr} {t t' : TA} (h : PA X e t) (hi : ∀ σ H Q, t' σ H Q → t σ H Q) : PA X e t' := ⟨fun pos pins s σ H Q I q => h.run pos pins s σ H Q I (hi σ H Q q)⟩
theorem PS_imp {X : Cx} {e : Stmt} {t t' : TS} (h : PS X e t) (hi : ∀ D σ H, t' D σ H → t D σ H) : PS X e t' := ⟨fun pins s σ H D I q => h.run pins s σ H D I (hi D σ H q)⟩
theorem PSs_imp {X : Cx} {e : List Stmt} {t t' : TS} (h : PSs X e t) (hi : ∀ D σ H, t' D σ H → t D σ H) : PSs X e t' := ⟨fun pins s σ H D I q => h.run pins s σ H D I (hi D σ H q)⟩

/-! ### names, constants -/
def mVar (i : Nat) : ME := fun ρ μ => match ρ[i]? with
  | some (some t) => .ok t μ
  | _ => .bad
def mC (t : T) : ME := fun _ μ => .ok t μ
section
variable {X : Cx} {E : XK} {pos p : Pos}
theorem je_var (i : Nat) {x : Str} (h : PE X (.Name x pos) (tVar i)) : JE X E (.Name x pos) (mVar i) := PE_imp h fun σ H Q ⟨W, ρ, μ, k, st, q⟩ => by
  unfold mVar at q
  cases h1 : ρ[i]? with
  | none => rw [h1] at q; exact q.elim
  | some o =>
    cases o with
    | none => rw [h1] at q; exact q.elim
    | some t =>
      rw [h1] at q
      obtain ⟨v, h2, r⟩ := st.at_ i t h1
      exact ⟨v, h2, Po.go (R := Rp (kwOf X)) q Fr.refl k r⟩
theorem je_c {e : Expr} {t : T} {v : V} (h : PE X e (tC v)) (r : ∀ H W, Rp (kwOf X) H W t v) : JE X E e (mC t) := PE_imp h fun σ H Q ⟨W, ρ, μ, k, st, q⟩ => Po.go (R := Rp (kwOf X)) q Fr.refl k (r _ _)
theorem je_int {i : Int} {j : Nat} : JE X E (.Constant (.int i) j pos) (mC (.int i)) := je_c pe_int fun _ _ => .int i
theorem je_bl {b : Bool} {j : Nat} : JE X E (.Constant (.bool b) j pos) (mC (.bl b)) := je_c pe_bl fun _ _ => .bl b
theorem je_non {j : Nat} : JE X E (.Constant .none j pos) (mC .non) := je_c pe_non fun _ _ => .non
theorem je_str {x : Str} {j : Nat} (cs : List Nat) (h : x = ⟨cs.toArray⟩ := by rfl) : JE X E (.Constant (.str x) j pos) (mC (.str cs)) := by
  subst h
  exact je_c pe_str fun _ _ => .str cs
end

/-! ### argument lists -/
def mNil : MA := fun _ μ => .ok [] μ
def mCons (m : ME) (r : MA) : MA := fun ρ μ => (m ρ μ).bind fun t μ1 => (r ρ μ1).bind fun ts μ2 => .ok (t :: ts) μ2
section
variable {X : Cx} {E : XK} {pos : Pos}
theorem ja_nil : JA X E [] mNil := PA_imp pa_nil fun σ H Q ⟨W, ρ, μ, k, st, q⟩ => Po.go (R := RpL (kwOf X)) q Fr.refl k .nil
theorem ja_cons {e : Expr} {es : List Expr} {m : ME} {r : MA} (ha : JE X E e m) (hr : JA X E es r) (hs : starEach (e :: es) X.env = (false, eval e X.env) :: starEach es X.env := by rfl) : JA X E (e :: es) (mCons m r) :=
  PA_imp (pa_cons ha hr hs) fun σ H Q ⟨W, ρ, μ, k, st, q⟩ => ⟨W, ρ, μ, k, st, Po.bind (R := Rp (kwOf X)) q fun t μ1 _ H1 W1 v f1 k1 r1 q1 =>
    ⟨W1, ρ, μ1, k1, st.fr f1, Po.bind (R := RpL (kwOf X)) q1 fun ts μ2 _ H2 W2 vs f2 k2 r2 q2 => Po.go (R := RpL (kwOf X)) q2 Fr.refl k2 (.cons (r1.fr f2) r2)⟩⟩
end

/-! ### operations on values -/
abbrev G2 := T → T → Mu → Out T
abbrev G1 := T → Mu → Out T
abbrev GL := List T → Mu → Out T
def rM (K : KW) (E : XK) (g : G2) : R2 := fun x y H Q => ∃ W μ tx ty, Ok K H W μ ∧ Rp K H W tx x ∧ Rp K H W ty y ∧ PoE K E H W Q (g tx ty μ)
def rMU (K : KW) (E : XK) (g : G1) : V → Hp → VK → Prop := fun x H Q => ∃ W μ tx, Ok K H W μ ∧ Rp K H W tx x ∧ PoE K E H W Q (g tx μ)
def rML (K : KW) (E : XK) (g : GL) : List V → Hp → VK → Prop := fun xs H Q => ∃ W μ ts, Ok K H W μ ∧ RpL K H W ts xs ∧ PoE K E H W Q (g ts μ)
def mOp (g : G2) (ma mb : ME) : ME := fun ρ μ => (ma ρ μ).bind fun x μ1 => (mb ρ μ1).bind fun y μ2 => g x y μ2
def mUn (g : G1) (ma : ME) : ME := fun ρ μ => (ma ρ μ).bind fun x μ1 => g x μ1
def mCl (g : GL) (ma : MA) : ME := fun ρ μ => (ma ρ μ).bind fun x μ1 => g x μ1
section
variable {X : Cx} {E : XK} {pos p : Pos} {a b c : Expr} {ma mb mc : ME}
theorem tOp_M {g : G2} {r : R2} (hr : ∀ x y H Q, rM (kwOf X) E g x y H Q → r x y H Q) : ∀ σ H Q, tM (kwOf X) E (mOp g ma mb) σ H Q → tOp r (tM (kwOf X) E ma) (tM (kwOf X) E mb) σ H Q :=
  fun σ H Q ⟨W, ρ, μ, k, st, q⟩ => ⟨W, ρ, μ, k, st, Po.bind (R := Rp (kwOf X)) q fun x μ1 _ H1 W1 v f1 k1 r1 q1 =>
    ⟨W1, ρ, μ1, k1, st.fr f1, Po.bind (R := Rp (kwOf X)) q1 fun y μ2 _ H2 W2 u f2 k2 r2 q2 => hr _ _ _ _ ⟨W2, μ2, x, y, k2, r1.fr f2, r2, q2⟩⟩⟩
theorem je_op {op : Operator} {g : G2} (ho : OpR X (binaryOp op) (rM (kwOf X) E g)) (ha : JE X E a ma) (hb : JE X E b mb) : JE X E (.BinOp a op b pos) (mOp g ma mb) := PE_imp (pe_op ho ha hb) (tOp_M fun _ _ _ _ h => h)
theorem je_un {op : UnaryOp} {g : G1} (ho : UnR X (unaryOp op) (rMU (kwOf X) E g)) (ha : JE X E a ma) : JE X E (.UnaryOp op a pos) (mUn g ma) :=
  PE_imp (pe_un ho ha) fun σ H Q ⟨W, ρ, μ, k, st, q⟩ => ⟨W, ρ, μ, k, st, Po.bind (R := Rp (kwOf X)) q fun x μ1 _ H1 W1 v f1 k1 r1 q1 => ⟨W1, μ1, x, k1, r1, q1⟩⟩
theorem je_cmp {op : CmpOp} {g : G2} (ho : OpR X (compareOp op) (rM (kwOf X) E g)) (ha : JE X E a ma) (hb : JE X E b mb) (hm : behindInMarks op b = false) : JE X E (.Compare a [op] [b] pos) (mOp g ma mb) := PE_imp (pe_cmpR ho ha hb hm) (tOp_M fun _ _ _ _ h => h)
def asBl (o : Out T) : Out Bool := o.bind fun t μ => match t with
  | .bl b => .ok b μ
  | _ => .bad
theorem Po.asBl {K : KW} {E : XK} {H : Hp} {W : Wd} {Q : Bool → Hp → Prop} {o : Out T} (h : PoT K E H W Q (asBl o)) : PoE K E H W (fun x H' => ∃ k, x = .bl k ∧ Q k H') o :=
  Po.bind (R := Rp K) (R' := fun _ _ a b => b = a) h fun t μ _ H1 W1 v f k r q => by
    cases t with
    | bl b =>
      cases r
      exact ⟨b, rfl, Po.go (R := fun _ _ a b => b = a) q Fr.refl k rfl⟩
    | _ => exact q.elim
def mTst (m : ME) : MT := fun ρ μ => asBl (m ρ μ)
theorem jt_cmp {op : CmpOp} {g : G2} (ho : OpR X (compareOp op) (rM (kwOf X) E g)) (ha : JE X E a ma) (hb : JE X E b mb) (hm : behindInMarks op b = false) : JT X E (.Compare a [op] [b] pos) (mTst (mOp g ma mb)) :=
  PT_imp (pt_cmpR ho ha hb hm) fun σ H Q ⟨W, ρ, μ, k, st, q⟩ => tOp_M (fun _ _ _ _ h => h) σ H _ ⟨W, ρ, μ, k, st, Po.asBl q⟩
/-- a op b op' c -/
def mChain (g g' : G2) (ma mb mc : ME) : ME := fun ρ μ => (ma ρ μ).bind fun x μ1 => (mb ρ μ1).bind fun y μ2 => (g x y μ2).bind fun z μ3 => match z with
  | .bl true => (mc ρ μ3).bind fun w μ4 => g' y w μ4
  | .bl false => .ok (.bl false) μ3
  | _ => .bad
theorem tChain_M {g g' : G2} : ∀ σ H Q, tM (kwOf X) E (mChain g g' ma mb mc) σ H Q → tChain (rM (kwOf X) E g) (rM (kwOf X) E g') (tM (kwOf X) E ma) (tM (kwOf X) E mb) (tM (kwOf X) E mc) σ H Q :=
  fun σ H Q ⟨W, ρ, μ, k, st, q⟩ => ⟨W, ρ, μ, k, st, Po.bind (R := Rp (kwOf X)) q fun x μ1 _ H1 W1 v f1 k1 r1 q1 =>
    ⟨W1, ρ, μ1, k1, st.fr f1, Po.bind (R := Rp (kwOf X)) q1 fun y μ2 _ H2 W2 u f2 k2 r2 q2 =>
      ⟨W2, μ2, x, y, k2, r1.fr f2, r2, Po.bind (R := Rp (kwOf X)) q2 fun z μ3 _ H3 W3 w f3 k3 r3 q3 => by
        cases z with
        | bl b =>
          cases r3
          refine ⟨b, rfl, ?_⟩
          cases b with
          | true =>
            rw [if_pos rfl]
            exact ⟨W3, ρ, μ3, k3, ((st.fr f1).fr f2).fr f3, Po.bind (R := Rp (kwOf X)) q3 fun w' μ4 _ H4 W4 w2 f4 k4 r4 q4 => ⟨W4, μ4, y, w', k4, (r2.fr f3).fr f4, r4, q4⟩⟩
          | false =>
            rw [if_neg Bool.false_ne_true]
            exact Po.go (R := Rp (kwOf X)) q3 Fr.refl k3 (.bl false)
        | _ => exact q3.elim⟩⟩⟩
theorem je_chain {op op' : CmpOp} {g g' : G2} (ho : OpR X (compareOp op) (rM (kwOf X) E g)) (ho' : OpR X (compareOp op') (rM (kwOf X) E g')) (ha : JE X E a ma) (hb : JE X E b mb) (hc : JE X E c mc)
    (hm : lastMarks [op, op'] [b, c] = false := by with_unfolding_all rfl) : JE X E (.Compare a [op, op'] [b, c] pos) (mChain g g' ma mb mc) := PE_imp (pe_chain ho ho' ha hb hc hm) tChain_M
theorem jt_chain {op op' : CmpOp} {g g' : G2} (ho : OpR X (compareOp op) (rM (kwOf X) E g)) (ho' : OpR X (compareOp op') (rM (kwOf X) E g')) (ha : JE X E a ma) (hb : JE X E b mb) (hc : JE X E c mc)
    (hm : lastMarks [op, op'] [b, c] = false := by with_unfolding_all rfl) : JT X E (.Compare a [op, op'] [b, c] pos) (mTst (mChain g g' ma mb mc)) :=
  PT_imp (pt_chain ho ho' ha hb hc hm) fun σ H Q ⟨W, ρ, μ, k, st, q⟩ => tChain_M σ H _ ⟨W, ρ, μ, k, st, Po.asBl q⟩
end

/-! ### truth -/
/-- an object of the store, without its locks -/
def MO.un : MO → MO
  | .lck o => o.un
  | .itd o => o.un
  | o => o
def rdM (μ : Mu) (i : Nat) : Option MO := match μ[i]? with
  | some o => some o.un
  | none => none
theorem RpOb.un {K : KW} {H : Hp} {W : Wd} {a : Addr} : ∀ {o : MO} {b : Bool}, RpOb K H W a b o → ∃ b', RpOb K H W a b' o.un
  | .lst _, b, h => ⟨b, h⟩
  | .dead, b, h => ⟨b, h⟩
  | .tab _ _, b, h => ⟨b, h⟩
  | .dic _ _, b, h => ⟨b, h⟩
  | .obj _ _ _, b, h => ⟨b, h⟩
  | .lck o, b, h => RpOb.un (o := o) (b := b) h
  | .itd o, b, h => RpOb.un (o := o) (b := true) h
theorem Ok.rd {K : KW} {H : Hp} {W : Wd} {μ : Mu} (k : Ok K H W μ) {i : Nat} {a : Addr} {o : MO} (h : W.e[i]? = some a) (hm : rdM μ i = some o) : ∃ b, RpOb K H W a b o := by
  unfold rdM at hm
  cases e : μ[i]? with
  | none => rw [e] at hm; cases hm
  | some u =>
    rw [e] at hm
    cases hm
    exact RpOb.un (k.ob i a u h e)
def asSeq (μ : Mu) : T → Option (List T)
  | .tup ts => some ts
  | .lst ts => some ts
  | .kls ts => some ts
  | .mr i => match rdM μ i with
    | some (.lst ts) => some ts
    | _ => none
  | _ => none
def truT (μ : Mu) : T → Option Bool
  | .non => some false
  | .bl b => some b
  | .int i => some (i != 0)
  | .str x => if x.length ≤ 100000 then some (!x.isEmpty) else none
  | t => match asSeq μ t with
    | some ts => some (!ts.isEmpty)
    | none => none
/-- a tree that is walked as a list or a tuple -/
theorem asSeq_sq {K : KW} {H : Hp} {W : Wd} {μ : Mu} {t : T} {ts : List T} {v : V} (k : Ok K H W μ) (r : Rp K H W t v) (h : asSeq μ t = some ts) :
    ∃ a vs, v = .ref a ∧ (SqL K H a vs ∨ SqT K H a vs) ∧ RpL K H W ts vs := by
  cases t with
  | tup us =>
    cases h
    cases r with
    | tup h1 h2 => exact ⟨_, _, rfl, .inr h1, h2⟩
  | lst us =>
    cases h
    cases r with
    | lst h1 h2 => exact ⟨_, _, rfl, .inl h1.sq, h2⟩
  | kls us =>
    cases h
    cases r with
    | kls h1 h2 => exact ⟨_, _, rfl, .inl h1.sq, h2⟩
  | mr i =>
    cases r with
    | @mr _ a h1 =>
      have h' : (match rdM μ i with
        | some (.lst ts) => some ts
        | _ => none) = some ts := h
      cases hm : rdM μ i with
      | none => rw [hm] at h'; cases h'
      | some o =>
        rw [hm] at h'
        cases o with
        | lst us =>
          cases h'
          obtain ⟨b, vs, q1, q2⟩ := k.rd h1 hm
          exact ⟨a, vs, rfl, .inl (.inl (.inl q1)), q2⟩
        | _ => cases h'
  | _ => cases h
theorem isEmpty_rp {K : KW} {H : Hp} {W : Wd} {ts : List T} {vs : List V} (r : RpL K H W ts vs) : ts.isEmpty = vs.isEmpty := by
  cases r <;> rfl
theorem small_str {n : Nat} (h : n ≤ 100000) : n ≤ sizeLine := Nat.le_trans h (by decide)
theorem truT_ok {K : KW} {H : Hp} {W : Wd} {μ : Mu} {t : T} {b : Bool} {v : V} (k : Ok K H W μ) (r : Rp K H W t v) (h : truT μ t = some b) : TruV K v H b := by
  have seq : ∀ (t : T), Rp K H W t v → (match asSeq μ t with
    | some ts => some (!ts.isEmpty)
    | none => none) = some b → TruV K v H b := fun t r h => by
    cases hs : asSeq μ t with
    | none => rw [hs] at h; cases h
    | some ts =>
      rw [hs] at h
      cases h
      obtain ⟨a, vs, rfl, q, l⟩ := asSeq_sq k r hs
      rw [isEmpty_rp l]
      rcases q with q | q
      · exact .inl ⟨vs, q, rfl⟩
      · exact .inr (.inl ⟨vs, q, rfl⟩)
  cases t with
  | non => cases r; cases h; rfl
  | bl c => cases r; cases h; rfl
  | int i => cases r; cases h; rfl
  | str x =>
    cases r
    have h' : (if x.length ≤ 100000 then some (!x.isEmpty) else none) = some b := h
    split at h'
    · rename_i hx
      cases h'
      refine ⟨by show x.toArray.size ≤ sizeLine; simp; exact small_str hx, ?_⟩
      show _ = (((x.toArray.size : Nat) : Int) != 0)
      cases x with
      | nil => rfl
      | cons y ys =>
        have : ((((y :: ys).toArray.size : Nat) : Int) != 0) = true := by simp; omega
        rw [this] <;> rfl
    · cases h'
  | ty n => cases h
  | ref a => cases h
  | tup ts => exact seq _ r h
  | lst ts => exact seq _ r h
  | kls ts => exact seq _ r h
  | mr i => exact seq _ r h
  | dic ks ts => exact seq _ r h
  | lam q ps b sc => exact seq _ r h
  | cls c => exact seq _ r h
  | obj c ns ts => exact seq _ r h
  | err c ns ts => exact seq _ r h
def tru (t : T) (μ : Mu) : Out Bool := match truT μ t with
  | some b => .ok b μ
  | none => .bad
def mTru (m : ME) : MT := fun ρ μ => (m ρ μ).bind tru
section
variable {X : Cx} {E : XK} {pos p : Pos} {a b c : Expr} {ma mb mc : ME} {rest : List Expr}
theorem Po.tru {K : KW} {E : XK} {H : Hp} {W : Wd} {Q : Bool → Hp → Prop} {t : T} {v : V} {μ : Mu} (k : Ok K H W μ) (r : Rp K H W t v) (q : PoT K E H W Q (tru t μ)) : ∃ b, truT μ t = some b ∧ TruV K v H b ∧ Q b H := by
  unfold Mr.tru at q
  cases h : truT μ t with
  | none => rw [h] at q; exact q.elim
  | some b =>
    rw [h] at q
    exact ⟨b, rfl, truT_ok k r h, Po.go (R := fun _ _ a b => b = a) q Fr.refl k rfl⟩
/-- any expression whose test is its value's truth -/
theorem jt_tru (ha : JE X E a ma) (he : ∀ whole, isTrue a X.env whole = (do let v ← whole; standAt a.pos; holding [v] (truthy v)) := by intro _; rfl) : JT X E a (mTru ma) :=
  PT_imp (pt_truth ha he) fun σ H Q ⟨W, ρ, μ, k, st, q⟩ => ⟨W, ρ, μ, k, st, Po.bind (R := Rp (kwOf X)) (R' := fun _ _ a b => b = a) q fun t μ1 _ H1 W1 v f1 k1 r1 q1 =>
    let ⟨b, _, h2, h3⟩ := Po.tru k1 r1 q1; ⟨b, h2, h3⟩⟩
def mNot (m : MT) : MT := fun ρ μ => (m ρ μ).bind fun b μ1 => .ok (!b) μ1
def mAnd (m n : MT) : MT := fun ρ μ => (m ρ μ).bind fun b μ1 => if b = true then n ρ μ1 else .ok false μ1
def mOr (m n : MT) : MT := fun ρ μ => (m ρ μ).bind fun b μ1 => if b = true then .ok true μ1 else n ρ μ1
theorem jt_not {m : MT} (ha : JT X E a m) : JT X E (.UnaryOp .Not a pos) (mNot m) :=
  PT_imp (pt_not ha) fun σ H Q ⟨W, ρ, μ, k, st, q⟩ => ⟨W, ρ, μ, k, st, Po.bind (R := fun _ _ a b => b = a) (R' := fun _ _ a b => b = a) q fun t μ1 _ H1 W1 v f1 k1 r1 q1 => by
    subst r1
    exact Po.go (R := fun _ _ a b => b = a) q1 Fr.refl k1 rfl⟩
theorem tAnd_M {m n : MT} : ∀ σ H Q, tMT (kwOf X) E (mAnd m n) σ H Q → tAnd (tMT (kwOf X) E m) (tMT (kwOf X) E n) σ H Q := fun σ H Q ⟨W, ρ, μ, k, st, q⟩ =>
  ⟨W, ρ, μ, k, st, Po.bind (R := fun _ _ a b => b = a) (R' := fun _ _ a b => b = a) q fun t μ1 _ H1 W1 v f1 k1 r1 q1 => by
    subst r1
    cases v with
    | true =>
      rw [if_pos rfl] at q1 ⊢
      exact ⟨W1, ρ, μ1, k1, st.fr f1, q1⟩
    | false =>
      rw [if_neg Bool.false_ne_true] at q1 ⊢
      exact Po.go (R := fun _ _ a b => b = a) q1 Fr.refl k1 rfl⟩
theorem tOr_M {m n : MT} : ∀ σ H Q, tMT (kwOf X) E (mOr m n) σ H Q → tOr (tMT (kwOf X) E m) (tMT (kwOf X) E n) σ H Q := fun σ H Q ⟨W, ρ, μ, k, st, q⟩ =>
  ⟨W, ρ, μ, k, st, Po.bind (R := fun _ _ a b => b = a) (R' := fun _ _ a b => b = a) q fun t μ1 _ H1 W1 v f1 k1 r1 q1 => by
    subst r1
    cases v with
    | true =>
      rw [if_pos rfl] at q1 ⊢
      exact Po.go (R := fun _ _ a b => b = a) q1 Fr.refl k1 rfl
    | false =>
      rw [if_neg Bool.false_ne_true] at q1 ⊢
      exact ⟨W1, ρ, μ1, k1, st.fr f1, q1⟩⟩
abbrev JW (X : Cx) (E : XK) (e : Expr) (m : MT) : Prop := PW X e (tMT (kwOf X) E m)
theorem PW_imp {X : Cx} {e : Expr} {t t' : TT} (h : PW X e t) (hi : ∀ σ H Q, t' σ H Q → t σ H Q) : PW X e t' := ⟨fun whole pins s σ H Q I q => h.run whole pins s σ H Q I (hi σ H Q q)⟩
theorem jw_and1 {m : MT} (ha : JT X E a m) : JW X E (.BoolOp .And [a] pos) m := pw_and1 ha
theorem jw_or1 {m : MT} (ha : JT X E a m) : JW X E (.BoolOp .Or [a] pos) m := pw_or1 ha
theorem jw_and {m n : MT} (ha : JT X E a m) (hb : JW X E (.BoolOp .And (b :: rest) pos) n) : JW X E (.BoolOp .And (a :: b :: rest) pos) (mAnd m n) := PW_imp (pw_and ha hb) tAnd_M
theorem jw_or {m n : MT} (ha : JT X E a m) (hb : JW X E (.BoolOp .Or (b :: rest) pos) n) : JW X E (.BoolOp .Or (a :: b :: rest) pos) (mOr m n) := PW_imp (pw_or ha hb) tOr_M
theorem jt_w {m : MT} (h : JW X E a m) : JT X E a m := h.pt
/-! .. as values -/
def mAndV (m n : ME) : ME := fun ρ μ => (m ρ μ).bind fun x μ1 => match truT μ1 x with
  | some true => n ρ μ1
  | some false => .ok x μ1
  | none => .bad
def mOrV (m n : ME) : ME := fun ρ μ => (m ρ μ).bind fun x μ1 => match truT μ1 x with
  | some true => .ok x μ1
  | some false => n ρ μ1
  | none => .bad
def mNotV (m : ME) : ME := fun ρ μ => (m ρ μ).bind fun x μ1 => match truT μ1 x with
  | some b => .ok (.bl (!b)) μ1
  | none => .bad
theorem je_one {op : BoolOp} (h : JE X E a ma) : JE X E (.BoolOp op [a] pos) ma := pe_one h
theorem je_and (ha : JE X E a ma) (hb : JE X E (.BoolOp .And (b :: rest) pos) mb) : JE X E (.BoolOp .And (a :: b :: rest) pos) (mAndV ma mb) :=
  PE_imp (pe_andT ha hb) fun σ H Q ⟨W, ρ, μ, k, st, q⟩ => ⟨W, ρ, μ, k, st, Po.bind (R := Rp (kwOf X)) q fun x μ1 _ H1 W1 v f1 k1 r1 q1 => by
    cases h : truT μ1 x with
    | none => rw [h] at q1; exact q1.elim
    | some b =>
      rw [h] at q1
      refine ⟨b, truT_ok k1 r1 h, ?_⟩
      cases b with
      | true =>
        rw [if_pos rfl]
        exact ⟨W1, ρ, μ1, k1, st.fr f1, q1⟩
      | false =>
        rw [if_neg Bool.false_ne_true]
        exact Po.go (R := Rp (kwOf X)) q1 Fr.refl k1 r1⟩
theorem je_or (ha : JE X E a ma) (hb : JE X E (.BoolOp .Or (b :: rest) pos) mb) : JE X E (.BoolOp .Or (a :: b :: rest) pos) (mOrV ma mb) :=
  PE_imp (pe_orT ha hb) fun σ H Q ⟨W, ρ, μ, k, st, q⟩ => ⟨W, ρ, μ, k, st, Po.bind (R := Rp (kwOf X)) q fun x μ1 _ H1 W1 v f1 k1 r1 q1 => by
    cases h : truT μ1 x with
    | none => rw [h] at q1; exact q1.elim
    | some b =>
      rw [h] at q1
      refine ⟨b, truT_ok k1 r1 h, ?_⟩
      cases b with
      | true =>
        rw [if_pos rfl]
        exact Po.go (R := Rp (kwOf X)) q1 Fr.refl k1 r1
      | false =>
        rw [if_neg Bool.false_ne_true]
        exact ⟨W1, ρ, μ1, k1, st.fr f1, q1⟩⟩
theorem je_not (ha : JE X E a ma) : JE X E (.UnaryOp .Not a pos) (mNotV ma) :=
  PE_imp (pe_notT ha) fun σ H Q ⟨W, ρ, μ, k, st, q⟩ => ⟨W, ρ, μ, k, st, Po.bind (R := Rp (kwOf X)) q fun x μ1 _ H1 W1 v f1 k1 r1 q1 => by
    cases h : truT μ1 x with
    | none => rw [h] at q1; exact q1.elim
    | some b =>
      rw [h] at q1
      exact ⟨b, truT_ok k1 r1 h, Po.go (R := Rp (kwOf X)) q1 Fr.refl k1 (.bl _)⟩⟩
def mIf (m : MT) (a b : ME) : ME := fun ρ μ => (m ρ μ).bind fun c μ1 => if c = true then a ρ μ1 else b ρ μ1
theorem je_if {m : MT} (hc : JT X E c m) (ha : JE X E a ma) (hb : JE X E b mb) : JE X E (.IfExp c a b pos) (mIf m ma mb) :=
  PE_imp (pe_ifExp hc ha hb) fun σ H Q ⟨W, ρ, μ, k, st, q⟩ => ⟨W, ρ, μ, k, st, Po.bind (R := fun _ _ a b => b = a) (R' := Rp (kwOf X)) q fun t μ1 _ H1 W1 v f1 k1 r1 q1 => by
    subst r1
    cases v with
    | true =>
      rw [if_pos rfl] at q1 ⊢
      exact ⟨W1, ρ, μ1, k1, st.fr f1, q1⟩
    | false =>
      rw [if_neg Bool.false_ne_true] at q1 ⊢
      exact ⟨W1, ρ, μ1, k1, st.fr f1, q1⟩⟩
end

/-! ### displays -/
def few (ts : List T) : Bool := Nat.ble ts.length 1000000
theorem few_le {ts : List T} (h : few ts = true) : ts.length ≤ sizeLine := by
  have h1 : ts.length ≤ 1000000 := Nat.le_of_ble_eq_true h
  rw [sizeLine_eq]
  omega
def gTup : GL := fun ts μ => if few ts = true then .ok (.tup ts) μ else .bad
def gLst : GL := fun ts μ => if few ts = true then .ok (.lst ts) μ else .bad
def gLstM : GL := fun ts μ => if few ts = true then .ok (.mr μ.length) (μ ++ [.lst ts]) else .bad
section
variable {X : Cx} {E : XK} {pos : Pos} {es : List Expr} {m : MA}
theorem Po.tup {K : KW} {E : XK} {H : Hp} {W : Wd} {Q : VK} {ts : List T} {vs : List V} {μ : Mu} (k : Ok K H W μ) (r : RpL K H W ts vs) (q : PoE K E H W Q (.ok (.tup ts) μ)) : ∀ p, H p = none → Q (.ref p) (upd H p (.tup vs)) := fun p hp => by
  obtain ⟨f, k'⟩ := k.frozen (o := .tup vs) hp
  exact Po.go (R := Rp K) q f k' (.tup (.inl (.inl upd_same)) (r.fr f))
theorem Po.lst {K : KW} {E : XK} {H : Hp} {W : Wd} {Q : VK} {ts : List T} {vs : List V} {μ : Mu} (k : Ok K H W μ) (r : RpL K H W ts vs) (q : PoE K E H W Q (.ok (.lst ts) μ)) : ∀ p, H p = none → Q (.ref p) (upd H p (.lst vs)) := fun p hp => by
  obtain ⟨f, k'⟩ := k.frozen (o := .lst vs) hp
  exact Po.go (R := Rp K) q f k' (.lst ⟨.inr rfl, upd_same⟩ (r.fr f))
theorem Po.lstM {K : KW} {E : XK} {H : Hp} {W : Wd} {Q : VK} {ts : List T} {vs : List V} {μ : Mu} (k : Ok K H W μ) (r : RpL K H W ts vs) (q : PoE K E H W Q (.ok (.mr μ.length) (μ ++ [.lst ts]))) : ∀ p, H p = none → Q (.ref p) (upd H p (.lst vs)) := fun p hp => by
  obtain ⟨f, k'⟩ := k.push hp r
  refine Po.go (R := Rp K) q f k' (.mr ?_)
  show (W.e ++ [p])[μ.length]? = some p
  rw [← k.len, List.getElem?_append_right (Nat.le_refl _), Nat.sub_self] <;> rfl
theorem je_tup {x1 : Nat} (h : JA X E es m) : JE X E (.Tuple es x1 pos) (mCl gTup m) := PE_imp (pe_tup h) fun σ H Q ⟨W, ρ, μ, k, st, q⟩ =>
  ⟨W, ρ, μ, k, st, Po.bind (R := RpL (kwOf X)) (R' := Rp (kwOf X)) q fun ts μ1 _ H1 W1 vs f1 k1 r1 q1 => by
    unfold gTup at q1
    split at q1
    · rename_i hf
      exact ⟨by rw [← r1.length]; exact few_le hf, Po.tup k1 r1 q1⟩
    · exact q1.elim⟩
theorem je_lst (h : JA X E es m) : JE X E (.List es pos) (mCl gLst m) := PE_imp (pe_lst h) fun σ H Q ⟨W, ρ, μ, k, st, q⟩ =>
  ⟨W, ρ, μ, k, st, Po.bind (R := RpL (kwOf X)) (R' := Rp (kwOf X)) q fun ts μ1 _ H1 W1 vs f1 k1 r1 q1 => by
    unfold gLst at q1
    split at q1
    · rename_i hf
      exact ⟨by rw [← r1.length]; exact few_le hf, Po.lst k1 r1 q1⟩
    · exact q1.elim⟩
theorem je_lstM (h : JA X E es m) : JE X E (.List es pos) (mCl gLstM m) := PE_imp (pe_lst h) fun σ H Q ⟨W, ρ, μ, k, st, q⟩ =>
  ⟨W, ρ, μ, k, st, Po.bind (R := RpL (kwOf X)) (R' := Rp (kwOf X)) q fun ts μ1 _ H1 W1 vs f1 k1 r1 q1 => by
    unfold gLstM at q1
    split at q1
    · rename_i hf
      exact ⟨by rw [← r1.length]; exact few_le hf, Po.lstM k1 r1 q1⟩
    · exact q1.elim⟩
end

/-! ### what is locked stays -/
def Lk (μ μ' : Mu) : Prop := ∀ (i : Nat) (o : MO), μ[i]? = some (.lck o) → μ'[i]? = some (.lck o)
theorem Lk.refl {μ : Mu} : Lk μ μ := fun _ _ h => h
theorem Lk.trans {μ μ1 μ2 : Mu} (a : Lk μ μ1) (b : Lk μ1 μ2) : Lk μ μ2 := fun i o h => b i o (a i o h)
theorem Lk.app {μ ν : Mu} : Lk μ (μ ++ ν) := fun i o h => by
  rw [List.getElem?_append_left (List.getElem?_eq_some_iff.mp h).1]; exact h
theorem Lk.set {μ : Mu} {i : Nat} {x y : MO} (h : μ[i]? = some x) (hx : ∀ o, x ≠ .lck o) : Lk μ (μ.set i y) := fun j o hj => by
  have hne : i ≠ j := fun z => by
    subst z
    rw [h] at hj
    exact hx o (Option.some.inj hj)
  rw [List.getElem?_set_ne hne]
  exact hj
def LkO {α : Type} (μ : Mu) : Out α → Prop
  | .ok _ μ' => Lk μ μ'
  | .exc _ μ' => Lk μ μ'
  | .bad => True
theorem LkO.bind {α β : Type} {μ : Mu} {o : Out α} {k : α → Mu → Out β} (h : LkO μ o) (hk : ∀ a μ1, o = .ok a μ1 → LkO μ1 (k a μ1)) : LkO μ (o.bind k) := by
  cases o with
  | ok a μ1 =>
    have q := hk a μ1 rfl
    show LkO μ (k a μ1)
    cases e : k a μ1 with
    | ok b μ2 => rw [e] at q; exact Lk.trans h q
    | exc x μ2 => rw [e] at q; exact Lk.trans h q
    | bad => exact True.intro
  | exc x μ1 => exact h
  | bad => exact True.intro
class KpR {α : Type} (m : Rho → Mu → Out α) : Prop where
  kp : ∀ ρ μ, LkO μ (m ρ μ)
class KpL {α β : Type} (g : α → Mu → Out β) : Prop where
  kp : ∀ a μ, LkO μ (g a μ)
class Kp2 (g : G2) : Prop where
  kp : ∀ a b μ, LkO μ (g a b μ)
class KpG {α β : Type} (g : α → Rho → Mu → Out β) : Prop where
  kp : ∀ a ρ μ, LkO μ (g a ρ μ)
instance {i : Nat} : KpR (mVar i) := ⟨fun ρ μ => by unfold mVar; split <;> first | exact Lk.refl | exact True.intro⟩
instance {t : T} : KpR (mC t) := ⟨fun _ _ => Lk.refl⟩
instance : KpR mNil := ⟨fun _ _ => Lk.refl⟩
instance {m : ME} {r : MA} [hm : KpR m] [hr : KpR r] : KpR (mCons m r) := ⟨fun ρ μ => (hm.kp ρ μ).bind fun t μ1 _ => (hr.kp ρ μ1).bind fun ts μ2 _ => Lk.refl⟩
instance {g : G2} {a b : ME} [hg : Kp2 g] [ha : KpR a] [hb : KpR b] : KpR (mOp g a b) := ⟨fun ρ μ => (ha.kp ρ μ).bind fun t μ1 _ => (hb.kp ρ μ1).bind fun ts μ2 _ => hg.kp _ _ _⟩
instance {g : G1} {a : ME} [hg : KpL g] [ha : KpR a] : KpR (mUn g a) := ⟨fun ρ μ => (ha.kp ρ μ).bind fun t μ1 _ => hg.kp _ _⟩
instance {g : GL} {a : MA} [hg : KpL g] [ha : KpR a] : KpR (mCl g a) := ⟨fun ρ μ => (ha.kp ρ μ).bind fun t μ1 _ => hg.kp _ _⟩
theorem asBl_kp {μ : Mu} {o : Out T} (h : LkO μ o) : LkO μ (asBl o) := h.bind fun t μ1 _ => by cases t <;> first | exact Lk.refl | exact True.intro
instance {m : ME} [hm : KpR m] : KpR (mTst m) := ⟨fun ρ μ => asBl_kp (hm.kp ρ μ)⟩
instance {g g' : G2} {a b c : ME} [hg : Kp2 g] [hg' : Kp2 g'] [ha : KpR a] [hb : KpR b] [hc : KpR c] : KpR (mChain g g' a b c) :=
  ⟨fun ρ μ => (ha.kp ρ μ).bind fun x μ1 _ => (hb.kp ρ μ1).bind fun y μ2 _ => (hg.kp x y μ2).bind fun z μ3 _ => by
    cases z with
    | bl b => cases b with
      | true => exact (hc.kp ρ μ3).bind fun w μ4 _ => hg'.kp _ _ _
      | false => exact Lk.refl
    | _ => exact True.intro⟩
theorem tru_kp {t : T} {μ : Mu} : LkO μ (tru t μ) := by unfold tru; split <;> first | exact Lk.refl | exact True.intro
instance {m : ME} [hm : KpR m] : KpR (mTru m) := ⟨fun ρ μ => (hm.kp ρ μ).bind fun _ _ _ => tru_kp⟩
instance {m : MT} [hm : KpR m] : KpR (mNot m) := ⟨fun ρ μ => (hm.kp ρ μ).bind fun _ _ _ => Lk.refl⟩
instance {m n : MT} [hm : KpR m] [hn : KpR n] : KpR (mAnd m n) := ⟨fun ρ μ => (hm.kp ρ μ).bind fun _ _ _ => by split <;> first | exact hn.kp _ _ | exact Lk.refl⟩
instance {m n : MT} [hm : KpR m] [hn : KpR n] : KpR (mOr m n) := ⟨fun ρ μ => (hm.kp ρ μ).bind fun _ _ _ => by split <;> first | exact hn.kp _ _ | exact Lk.refl⟩
instance {m n : ME} [hm : KpR m] [hn : KpR n] : KpR (mAndV m n) := ⟨fun ρ μ => (hm.kp ρ μ).bind fun _ _ _ => by split <;> first | exact hn.kp _ _ | exact Lk.refl | exact True.intro⟩
instance {m n : ME} [hm : KpR m] [hn : KpR n] : KpR (mOrV m n) := ⟨fun ρ μ => (hm.kp ρ μ).bind fun _ _ _ => by split <;> first | exact hn.kp _ _ | exact Lk.refl | exact True.intro⟩
instance {m : ME} [hm : KpR m] : KpR (mNotV m) := ⟨fun ρ μ => (hm.kp ρ μ).bind fun _ _ _ => by split <;> first | exact Lk.refl | exact True.intro⟩
instance {c : MT} {m n : ME} [hc : KpR c] [hm : KpR m] [hn : KpR n] : KpR (mIf c m n) := ⟨fun ρ μ => (hc.kp ρ μ).bind fun _ _ _ => by split <;> first | exact hm.kp _ _ | exact hn.kp _ _⟩
instance : KpL gTup := ⟨fun ts μ => by unfold gTup; split <;> first | exact Lk.refl | exact True.intro⟩
instance : KpL gLst := ⟨fun ts μ => by unfold gLst; split <;> first | exact Lk.refl | exact True.intro⟩
instance : KpL gLstM := ⟨fun ts μ => by unfold gLstM; split <;> first | exact Lk.app | exact True.intro⟩
/-! locks do not change what stands for what -/
theorem At.mono {H : Hp} {a : Addr} {b : Bool} {u : HO} (h : At H a b u) : At H a true u := h.imp id fun z => ⟨rfl, z.2⟩
theorem RpOb.mono {K : KW} {H : Hp} {W : Wd} {a : Addr} : ∀ {o : MO} {b : Bool}, RpOb K H W a b o → RpOb K H W a true o
  | .lst _, b, h => h
  | .dead, b, h => h
  | .tab _ _, b, h => h
  | .dic _ _, b, h => h.imp (fun ⟨k, v, h1, h2, h3⟩ => ⟨k, v, h1, h2.mono, h3⟩) fun ⟨k, h1, h2, h3⟩ => ⟨k, h1, h2.mono, h3⟩
  | .obj _ _ _, b, h => h
  | .lck o, b, h => RpOb.mono (o := o) (b := b) h
  | .itd o, b, h => h
/-- the kinds of objects that are locked without more ado -/
def isLO : MO → Bool
  | .lst _ => true
  | .lck o => isLO o
  | .itd o => isLO o
  | _ => false
theorem Ok.swap {K : KW} {H : Hp} {W : Wd} {μ : Mu} {i : Nat} {o o' : MO} (k : Ok K H W μ) (h : μ[i]? = some o) (hr : ∀ a, RpO K H W a o → RpO K H W a o') : Ok K H W (μ.set i o') :=
  ⟨by rw [List.length_set]; exact k.len, k.nd, k.nf, k.fk, k.gk, fun j a x h1 h2 => by
    by_cases hj : i = j
    · subst hj
      rw [List.getElem?_set_self (List.getElem?_eq_some_iff.mp h).1] at h2
      cases h2
      exact hr a (k.ob i a o h1 h)
    · rw [List.getElem?_set_ne hj] at h2
      exact k.ob j a x h1 h2⟩
theorem Ok.lock {K : KW} {H : Hp} {W : Wd} {μ : Mu} {i : Nat} {o : MO} (k : Ok K H W μ) (h : μ[i]? = some o) : Ok K H W (μ.set i (.lck o)) := k.swap h fun a r => show RpO K H W a o from r
theorem Ok.unlock {K : KW} {H : Hp} {W : Wd} {μ : Mu} {i : Nat} {o : MO} (hl : isLO o = true) (k : Ok K H W μ) (h : μ[i]? = some (.lck o)) : Ok K H W (μ.set i o) := k.swap h fun a r => show RpO K H W a o from r
end Mr

namespace Mr
open PySem PySem.Spec PyProof.Rows L2

/-! ### targets -/
def wipeR (ρ : Rho) : List Nat → Rho
  | [] => ρ
  | v :: vs => (wipeR ρ vs).set v none
def PoG (K : KW) (E : XK) (vs : List Nat) (σ : L2.St) (H : Hp) (W : Wd) (Q : L2.St → Hp → Prop) : Out Rho → Prop
  | .ok ρ' μ' => ∀ H' W' σ', Fr H W H' W' → Ok K H' W' μ' → RpSt K H' W' σ' ρ' → wipe σ' vs = wipe σ vs → Q σ' H'
  | .exc x m => ∀ H' W' c d, Fr H W H' W' → Ok K H' W' m → RpX K H' W' x c d → E c d H'
  | .bad => False
def tMG (K : KW) (E : XK) (vs : List Nat) (g : MG) : TG := fun v σ H Q => ∃ W ρ μ t, Ok K H W μ ∧ RpSt K H W σ ρ ∧ Rp K H W t v ∧ PoG K E vs σ H W Q (g t ρ μ)
abbrev JG (X : Cx) (E : XK) (vs : List Nat) (tg : Expr) (g : MG) : Prop := PG X tg (tMG (kwOf X) E vs g)
abbrev MGs := List T → Rho → Mu → Out Rho
def tMGs (K : KW) (E : XK) (vs : List Nat) (g : MGs) : TGs := fun xs σ H Q => ∃ W ρ μ ts, Ok K H W μ ∧ RpSt K H W σ ρ ∧ RpL K H W ts xs ∧ PoG K E vs σ H W Q (g ts ρ μ)
abbrev JGs (X : Cx) (E : XK) (vs : List Nat) (tg : List Expr) (g : MGs) : Prop := PGs X tg (tMGs (kwOf X) E vs g)
theorem PG_imp {X : Cx} {e : Expr} {t t' : TG} (h : PG X e t) (hi : ∀ v σ H Q, t' v σ H Q → t v σ H Q) : PG X e t' := ⟨fun pins s σ H v u Q I r q => h.run pins s σ H v u Q I r (hi v σ H Q q)⟩
theorem PGs_imp {X : Cx} {e : List Expr} {t t' : TGs} (h : PGs X e t) (hi : ∀ v σ H Q, t' v σ H Q → t v σ H Q) : PGs X e t' := ⟨fun pins s σ H v u Q I r q => h.run pins s σ H v u Q I r (hi v σ H Q q)⟩
theorem PoG.fr {K : KW} {E : XK} {vs : List Nat} {σ : L2.St} {H H' : Hp} {W W' : Wd} {Q : L2.St → Hp → Prop} {o : Out Rho} (f : Fr H W H' W') (h : PoG K E vs σ H W Q o) : PoG K E vs σ H' W' Q o := by
  cases o with
  | ok a m => exact fun H2 W2 v f2 k r => h H2 W2 v (f.trans f2) k r
  | exc x m => exact fun H2 W2 c d f2 k r => h H2 W2 c d (f.trans f2) k r
  | bad => exact h
theorem PoG.wp {K : KW} {E : XK} {vs : List Nat} {σ σ' : L2.St} {H : Hp} {W : Wd} {Q : L2.St → Hp → Prop} {o : Out Rho} (w : wipe σ' vs = wipe σ vs) (h : PoG K E vs σ H W Q o) : PoG K E vs σ' H W Q o := by
  cases o with
  | ok a m => exact fun H2 W2 v f2 k r q => h H2 W2 v f2 k r (q.trans w)
  | exc x m => exact h
  | bad => exact h
theorem wipe_set {i : Nat} {x : Option V} : ∀ {vs : List Nat} {σ : L2.St}, i ∈ vs → wipe (σ.set i x) vs = wipe σ vs
  | [], _, h => by cases h
  | v :: vs, σ, h => by
    show (wipe (σ.set i x) vs).set v none = (wipe σ vs).set v none
    by_cases hi : i ∈ vs
    · rw [wipe_set hi]
    · have e : i = v := by
        rcases List.mem_cons.mp h with e | e
        · exact e
        · exact absurd e hi
      subst e
      have comm : ∀ (vs : List Nat) (τ : L2.St), i ∉ vs → wipe (τ.set i x) vs = (wipe τ vs).set i x := by
        intro vs
        induction vs with
        | nil => intro τ _; rfl
        | cons w ws ih =>
          intro τ hw
          have h1 : i ≠ w := fun z => hw (by rw [z]; exact List.mem_cons_self)
          have h2 : i ∉ ws := fun z => hw (List.mem_cons_of_mem _ z)
          show (wipe (τ.set i x) ws).set w none = ((wipe τ ws).set w none).set i x
          rw [ih τ h2, List.set_comm _ _ h1]
      rw [comm vs σ hi, List.set_set]
theorem RpSt.wipe {K : KW} {H : Hp} {W : Wd} {σ : L2.St} {ρ : Rho} (r : RpSt K H W σ ρ) : ∀ vs : List Nat, RpSt K H W (L2.wipe σ vs) (wipeR ρ vs)
  | [] => r
  | v :: vs => by
    have ih := RpSt.wipe r vs
    refine ⟨by show ((wipeR ρ vs).set v none).length = ((L2.wipe σ vs).set v none).length; rw [List.length_set, List.length_set]; exact ih.len, fun i t h => ?_⟩
    have h' : ((wipeR ρ vs).set v none)[i]? = some (some t) := h
    show ∃ u, ((L2.wipe σ vs).set v none)[i]? = some (some u) ∧ _
    by_cases hv : v = i
    · subst hv
      by_cases hl : v < (wipeR ρ vs).length
      · rw [List.getElem?_set_self hl] at h'; cases h'
      · rw [List.getElem?_eq_none (by rw [List.length_set]; omega)] at h'; cases h'
    · rw [List.getElem?_set_ne hv] at h' ⊢
      exact ih.at_ i t h'
def gNm (i : Nat) : MG := fun t ρ μ => .ok (ρ.set i (some t)) μ
def gsNil : MGs := fun ts ρ μ => match ts with
  | [] => .ok ρ μ
  | _ => .bad
def gsCons (g : MG) (gs : MGs) : MGs := fun ts ρ μ => match ts with
  | t :: ts => (g t ρ μ).bind fun ρ1 μ1 => gs ts ρ1 μ1
  | [] => .bad
def gTp (n : Nat) (gs : MGs) : MG := fun t ρ μ => match t with
  | .tup ts => if ts.length = n then gs ts ρ μ else .bad
  | _ => .bad
section
variable {X : Cx} {E : XK} {pos : Pos} {vs : List Nat}
theorem jg_name (i : Nat) {x : Str} (h : PG X (.Name x pos) (gName i)) (hv : i ∈ vs) : JG X E vs (.Name x pos) (gNm i) := PG_imp h fun v σ H Q ⟨W, ρ, μ, t, k, st, r, q⟩ =>
  q H W _ Fr.refl k (st.set r i) (wipe_set hv)
theorem jgs_nil : JGs X E vs [] gsNil := PGs_imp pgs_nil fun v σ H Q ⟨W, ρ, μ, ts, k, st, r, q⟩ => by
  cases r with
  | nil => exact ⟨rfl, q H W _ Fr.refl k st rfl⟩
  | cons _ _ => exact q.elim
theorem PoG.bind {K : KW} {E : XK} {σ : L2.St} {H : Hp} {W : Wd} {Q Q1 : L2.St → Hp → Prop} {o : Out Rho} {k : Rho → Mu → Out Rho} (h : PoG K E vs σ H W Q (o.bind k))
    (hk : ∀ ρ1 μ1 H1 W1 σ1, Fr H W H1 W1 → Ok K H1 W1 μ1 → RpSt K H1 W1 σ1 ρ1 → PoG K E vs σ1 H1 W1 Q (k ρ1 μ1) → Q1 σ1 H1) : PoG K E vs σ H W Q1 o := by
  cases o with
  | ok a m => exact fun H1 W1 v f ok r w => hk a m H1 W1 v f ok r (PoG.wp w (PoG.fr f h))
  | exc x m => exact h
  | bad => exact h.elim
theorem jgs_cons {e : Expr} {es : List Expr} {g : MG} {gs : MGs} (h1 : JG X E vs e g) (h2 : JGs X E vs es gs)
    (hs : (assignEach (e :: es) X.env).map (·.2) = assign e X.env :: (assignEach es X.env).map (·.2) := by rfl) : JGs X E vs (e :: es) (gsCons g gs) := PGs_imp (pgs_cons h1 h2 hs) fun v σ H Q ⟨W, ρ, μ, ts, k, st, r, q⟩ => by
  cases r with
  | nil => exact q.elim
  | cons r rl => exact ⟨_, _, rfl, W, ρ, μ, _, k, st, r, PoG.bind q fun ρ1 μ1 H1 W1 σ1 f1 k1 st1 q1 => ⟨W1, ρ1, μ1, _, k1, st1, rl.fr f1, q1⟩⟩
theorem jg_tup {es : List Expr} {kk : Nat} {gs : MGs} {n : Nat} (hc : X.calm = true) (h : JGs X E vs es gs)
    (hn : (assignEach es X.env).length = n := by rfl) (hst : (assignEach es X.env).findIdx? (·.1) = none := by rfl) : JG X E vs (.Tuple es kk pos) (gTp n gs) :=
  PG_imp (pg_tup hc h hn hst) fun v σ H Q ⟨W, ρ, μ, t, k, st, r, q⟩ => by
    cases t with
    | tup ts =>
      have q' : PoG (kwOf X) E vs σ H W Q (if ts.length = n then gs ts ρ μ else .bad) := q
      split at q'
      · rename_i hl
        cases r with
        | tup h1 h2 => exact ⟨_, _, rfl, h1, by rw [← h2.length]; exact hl, W, ρ, μ, ts, k, st, h2, q'⟩
      · exact q'.elim
    | _ => exact q.elim
end

/-! ### statements -/
def PoS (K : KW) (E : XK) (H : Hp) (W : Wd) (D : Ends) : Out Flo → Prop
  | .ok (.nx ρ') μ' => ∀ H' W' σ', Fr H W H' W' → Ok K H' W' μ' → RpSt K H' W' σ' ρ' → D.nx σ' H'
  | .ok (.rt t) μ' => ∀ H' W' v, Fr H W H' W' → Ok K H' W' μ' → Rp K H' W' t v → D.rt v H'
  | .ok (.bk ρ') μ' => ∀ H' W' σ', Fr H W H' W' → Ok K H' W' μ' → RpSt K H' W' σ' ρ' → D.bk σ' H'
  | .ok (.ct ρ') μ' => ∀ H' W' σ', Fr H W H' W' → Ok K H' W' μ' → RpSt K H' W' σ' ρ' → D.ct σ' H'
  | .exc x m => ∀ H' W' c d, Fr H W H' W' → Ok K H' W' m → RpX K H' W' x c d → E c d H'
  | .bad => False
def tMS (K : KW) (E : XK) (m : MS) : TS := fun D σ H => ∃ W ρ μ, Ok K H W μ ∧ RpSt K H W σ ρ ∧ PoS K E H W D (m ρ μ)
abbrev JS (X : Cx) (E : XK) (st : Stmt) (m : MS) : Prop := PS X st (tMS (kwOf X) E m)
abbrev JSs (X : Cx) (E : XK) (st : List Stmt) (m : MS) : Prop := PSs X st (tMS (kwOf X) E m)
theorem PoS.fr {K : KW} {E : XK} {H H' : Hp} {W W' : Wd} {D : Ends} {o : Out Flo} (f : Fr H W H' W') (h : PoS K E H W D o) : PoS K E H' W' D o := by
  cases o with
  | ok a m =>
    cases a with
    | nx ρ => exact fun H2 W2 v f2 k r => h H2 W2 v (f.trans f2) k r
    | rt ρ => exact fun H2 W2 v f2 k r => h H2 W2 v (f.trans f2) k r
    | bk ρ => exact fun H2 W2 v f2 k r => h H2 W2 v (f.trans f2) k r
    | ct ρ => exact fun H2 W2 v f2 k r => h H2 W2 v (f.trans f2) k r
  | exc x m => exact fun H2 W2 c d f2 k r => h H2 W2 c d (f.trans f2) k r
  | bad => exact h
/-- an expression, then a statement's end -/
theorem PoS.bind {K : KW} {E : XK} {α β : Type} {R : Hp → Wd → α → β → Prop} {H : Hp} {W : Wd} {D : Ends} {Q1 : β → Hp → Prop} {o : Out α} {k : α → Mu → Out Flo} (h : PoS K E H W D (o.bind k))
    (hk : ∀ a m1 H1 W1 v, Fr H W H1 W1 → Ok K H1 W1 m1 → R H1 W1 a v → PoS K E H1 W1 D (k a m1) → Q1 v H1) : Po K E R H W Q1 o := by
  cases o with
  | ok a m => exact fun H1 W1 v f ok r => hk a m H1 W1 v f ok r (PoS.fr f h)
  | exc x m => exact h
  | bad => exact h.elim
def mNext : MS := fun ρ μ => .ok (.nx ρ) μ
def mBrk : MS := fun ρ μ => .ok (.bk ρ) μ
def mCont : MS := fun ρ μ => .ok (.ct ρ) μ
def mBad : MS := fun _ _ => .bad
def seqO (o : Out Flo) (n : MS) : Out Flo := match o with
  | .ok (.nx ρ) μ => n ρ μ
  | o => o
def mSeq (m n : MS) : MS := fun ρ μ => seqO (m ρ μ) n
def mRet (m : ME) : MS := fun ρ μ => (m ρ μ).bind fun t μ1 => .ok (.rt t) μ1
def mRetN : MS := fun _ μ => .ok (.rt .non) μ
def mDrop (m : ME) : MS := fun ρ μ => (m ρ μ).bind fun _ μ1 => .ok (.nx ρ) μ1
def mIfS (c : MT) (a b : MS) : MS := fun ρ μ => (c ρ μ).bind fun z μ1 => if z = true then a ρ μ1 else b ρ μ1
def mAsg (m : ME) (g : MG) : MS := fun ρ μ => (m ρ μ).bind fun t μ1 => (g t ρ μ1).bind fun ρ2 μ2 => .ok (.nx ρ2) μ2
def mSet (i : Nat) (m : ME) : MS := fun ρ μ => (m ρ μ).bind fun t μ1 => .ok (.nx (ρ.set i (some t))) μ1
def mPar2 (i j : Nat) (m : MA) : MS := fun ρ μ => (m ρ μ).bind fun ts μ1 => match ts with
  | [a, b] => .ok (.nx ((ρ.set i (some a)).set j (some b))) μ1
  | _ => .bad
def mPar3 (i j l : Nat) (m : MA) : MS := fun ρ μ => (m ρ μ).bind fun ts μ1 => match ts with
  | [a, b, c] => .ok (.nx (((ρ.set i (some a)).set j (some b)).set l (some c))) μ1
  | _ => .bad
def mAug (i : Nat) (g : G2) (m : ME) : MS := fun ρ μ => match ρ[i]? with
  | some (some x) => (m ρ μ).bind fun y μ1 => (g x y μ1).bind fun z μ2 => .ok (.nx (ρ.set i (some z))) μ2
  | _ => .bad
section
variable {X : Cx} {E : XK} {pos : Pos} {st : Stmt} {rest : List Stmt} {a b c : Expr} {m n : MS} {ma mb : ME}
theorem js_bad : JS X E st mBad := PS_imp ps_never fun D σ H ⟨W, ρ, μ, k, st, q⟩ => q.elim
theorem jss_bad {sts : List Stmt} : JSs X E sts mBad := PSs_imp pss_never fun D σ H ⟨W, ρ, μ, k, st, q⟩ => q.elim
theorem js_pass : JS X E (.Pass pos) mNext := PS_imp ps_pass fun D σ H ⟨W, ρ, μ, k, st, q⟩ => q H W σ Fr.refl k st
theorem js_break : JS X E (.Break pos) mBrk := PS_imp ps_break fun D σ H ⟨W, ρ, μ, k, st, q⟩ => q H W σ Fr.refl k st
theorem js_continue : JS X E (.Continue pos) mCont := PS_imp ps_continue fun D σ H ⟨W, ρ, μ, k, st, q⟩ => q H W σ Fr.refl k st
theorem jss_nil : JSs X E [] mNext := PSs_imp pss_nil fun D σ H ⟨W, ρ, μ, k, st, q⟩ => q H W σ Fr.refl k st
theorem PoS.seq {K : KW} {E : XK} {H : Hp} {W : Wd} {D : Ends} {o : Out Flo} (q : PoS K E H W D (seqO o n)) : PoS K E H W { D with nx := tMS K E n D } o := by
  cases o with
  | ok a m =>
    cases a with
    | nx ρ => exact fun H2 W2 σ2 f2 k r => ⟨W2, ρ, m, k, r, PoS.fr f2 q⟩
    | rt ρ => exact q
    | bk ρ => exact q
    | ct ρ => exact q
  | exc x m => exact q
  | bad => exact q
theorem jss_cons (h1 : JS X E st m) (h2 : JSs X E rest n) : JSs X E (st :: rest) (mSeq m n) := PSs_imp (pss_cons h1 h2) fun D σ H ⟨W, ρ, μ, k, st, q⟩ => ⟨W, ρ, μ, k, st, PoS.seq q⟩
theorem jss_one (h1 : JS X E st m) : JSs X E [st] m := pss_one h1
theorem js_ret (h : JE X E a ma) : JS X E (.Return (some a) pos) (mRet ma) := PS_imp (ps_ret h) fun D σ H ⟨W, ρ, μ, k, st, q⟩ =>
  ⟨W, ρ, μ, k, st, PoS.bind (R := Rp (kwOf X)) q fun t μ1 H1 W1 v f1 k1 r1 q1 => q1 H1 W1 v Fr.refl k1 r1⟩
theorem js_retN : JS X E (.Return none pos) mRetN := PS_imp ps_retN fun D σ H ⟨W, ρ, μ, k, st, q⟩ => q H W .non Fr.refl k .non
theorem js_expr (h : JE X E a ma) (hs : swapsWith a none pos.line X.env = pure false := by rfl) : JS X E (.Expr a pos) (mDrop ma) := PS_imp (ps_expr h hs) fun D σ H ⟨W, ρ, μ, k, st, q⟩ =>
  ⟨W, ρ, μ, k, st, PoS.bind (R := Rp (kwOf X)) q fun t μ1 H1 W1 v f1 k1 r1 q1 => q1 H1 W1 σ Fr.refl k1 (st.fr f1)⟩
theorem js_if {c : Expr} {mc : MT} {as bs : List Stmt} (hc : JT X E c mc) (ha : JSs X E as m) (hb : JSs X E bs n) : JS X E (.If c as bs pos) (mIfS mc m n) := PS_imp (ps_if hc ha hb) fun D σ H ⟨W, ρ, μ, k, st, q⟩ =>
  ⟨W, ρ, μ, k, st, PoS.bind (R := fun _ _ a b => b = a) q fun t μ1 H1 W1 v f1 k1 r1 q1 => by
    subst r1
    cases v with
    | true =>
      rw [if_pos rfl] at q1 ⊢
      exact ⟨W1, ρ, μ1, k1, st.fr f1, q1⟩
    | false =>
      rw [if_neg Bool.false_ne_true] at q1 ⊢
      exact ⟨W1, ρ, μ1, k1, st.fr f1, q1⟩⟩
theorem PoG.toS {K : KW} {E : XK} {vs : List Nat} {σ : L2.St} {H : Hp} {W : Wd} {D : Ends} {o : Out Rho} (q : PoS K E H W D (o.bind fun ρ2 μ2 => .ok (.nx ρ2) μ2)) : PoG K E vs σ H W D.nx o := by
  cases o with
  | ok a m => exact fun H1 W1 v f k r _ => q H1 W1 v f k r
  | exc x m => exact q
  | bad => exact q.elim
theorem js_asg {vs : List Nat} {tg : Expr} {g : MG} (ha : JE X E a ma) (hg : JG X E vs tg g) (hs : swapsWithSole [tg] a pos.line X.env = pure false := by rfl) (hw : swappedStores [tg] a X.env = pure none := by rfl)
    (h1 : (assignEach [tg] X.env).map (·.2) = [assign tg X.env] := by rfl) : JS X E (.Assign [tg] a pos) (mAsg ma g) := PS_imp (ps_asg ha hg hs hw h1) fun D σ H ⟨W, ρ, μ, k, st, q⟩ =>
  ⟨W, ρ, μ, k, st, PoS.bind (R := Rp (kwOf X)) q fun t μ1 H1 W1 v f1 k1 r1 q1 => ⟨W1, ρ, μ1, t, k1, st.fr f1, r1, PoG.toS q1⟩⟩
theorem tSet_M {i : Nat} : ∀ D σ H, tMS (kwOf X) E (mSet i ma) D σ H → tAsg (tM (kwOf X) E ma) (gName i) D σ H := fun D σ H ⟨W, ρ, μ, k, st, q⟩ =>
  ⟨W, ρ, μ, k, st, PoS.bind (R := Rp (kwOf X)) q fun t μ1 H1 W1 v f1 k1 r1 q1 => q1 H1 W1 _ Fr.refl k1 ((st.fr f1).set r1 i)⟩
theorem js_set {i : Nat} {x : Str} {pos' : Pos} (hN : X.N.Nodup) (hi : X.N[i]? = some x) (hx : Loc X.env.scope x) (ha : JE X E a ma) (hs : swapsWith a (some (.Name x pos')) pos.line X.env = pure false := by rfl)
    (hf : X.fn x = true ∨ X.env.scope.names.lookup x = some .local := by first | exact .inl rfl | exact .inr rfl | assumption) : JS X E (.Assign [.Name x pos'] a pos) (mSet i ma) := PS_imp (ps_set hN hi hx ha hs hf) tSet_M
theorem js_par2 {i j : Nat} {x y : Str} {a b : Expr} {mm : MA} {px py pt : Pos} {kt k2 pt2} (hc : X.calm = true) (hN : X.N.Nodup) (hi : X.N[i]? = some x) (hj : X.N[j]? = some y) (hij : i ≠ j)
    (hx : X.env.scope.names.lookup x = some .local) (hy : X.env.scope.names.lookup y = some .local) (ha : JA X E [a, b] mm)
    (hw : swappedStores [.Tuple [.Name x px, .Name y py] kt pt] (.Tuple [a, b] k2 pt2) X.env = pure (some [x, y]) := by rfl)
    (hs : swapsWithSole [.Tuple [.Name x px, .Name y py] kt pt] (.Tuple [a, b] k2 pt2) pos.line X.env = pure false := by rfl) :
    JS X E (.Assign [.Tuple [.Name x px, .Name y py] kt pt] (.Tuple [a, b] k2 pt2) pos) (mPar2 i j mm) := PS_imp (ps_par hc hN hi hj hij hx hy ha hw hs) fun D σ H ⟨W, ρ, μ, k, st, q⟩ =>
  ⟨W, ρ, μ, k, st, PoS.bind (R := RpL (kwOf X)) q fun t μ1 H1 W1 v f1 k1 r1 q1 => by
    match t, r1, q1 with
    | [t1, t2], .cons r1 (.cons r2 .nil), q1 => exact ⟨_, _, rfl, q1 H1 W1 _ Fr.refl k1 (((st.fr f1).set r1 i).set r2 j)⟩
    | [], _, q1 => exact q1.elim
    | [_], _, q1 => exact q1.elim
    | _ :: _ :: _ :: _, _, q1 => exact q1.elim⟩
theorem js_par3 {i j l : Nat} {x y z : Str} {a b c : Expr} {mm : MA} {px py pz pt : Pos} {kt k2 pt2} (hc : X.calm = true) (hN : X.N.Nodup) (hi : X.N[i]? = some x) (hj : X.N[j]? = some y) (hl : X.N[l]? = some z) (hij : i ≠ j) (hil : i ≠ l) (hjl : j ≠ l)
    (hx : X.env.scope.names.lookup x = some .local) (hy : X.env.scope.names.lookup y = some .local) (hz : X.env.scope.names.lookup z = some .local) (ha : JA X E [a, b, c] mm)
    (hw : swappedStores [.Tuple [.Name x px, .Name y py, .Name z pz] kt pt] (.Tuple [a, b, c] k2 pt2) X.env = pure (some [x, y, z]) := by rfl)
    (hs : swapsWithSole [.Tuple [.Name x px, .Name y py, .Name z pz] kt pt] (.Tuple [a, b, c] k2 pt2) pos.line X.env = pure false := by rfl) :
    JS X E (.Assign [.Tuple [.Name x px, .Name y py, .Name z pz] kt pt] (.Tuple [a, b, c] k2 pt2) pos) (mPar3 i j l mm) := PS_imp (ps_par3 hc hN hi hj hl hij hil hjl hx hy hz ha hw hs) fun D σ H ⟨W, ρ, μ, k, st, q⟩ =>
  ⟨W, ρ, μ, k, st, PoS.bind (R := RpL (kwOf X)) q fun t μ1 H1 W1 v f1 k1 r1 q1 => by
    match t, r1, q1 with
    | [t1, t2, t3], .cons r1 (.cons r2 (.cons r3 .nil)), q1 => exact ⟨_, _, _, rfl, q1 H1 W1 _ Fr.refl k1 ((((st.fr f1).set r1 i).set r2 j).set r3 l)⟩
    | [], _, q1 => exact q1.elim
    | [_], _, q1 => exact q1.elim
    | [_, _], _, q1 => exact q1.elim
    | _ :: _ :: _ :: _ :: _, _, q1 => exact q1.elim⟩
theorem js_aug {i : Nat} {x : Str} {op : Operator} {g : G2} {pos' : Pos} (hN : X.N.Nodup) (hi : X.N[i]? = some x) (hx : Loc X.env.scope x) (ha : JE X E a ma) (ho : OpR X (inplaceOp op) (rM (kwOf X) E g))
    (hf : X.fn x = true ∨ X.env.scope.names.lookup x = some .local := by first | exact .inl rfl | exact .inr rfl | assumption) : JS X E (.AugAssign (.Name x pos') op a pos) (mAug i g ma) :=
  PS_imp (ps_aug (ti := rM (kwOf X) E g) hN hi hx ha (fun pins s σ H x y v u Q I r1 r2 h => ho pins s σ H x y v u Q I r1 r2 h) hf) fun D σ H ⟨W, ρ, μ, k, st, q⟩ => by
    unfold mAug at q
    cases h1 : ρ[i]? with
    | none => rw [h1] at q; exact q.elim
    | some o =>
      cases o with
      | none => rw [h1] at q; exact q.elim
      | some t =>
        rw [h1] at q
        obtain ⟨v, h2, r⟩ := st.at_ i t h1
        exact ⟨v, h2, W, ρ, μ, k, st, PoS.bind (R := Rp (kwOf X)) q fun y μ1 H1 W1 u f1 k1 r1 q1 =>
          ⟨W1, μ1, t, y, k1, r.fr f1, r1, PoS.bind (R := Rp (kwOf X)) q1 fun z μ2 H2 W2 w f2 k2 r2 q2 => q2 H2 W2 _ Fr.refl k2 (((st.fr f1).fr f2).set r2 i)⟩⟩
end

/-! ### what a loop walks -/
/-- numbered items -/
def enT : Nat → List T → List T
  | _, [] => []
  | n, t :: ts => .tup [.int n, t] :: enT (n + 1) ts
theorem enT_len : ∀ (n : Nat) (ts : List T), (enT n ts).length = ts.length
  | _, [] => rfl
  | n, t :: ts => congrArg Nat.succ (enT_len (n + 1) ts)
theorem enT_get : ∀ {n i : Nat} {ts : List T} {t : T}, (enT n ts)[i]? = some t → ∃ u, ts[i]? = some u ∧ t = .tup [.int ((n + i : Nat) : Int), u]
  | _, _, [], _, h => by simp [enT] at h
  | n, 0, u :: us, t, h => by simp [enT] at h; exact ⟨u, rfl, h.symm⟩
  | n, i + 1, u :: us, t, h => by
    have h' : (enT (n + 1) us)[i]? = some t := by simpa [enT] using h
    obtain ⟨v, h1, h2⟩ := enT_get h'
    exact ⟨v, by simpa using h1, by rw [h2]; congr 4; omega⟩
/-- what is walked: items; or a list of the store, that is locked meanwhile, its items, numbered or not -/
inductive Wk where
  | fz (ts : List T)
  | st (i : Nat) (en : Bool)
def enB (b : Bool) (ts : List T) : List T := if b = true then enT 0 ts else ts
def Its : Wk → Mu → List T → Prop
  | .fz us, _, ts => us = ts
  | .st i b, μ, ts => ∃ o us, μ[i]? = some (.lck o) ∧ o.un = .lst us ∧ ts = enB b us
theorem Its.lk {p : Wk} {μ μ' : Mu} {ts : List T} (h : Its p μ ts) (l : Lk μ μ') : Its p μ' ts := by
  cases p with
  | fz us => exact h
  | st i b =>
    obtain ⟨o, us, h1, h2⟩ := h
    exact ⟨o, us, l i o h1, h2⟩
/-- the items, one behind another; the store may be looked at between them -/
def Yl (K : KW) (J : It) (p : Wk) (H : Hp) (W : Wd) : Prop := ∀ H1 W1 μ ts, Rf H W H1 W1 → Ok K H1 W1 μ → Its p μ ts →
  (∀ i, i < ts.length → J.go i H1) ∧ J.stop ts.length H1 ∧
    ∀ i x H2 t, J.yld i H1 x H2 → ts[i]? = some t → ∃ W2, Fr H1 W1 H2 W2 ∧ Ok K H2 W2 μ ∧ Rp K H2 W2 t x
theorem Yl.fr {K : KW} {J : It} {p : Wk} {H H' : Hp} {W W' : Wd} (f : Fr H W H' W') (h : Yl K J p H W) : Yl K J p H' W' := fun H1 W1 μ ts f1 k => h H1 W1 μ ts (f.toRf.trans f1) k
abbrev MI := Rho → Mu → Out Wk
def PoI (K : KW) (E : XK) := Po (α := Wk) (β := It) K E (fun H W ts J => Yl K J ts H W)
def tMI (K : KW) (E : XK) (m : MI) : TI := fun σ H R => ∃ W ρ μ, Ok K H W μ ∧ RpSt K H W σ ρ ∧ PoI K E H W R (m ρ μ)
abbrev JI (X : Cx) (E : XK) (tg e : Expr) (m : MI) : Prop := PI X tg e (tMI (kwOf X) E m)
theorem PI_imp {X : Cx} {tg e : Expr} {t t' : TI} (h : PI X tg e t) (hi : ∀ σ H Q, t' σ H Q → t σ H Q) : PI X tg e t' := ⟨fun pins s σ H R I q => h.run pins s σ H R I (hi σ H R q)⟩
theorem PI_or {X : Cx} {tg e : Expr} {t t' : TI} (h : PI X tg e t) (h' : PI X tg e t') : PI X tg e (fun σ H R => t σ H R ∨ t' σ H R) := ⟨fun pins s σ H R I q => q.elim (h.run pins s σ H R I) (h'.run pins s σ H R I)⟩
theorem yl_list {K : KW} {a : Addr} {ts : List T} {vs : List V} {H : Hp} {W : Wd} (h : SqL K H a vs) (hr : ∀ {H1 W1}, Rf H W H1 W1 → SqL K H1 a vs) (r : RpL K H W ts vs) : Yl K (Itl K a) (.fz ts) H W := fun H1 W1 μ ts' f k e => by
  cases e
  have h1 := hr f
  have r1 := r.rf f
  refine ⟨fun i hi => ?_, ⟨vs, h1, by rw [r.length]; exact Nat.le_refl _⟩, fun i x H2 t y ht => ?_⟩
  · obtain ⟨v, hv, _⟩ := r1.get (List.getElem?_eq_getElem hi)
    exact ⟨vs, v, h1, hv⟩
  · obtain ⟨rfl, y⟩ := y
    obtain ⟨v, hv, rv⟩ := r1.get ht
    have e1 := y vs h1
    rw [hv] at e1; cases e1
    exact ⟨W1, Fr.refl, k, rv⟩
theorem yl_tup {K : KW} {a : Addr} {ts : List T} {vs : List V} {H : Hp} {W : Wd} (h : SqT K H a vs) (r : RpL K H W ts vs) : Yl K (Itt K a) (.fz ts) H W := fun H1 W1 μ ts' f k e => by
  cases e
  have h1 := sqT_rf f h
  have r1 := r.rf f
  refine ⟨fun i hi => ?_, ⟨vs, h1, by rw [r.length]; exact Nat.le_refl _⟩, fun i x H2 t y ht => ?_⟩
  · obtain ⟨v, hv, _⟩ := r1.get (List.getElem?_eq_getElem hi)
    exact ⟨vs, v, h1, hv⟩
  · obtain ⟨rfl, y⟩ := y
    obtain ⟨v, hv, rv⟩ := r1.get ht
    have e1 := y vs h1
    rw [hv] at e1; cases e1
    exact ⟨W1, Fr.refl, k, rv⟩
/-- a list of the store -/
theorem yl_mr {K : KW} {a : Addr} {i : Nat} {H : Hp} {W : Wd} (h : W.e[i]? = some a) : Yl K (Itl K a) (.st i false) H W := fun H1 W1 μ ts f k l => by
  obtain ⟨o, us, l1, l2, l3⟩ := l
  have l3 : ts = us := l3
  subst l3
  have e1 := f.et i a h
  obtain ⟨b, r⟩ := RpOb.un (k.ob i a _ e1 l1)
  have r : RpOb K H1 W1 a b o.un := r
  rw [l2] at r
  obtain ⟨vs, h1, r1⟩ := r
  have sq : SqL K H1 a vs := .inl (.inl h1)
  refine ⟨fun i hi => ?_, ⟨vs, sq, by rw [r1.length]; exact Nat.le_refl _⟩, fun i x H2 t y ht => ?_⟩
  · obtain ⟨v, hv, _⟩ := r1.get (List.getElem?_eq_getElem hi)
    exact ⟨vs, v, sq, hv⟩
  · obtain ⟨rfl, y⟩ := y
    obtain ⟨v, hv, rv⟩ := r1.get ht
    have e1 := y vs sq
    rw [hv] at e1; cases e1
    exact ⟨W1, Fr.refl, k, rv⟩
def itS (t : T) (μ : Mu) : Out Wk := match t with
  | .lst ts => .ok (.fz ts) μ
  | .kls ts => .ok (.fz ts) μ
  | .tup ts => .ok (.fz ts) μ
  | .mr i => match rdM μ i with
    | some (.lst _) => .ok (.st i false) μ
    | _ => .bad
  | _ => .bad
def mItS (m : ME) : MI := fun ρ μ => (m ρ μ).bind itS
def rangeT (lo hi : Int) : List T := (List.range (hi - lo).toNat).map fun i : Nat => T.int (lo + (i : Int))
def inR (i : Int) : Bool := decide (-1000000 ≤ i) && decide (i ≤ 1000000)
def itR1 (ts : List T) (μ : Mu) : Out Wk := match ts with
  | [.int hi] => if inR hi = true then .ok (.fz (rangeT 0 hi)) μ else .bad
  | _ => .bad
def itR2 (ts : List T) (μ : Mu) : Out Wk := match ts with
  | [.int lo, .int hi] => if (inR lo && inR hi) = true then .ok (.fz (rangeT lo hi)) μ else .bad
  | _ => .bad
def zipT (xs ys : List T) : List T := (xs.zip ys).map fun p => .tup [p.1, p.2]
def itZ (ts : List T) (μ : Mu) : Out Wk := match ts with
  | [.lst xs, .lst ys] => .ok (.fz (zipT xs ys)) μ
  | [.tup xs, .tup ys] => .ok (.fz (zipT xs ys)) μ
  | _ => .bad
def mIt (m : MA) (f : List T → Mu → Out Wk) : MI := fun ρ μ => (m ρ μ).bind f
section
variable {X : Cx} {E : XK} {tg a b : Expr} {ma : ME} {mm : MA} {p pos : Pos}
theorem ji_seq (h : JE X E a ma) : JI X E tg a (mItS ma) := PI_imp (PI_or (pi_list h) (pi_tup h)) fun σ H R ⟨W, ρ, μ, k, st, q⟩ => by
  unfold mItS at q
  cases hm : ma ρ μ with
  | bad => rw [hm] at q; exact q.elim
  | exc x m => rw [hm] at q; exact .inl ⟨W, ρ, μ, k, st, by rw [hm]; exact q⟩
  | ok t μ1 =>
    rw [hm] at q
    have q' : PoI (kwOf X) E H W R (itS t μ1) := q
    unfold itS at q'
    split at q'
    · rename_i ts
      refine .inl ⟨W, ρ, μ, k, st, ?_⟩
      rw [hm]
      intro H1 W1 v f1 k1 r1
      cases r1 with
      | lst h1 h2 => exact ⟨_, rfl, ⟨_, h1.sq⟩, q' H1 W1 _ f1 k1 (yl_list h1.sq (fun f => (lf_rf f h1).sq) h2)⟩
    · rename_i ts
      refine .inl ⟨W, ρ, μ, k, st, ?_⟩
      rw [hm]
      intro H1 W1 v f1 k1 r1
      cases r1 with
      | kls h1 h2 => exact ⟨_, rfl, ⟨_, h1.sq⟩, q' H1 W1 _ f1 k1 (yl_list h1.sq (fun f => (kf_rf f h1).sq) h2)⟩
    · rename_i ts
      refine .inr ⟨W, ρ, μ, k, st, ?_⟩
      rw [hm]
      intro H1 W1 v f1 k1 r1
      cases r1 with
      | tup h1 h2 => exact ⟨_, rfl, ⟨_, h1⟩, q' H1 W1 _ f1 k1 (yl_tup h1 h2)⟩
    · rename_i i
      split at q'
      · rename_i ts hrd
        refine .inl ⟨W, ρ, μ, k, st, ?_⟩
        rw [hm]
        intro H1 W1 v f1 k1 r1
        cases r1 with
        | @mr _ a h1 =>
          obtain ⟨b, vs, z1, z2⟩ := k1.rd h1 hrd
          exact ⟨a, rfl, ⟨vs, .inl (.inl z1)⟩, q' H1 W1 _ f1 k1 (yl_mr h1)⟩
      · exact q'.elim
    · exact q'.elim
theorem yl_range {K : KW} {lo hi : Int} {n : Nat} (hn : n = (hi - lo).toNat) {H : Hp} {W : Wd} : Yl K (Itr lo n) (.fz (rangeT lo hi)) H W := fun H1 W1 μ ts' f k e => by
  cases e
  subst hn
  have hl : (rangeT lo hi).length = (hi - lo).toNat := by unfold rangeT; rw [List.length_map, List.length_range]
  refine ⟨fun i hi' => by rw [hl] at hi'; exact hi', by rw [hl]; exact Nat.le_refl _, fun i x H2 t y ht => ?_⟩
  obtain ⟨rfl, rfl⟩ := y
  have hi' : i < (hi - lo).toNat := by
    have := (List.getElem?_eq_some_iff.mp ht).1
    rwa [hl] at this
  unfold rangeT at ht
  rw [List.getElem?_map, List.getElem?_range hi'] at ht
  cases ht
  exact ⟨W1, Fr.refl, k, .int _⟩
theorem inR_ok {i : Int} (h : inR i = true) : -(2 ^ 62) ≤ i ∧ i < 2 ^ 62 := by
  unfold inR at h
  rw [Bool.and_eq_true, decide_eq_true_eq, decide_eq_true_eq] at h
  omega
theorem ji_range1 (hg : Gl X "range") (hm : X.mg "range" = none) (ha : JA X E [a] mm) (hs : starEach [a] X.env = [(false, eval a X.env)] := by rfl) : JI X E tg (.Call (.Name "range" p) [a] [] pos) (mIt mm itR1) :=
  PI_imp (pi_range1 hg hm ha hs) fun σ H R ⟨W, ρ, μ, k, st, q⟩ => ⟨W, ρ, μ, k, st, Po.bind (R := RpL (kwOf X)) (R' := fun H W ts J => Yl (kwOf X) J ts H W) q fun ts μ1 _ H1 W1 v f1 k1 r1 q1 => by
    unfold itR1 at q1
    split at q1
    · split at q1
      · rename_i hi _ hh
        obtain ⟨h1, h2⟩ := inR_ok hh
        cases r1 with
        | cons r1 rl =>
          cases r1; cases rl
          exact ⟨hi, rfl, h1, h2, q1 H1 W1 _ Fr.refl k1 (yl_range (by simp))⟩
      · exact q1.elim
    · exact q1.elim⟩
theorem ji_range2 (hg : Gl X "range") (hm : X.mg "range" = none) (ha : JA X E [a, b] mm) (hs : starEach [a, b] X.env = [(false, eval a X.env), (false, eval b X.env)] := by rfl) (hs2 : starEach [b] X.env = [(false, eval b X.env)] := by rfl) :
    JI X E tg (.Call (.Name "range" p) [a, b] [] pos) (mIt mm itR2) :=
  PI_imp (pi_range2 hg hm ha hs hs2) fun σ H R ⟨W, ρ, μ, k, st, q⟩ => ⟨W, ρ, μ, k, st, Po.bind (R := RpL (kwOf X)) (R' := fun H W ts J => Yl (kwOf X) J ts H W) q fun ts μ1 _ H1 W1 v f1 k1 r1 q1 => by
    unfold itR2 at q1
    split at q1
    · split at q1
      · rename_i lo hi _ hh
        rw [Bool.and_eq_true] at hh
        obtain ⟨h1, h2⟩ := inR_ok hh.1
        obtain ⟨h3, h4⟩ := inR_ok hh.2
        cases r1 with
        | cons r1 rl =>
          cases rl with
          | cons r2 rl =>
            cases r1; cases r2; cases rl
            exact ⟨lo, hi, rfl, ⟨h1, h2, h3, h4⟩, q1 H1 W1 _ Fr.refl k1 (yl_range rfl)⟩
      · exact q1.elim
    · exact q1.elim⟩
theorem zipT_get : ∀ {xs ys : List T} {i : Nat} {t : T}, (zipT xs ys)[i]? = some t → ∃ x y, xs[i]? = some x ∧ ys[i]? = some y ∧ t = .tup [x, y]
  | [], _, _, _, h => by simp [zipT] at h
  | _ :: _, [], _, _, h => by simp [zipT] at h
  | x :: xs, y :: ys, 0, t, h => by simp [zipT] at h; exact ⟨x, y, rfl, rfl, h.symm⟩
  | x :: xs, y :: ys, i + 1, t, h => by
    have h' : (zipT xs ys)[i]? = some t := by simpa [zipT] using h
    obtain ⟨a, b, h1, h2, h3⟩ := zipT_get h'
    exact ⟨a, b, by simpa using h1, by simpa using h2, h3⟩
theorem zipT_len (xs ys : List T) : (zipT xs ys).length = min xs.length ys.length := by
  unfold zipT
  rw [List.length_map, List.length_zip]
theorem yl_zip {K : KW} {a b : Addr} {xs ys : List T} {vs us : List V} {H : Hp} {W : Wd} (ha : LF H W a vs) (ra : RpL K H W xs vs) (hb : LF H W b us) (rb : RpL K H W ys us) : Yl K (Itz K a b) (.fz (zipT xs ys)) H W := fun H1 W1 μ ts' f k e => by
  cases e
  have h1 : SqL K.K H1 a vs := (lf_rf f ha).sq
  have h2 : SqL K.K H1 b us := (lf_rf f hb).sq
  have r1 := ra.rf f
  have r2 := rb.rf f
  have l1 := r1.length
  have l2 := r2.length
  refine ⟨fun i hi => ?_, ⟨vs, us, h1, h2, by rw [zipT_len]; omega⟩, fun i x H2 t y ht => ?_⟩
  · rw [zipT_len] at hi
    have i1 : i < xs.length := by omega
    have i2 : i < ys.length := by omega
    obtain ⟨v, hv, _⟩ := r1.get (List.getElem?_eq_getElem i1)
    obtain ⟨u, hu, _⟩ := r2.get (List.getElem?_eq_getElem i2)
    exact ⟨vs, us, v, u, h1, h2, hv, hu⟩
  · obtain ⟨p, v, u, rfl, hp, rfl, y1, y2⟩ := y
    obtain ⟨x, y, hx, hy, rfl⟩ := zipT_get ht
    obtain ⟨v', hv, rv⟩ := r1.get hx
    obtain ⟨u', hu, ru⟩ := r2.get hy
    have e1 := y1 vs h1
    rw [hv] at e1; cases e1
    have e2 := y2 us h2
    rw [hu] at e2; cases e2
    obtain ⟨f', k'⟩ := k.frozen (o := .tup _) hp
    exact ⟨_, f', k', .tup (.inl (.inl upd_same)) (.cons (rv.fr f') (.cons (ru.fr f') .nil))⟩
theorem yl_zipT {K : KW} {a b : Addr} {xs ys : List T} {vs us : List V} {H : Hp} {W : Wd} (ha : SqT K H a vs) (ra : RpL K H W xs vs) (hb : SqT K H b us) (rb : RpL K H W ys us) : Yl K (RZ.ItzT K a b) (.fz (zipT xs ys)) H W := fun H1 W1 μ ts' f k e => by
  cases e
  have h1 := sqT_rf f ha
  have h2 := sqT_rf f hb
  have r1 := ra.rf f
  have r2 := rb.rf f
  have l1 := r1.length
  have l2 := r2.length
  refine ⟨fun i hi => ?_, ⟨vs, us, h1, h2, by rw [zipT_len]; omega⟩, fun i x H2 t y ht => ?_⟩
  · rw [zipT_len] at hi
    have i1 : i < xs.length := by omega
    have i2 : i < ys.length := by omega
    obtain ⟨v, hv, _⟩ := r1.get (List.getElem?_eq_getElem i1)
    obtain ⟨u, hu, _⟩ := r2.get (List.getElem?_eq_getElem i2)
    exact ⟨vs, us, v, u, h1, h2, hv, hu⟩
  · obtain ⟨p, v, u, rfl, hp, rfl, y1, y2⟩ := y
    obtain ⟨x, y, hx, hy, rfl⟩ := zipT_get ht
    obtain ⟨v', hv, rv⟩ := r1.get hx
    obtain ⟨u', hu, ru⟩ := r2.get hy
    have e1 := y1 vs h1
    rw [hv] at e1; cases e1
    have e2 := y2 us h2
    rw [hu] at e2; cases e2
    obtain ⟨f', k'⟩ := k.frozen (o := .tup _) hp
    exact ⟨_, f', k', .tup (.inl (.inl upd_same)) (.cons (rv.fr f') (.cons (ru.fr f') .nil))⟩
theorem ji_zip {elts : List Expr} {kk : Nat} {tpos : Pos} (hg : Gl X "zip") (hm : X.mg "zip" = none) (ha : JA X E [a, b] mm)
    (hs : starEach [a, b] X.env = (false, eval a X.env) :: starEach [b] X.env := by rfl) (hpl : (backTo pos (starEach [b] X.env)).any (·.1) = false := by rfl) :
    JI X E (.Tuple elts kk tpos) (.Call (.Name "zip" p) [a, b] [] pos) (mIt mm itZ) :=
  PI_imp (RZ.pi_zipA hg hm ha hs hpl) fun σ H R ⟨W, ρ, μ, k, st, q⟩ => ⟨W, ρ, μ, k, st, Po.bind (R := RpL (kwOf X)) (R' := fun H W ts J => Yl (kwOf X) J ts H W) q fun ts μ1 _ H1 W1 v f1 k1 r1 q1 => by
    unfold itZ at q1
    split at q1
    · cases r1 with
      | cons r1 rl =>
        cases rl with
        | cons r2 rl =>
          cases rl
          cases r1 with
          | lst h1 l1 =>
            cases r2 with
            | lst h2 l2 => exact ⟨_, _, _, _, rfl, .inl ⟨h1.sq, h2.sq, q1 H1 W1 _ Fr.refl k1 (yl_zip h1 l1 h2 l2)⟩⟩
    · cases r1 with
      | cons r1 rl =>
        cases rl with
        | cons r2 rl =>
          cases rl
          cases r1 with
          | tup h1 l1 =>
            cases r2 with
            | tup h2 l2 => exact ⟨_, _, _, _, rfl, .inr ⟨h1, h2, q1 H1 W1 _ Fr.refl k1 (yl_zipT h1 l1 h2 l2)⟩⟩
    · exact q1.elim⟩
end

/-! ### loops -/
def stepO (o : Out Flo) (k : MS) : Out Flo := match o with
  | .ok (.nx ρ) μ => k ρ μ
  | .ok (.ct ρ) μ => k ρ μ
  | .ok (.bk ρ) μ => .ok (.nx ρ) μ
  | o => o
def loopM (g : MG) (mb : MS) : List T → MS
  | [], ρ, μ => .ok (.nx ρ) μ
  | t :: ts, ρ, μ => (g t ρ μ).bind fun ρ1 μ1 => stepO (mb ρ1 μ1) (loopM g mb ts)
/-- the list at i is locked while f is at work -/
def unlO {α : Type} (i : Nat) (o : MO) (r : Out α) : Out α := match r with
  | .ok a μ => .ok a (μ.set i o)
  | .exc x μ => .exc x (μ.set i o)
  | .bad => .bad
def walkO {α : Type} (p : Wk) (f : List T → Mu → Out α) (μ : Mu) : Out α := match p with
  | .fz ts => f ts μ
  | .st i b => match μ[i]? with
    | some o => match o.un with
      | .lst ts => unlO i o (f (enB b ts) (μ.set i (.lck o)))
      | _ => .bad
    | none => .bad
def mFor (mi : MI) (g : MG) (mb : MS) : MS := fun ρ μ => (mi ρ μ).bind fun p μ1 => walkO p (fun ts => loopM g mb ts ρ) μ1
theorem isLO_un : ∀ {o : MO} {ts : List T}, o.un = .lst ts → isLO o = true
  | .lst _, _, _ => rfl
  | .lck o, ts, h => isLO_un (o := o) h
  | .itd o, ts, h => isLO_un (o := o) h
  | .dead, _, h => by cases h
  | .tab _ _, _, h => by cases h
  | .dic _ _, _, h => by cases h
  | .obj _ _ _, _, h => by cases h
/-- the walk over it, as if there were no lock -/
theorem PoS.walk {K : KW} {E : XK} {H : Hp} {W : Wd} {D : Ends} {p : Wk} {f : List T → Mu → Out Flo} {μ : Mu} (k : Ok K H W μ) (hf : ∀ ts ν, LkO ν (f ts ν)) (q : PoS K E H W D (walkO p f μ)) :
    ∃ ts ν, Ok K H W ν ∧ Its p ν ts ∧ PoS K E H W D (f ts ν) := by
  unfold walkO at q
  split at q
  · rename_i ts
    exact ⟨ts, μ, k, rfl, q⟩
  · rename_i i b
    split at q
    · rename_i o ho
      split at q
      · rename_i us hu
        generalize hts : enB b us = ts at q
        have hat : (μ.set i (.lck o))[i]? = some (.lck o) := List.getElem?_set_self (List.getElem?_eq_some_iff.mp ho).1
        refine ⟨ts, _, k.lock ho, ⟨o, us, hat, hu, hts.symm⟩, ?_⟩
        have lk := hf ts (μ.set i (.lck o))
        cases e : f ts (μ.set i (.lck o)) with
        | bad => rw [e] at q; exact q.elim
        | exc x m =>
          rw [e] at q lk
          exact fun H' W' c d f' k' r' => q H' W' c d f' (k'.unlock (isLO_un hu) (lk i o hat)) r'
        | ok a m =>
          rw [e] at q lk
          cases a with
          | nx ρ => exact fun H' W' c f' k' r' => q H' W' c f' (k'.unlock (isLO_un hu) (lk i o hat)) r'
          | rt ρ => exact fun H' W' c f' k' r' => q H' W' c f' (k'.unlock (isLO_un hu) (lk i o hat)) r'
          | bk ρ => exact fun H' W' c f' k' r' => q H' W' c f' (k'.unlock (isLO_un hu) (lk i o hat)) r'
          | ct ρ => exact fun H' W' c f' k' r' => q H' W' c f' (k'.unlock (isLO_un hu) (lk i o hat)) r'
      · exact q.elim
    · exact q.elim
/-! what is locked stays -/
theorem unlO_kp {α : Type} {μ : Mu} {i : Nat} {o : MO} {r : Out α} (ho : μ[i]? = some o) (h : LkO (μ.set i (.lck o)) r) : LkO μ (unlO i o r) := by
  have go : ∀ ν, Lk (μ.set i (.lck o)) ν → Lk μ (ν.set i o) := fun ν l j x hj => by
    have hi := (List.getElem?_eq_some_iff.mp ho).1
    by_cases e : i = j
    · subst e
      rw [ho] at hj
      cases hj
      have z := l i _ (List.getElem?_set_self hi)
      rw [List.getElem?_set_self (List.getElem?_eq_some_iff.mp z).1]
    · rw [List.getElem?_set_ne e]
      exact l j x (by rw [List.getElem?_set_ne e]; exact hj)
  cases r with
  | ok a ν => exact go ν h
  | exc x ν => exact go ν h
  | bad => exact True.intro
theorem walkO_kp {α : Type} {p : Wk} {f : List T → Mu → Out α} {μ : Mu} (hf : ∀ ts ν, LkO ν (f ts ν)) : LkO μ (walkO p f μ) := by
  unfold walkO
  split
  · exact hf _ _
  · split
    · rename_i o ho
      split
      · exact unlO_kp ho (hf _ _)
      · exact True.intro
    · exact True.intro
theorem seqO_kp {μ : Mu} {o : Out Flo} {n : MS} (h : LkO μ o) (hn : ∀ ρ μ, LkO μ (n ρ μ)) : LkO μ (seqO o n) := by
  unfold seqO
  split
  · rename_i ρ μ1
    have q := hn ρ μ1
    show LkO μ (n ρ μ1)
    cases e : n ρ μ1 with
    | ok b μ2 => rw [e] at q; exact Lk.trans h q
    | exc x μ2 => rw [e] at q; exact Lk.trans h q
    | bad => exact True.intro
  · exact h
theorem stepO_kp {μ : Mu} {o : Out Flo} {n : MS} (h : LkO μ o) (hn : ∀ ρ μ, LkO μ (n ρ μ)) : LkO μ (stepO o n) := by
  have go : ∀ ρ μ1, Lk μ μ1 → LkO μ (n ρ μ1) := fun ρ μ1 h => by
    have q := hn ρ μ1
    cases e : n ρ μ1 with
    | ok b μ2 => rw [e] at q; exact Lk.trans h q
    | exc x μ2 => rw [e] at q; exact Lk.trans h q
    | bad => exact True.intro
  unfold stepO
  split
  · exact go _ _ h
  · exact go _ _ h
  · exact h
  · exact h
theorem loopM_kp {g : MG} {mb : MS} (hg : KpG g) (hb : KpR mb) : ∀ (ts : List T) (ρ : Rho) (μ : Mu), LkO μ (loopM g mb ts ρ μ)
  | [], _, _ => Lk.refl
  | t :: ts, ρ, μ => (hg.kp t ρ μ).bind fun ρ1 μ1 _ => stepO_kp (hb.kp ρ1 μ1) (loopM_kp hg hb ts)
def whileM (c : MT) (mb : MS) : Nat → MS
  | 0, _, _ => .bad
  | n + 1, ρ, μ => (c ρ μ).bind fun b μ1 => if b = true then stepO (mb ρ μ1) (whileM c mb n) else .ok (.nx ρ) μ1
theorem PoS.step {K : KW} {E : XK} {H : Hp} {W : Wd} {D : Ends} {o : Out Flo} {n : MS} {N : L2.St → Hp → Prop} {μ : Mu} (q : PoS K E H W D (stepO o n)) (lk : LkO μ o)
    (hN : ∀ ρ μ1 H' W' σ', Lk μ μ1 → Fr H W H' W' → Ok K H' W' μ1 → RpSt K H' W' σ' ρ → PoS K E H' W' D (n ρ μ1) → N σ' H') : PoS K E H W { D with nx := N, ct := N, bk := D.nx } o := by
  cases o with
  | ok a m =>
    cases a with
    | nx ρ => exact fun H2 W2 σ2 f2 k r => hN ρ m H2 W2 σ2 lk f2 k r (PoS.fr f2 q)
    | ct ρ => exact fun H2 W2 σ2 f2 k r => hN ρ m H2 W2 σ2 lk f2 k r (PoS.fr f2 q)
    | rt ρ => exact q
    | bk ρ => exact q
  | exc x m => exact q
  | bad => exact q
theorem PoS.step' {K : KW} {E : XK} {H : Hp} {W : Wd} {D : Ends} {o : Out Flo} {n : MS} {N : L2.St → Hp → Prop} (q : PoS K E H W D (stepO o n))
    (hN : ∀ ρ μ1 H' W' σ', Fr H W H' W' → Ok K H' W' μ1 → RpSt K H' W' σ' ρ → PoS K E H' W' D (n ρ μ1) → N σ' H') : PoS K E H W { D with nx := N, ct := N, bk := D.nx } o := by
  cases o with
  | ok a m =>
    cases a with
    | nx ρ => exact fun H2 W2 σ2 f2 k r => hN ρ m H2 W2 σ2 f2 k r (PoS.fr f2 q)
    | ct ρ => exact fun H2 W2 σ2 f2 k r => hN ρ m H2 W2 σ2 f2 k r (PoS.fr f2 q)
    | rt ρ => exact q
    | bk ρ => exact q
  | exc x m => exact q
  | bad => exact q
section
variable {X : Cx} {E : XK} {tg iter : Expr} {body : List Stmt} {pos : Pos} {mi : MI} {g : MG} {mb : MS} {vs : List Nat}
theorem js_for [hkg : KpG g] [hkb : KpR mb] (hp : PassesOwn (model X.prog X.w) X.A X.env X.xe) (hc : X.calm = true) (hi : JI X E tg iter mi) (hg : JG X E vs tg g) (hb : JSs X E body mb)
    (hs : ∀ x, foldedSetIterable iter X.env x = pure x := by intro _; rfl) : JS X E (.For tg iter body [] pos) (mFor mi g mb) := PS_imp (ps_for hp hc hi hg hb hs) fun D σ H ⟨W, ρ, μ, k, st, q⟩ =>
  ⟨W, ρ, μ, k, st, PoS.bind (R := fun H W ts J => Yl (kwOf X) J ts H W) q fun p μ0 H1 W1 J f1 k0 y1 q0 => by
    obtain ⟨ts, μ1, k1, it1, q1⟩ := PoS.walk k0 (fun ts ν => loopM_kp hkg hkb ts ρ ν) q0
    exact ⟨fun i m σ' H' => i + m = ts.length ∧ ∃ W2 ρ2 μ2, Fr H1 W1 H' W2 ∧ Ok (kwOf X) H' W2 μ2 ∧ Its p μ2 ts ∧ RpSt (kwOf X) H' W2 σ' ρ2 ∧ PoS (kwOf X) E H' W2 D (loopM g mb (ts.drop i) ρ2 μ2),
      ⟨ts.length, Nat.zero_add _, W1, ρ, μ1, Fr.refl, k1, it1, st.fr f1, q1⟩, fun i m σ' H' ⟨him, W2, ρ2, μ2, f2, k2, it2, st2, q2⟩ => by
        obtain ⟨y2, y3, y4⟩ := y1 H' W2 μ2 ts f2.toRf k2 it2
        cases m with
        | zero =>
          have hi : i = ts.length := by omega
          subst hi
          rw [List.drop_length] at q2
          exact .inl ⟨y3, q2 H' W2 σ' Fr.refl k2 st2⟩
        | succ m =>
          have hi : i < ts.length := by omega
          rw [List.drop_eq_getElem_cons hi] at q2
          refine .inr ⟨y2 i hi, fun σ3 H3 => ∃ W3 ρ3 μ3, Fr H1 W1 H3 W3 ∧ Ok (kwOf X) H3 W3 μ3 ∧ Its p μ3 ts ∧ RpSt (kwOf X) H3 W3 σ3 ρ3 ∧ PoS (kwOf X) E H3 W3 D (loopM g mb (ts.drop (i + 1)) ρ3 μ3),
            fun σ3 H3 h => ⟨m, Nat.lt_succ_self m, by omega, h⟩, fun x H3 hy => ?_⟩
          obtain ⟨W3, f3, k3, r3⟩ := y4 i x H3 _ hy (List.getElem?_eq_getElem hi)
          refine ⟨W3, ρ2, μ2, ts[i], k3, st2.fr f3, r3, ?_⟩
          have q3 : PoS (kwOf X) E H3 W3 D ((g ts[i] ρ2 μ2).bind fun ρ1 μ1 => stepO (mb ρ1 μ1) (loopM g mb (ts.drop (i + 1)))) := PoS.fr f3 q2
          have lkg := hkg.kp ts[i] ρ2 μ2
          cases hg3 : g ts[i] ρ2 μ2 with
          | bad => rw [hg3] at q3; exact q3.elim
          | exc x m => rw [hg3] at q3; exact q3
          | ok ρ4 μ4 =>
            rw [hg3] at q3 lkg
            have it4 := it2.lk lkg
            have lkb := hkb.kp ρ4 μ4
            exact fun H4 W4 σ4 f4 k4 st4 _ => ⟨W4, ρ4, μ4, k4, st4, PoS.step (PoS.fr f4 q3) (μ := μ4) lkb fun ρ5 μ5 H5 W5 σ5 l5 f5 k5 st5 q5 => ⟨W5, ρ5, μ5, (((f2.trans f3).trans f4).trans f5), k5, it4.lk l5, st5, q5⟩⟩⟩⟩
theorem js_while {c : Expr} {mc : MT} (n : Nat) (hp : PassesOwn (model X.prog X.w) X.A X.env X.xe) (hc : JT X E c mc) (hb : JSs X E body mb) : JS X E (.While c body [] pos) (whileM mc mb n) := PS_imp (ps_while hp hc hb) fun D σ H ⟨W, ρ, μ, k, st, q⟩ =>
  ⟨fun m σ' H' => ∃ W2 ρ2 μ2, Ok (kwOf X) H' W2 μ2 ∧ RpSt (kwOf X) H' W2 σ' ρ2 ∧ PoS (kwOf X) E H' W2 D (whileM mc mb m ρ2 μ2), ⟨n, W, ρ, μ, k, st, q⟩, fun m σ' H' ⟨W2, ρ2, μ2, k2, st2, q2⟩ => by
    cases m with
    | zero => exact q2.elim
    | succ m =>
      refine ⟨W2, ρ2, μ2, k2, st2, PoS.bind (R := fun _ _ a b => b = a) q2 fun b μ3 H3 W3 v f3 k3 r3 q3 => ?_⟩
      subst r3
      cases v with
      | true =>
        rw [if_pos rfl] at q3 ⊢
        exact ⟨fun σ4 H4 => ∃ W4 ρ4 μ4, Ok (kwOf X) H4 W4 μ4 ∧ RpSt (kwOf X) H4 W4 σ4 ρ4 ∧ PoS (kwOf X) E H4 W4 D (whileM mc mb m ρ4 μ4), fun σ4 H4 h => ⟨m, Nat.lt_succ_self m, h⟩,
          W3, ρ2, μ3, k3, st2.fr f3, PoS.step' q3 fun ρ5 μ5 H5 W5 σ5 f5 k5 st5 q5 => ⟨W5, ρ5, μ5, k5, st5, q5⟩⟩
      | false =>
        rw [if_neg Bool.false_ne_true] at q3 ⊢
        exact q3 H3 W3 _ Fr.refl k3 (st2.fr f3)⟩
end

instance {i : Nat} : KpG (gNm i) := ⟨fun _ _ _ => Lk.refl⟩
instance : KpG gsNil := ⟨fun ts _ _ => by unfold gsNil; split <;> first | exact Lk.refl | exact True.intro⟩
instance {g : MG} {gs : MGs} [hg : KpG g] [hs : KpG gs] : KpG (gsCons g gs) := ⟨fun ts ρ μ => by
  unfold gsCons
  split
  · exact (hg.kp _ ρ μ).bind fun ρ1 μ1 _ => hs.kp _ _ _
  · exact True.intro⟩
instance {n : Nat} {gs : MGs} [hs : KpG gs] : KpG (gTp n gs) := ⟨fun t ρ μ => by
  unfold gTp
  split
  · split
    · exact hs.kp _ _ _
    · exact True.intro
  · exact True.intro⟩
instance : KpR mNext := ⟨fun _ _ => Lk.refl⟩
instance : KpR mBrk := ⟨fun _ _ => Lk.refl⟩
instance : KpR mCont := ⟨fun _ _ => Lk.refl⟩
instance : KpR mBad := ⟨fun _ _ => True.intro⟩
instance : KpR mRetN := ⟨fun _ _ => Lk.refl⟩
instance {m n : MS} [hm : KpR m] [hn : KpR n] : KpR (mSeq m n) := ⟨fun ρ μ => seqO_kp (hm.kp ρ μ) hn.kp⟩
instance {m : ME} [hm : KpR m] : KpR (mRet m) := ⟨fun ρ μ => (hm.kp ρ μ).bind fun _ _ _ => Lk.refl⟩
instance {m : ME} [hm : KpR m] : KpR (mDrop m) := ⟨fun ρ μ => (hm.kp ρ μ).bind fun _ _ _ => Lk.refl⟩
instance {c : MT} {m n : MS} [hc : KpR c] [hm : KpR m] [hn : KpR n] : KpR (mIfS c m n) := ⟨fun ρ μ => (hc.kp ρ μ).bind fun _ _ _ => by split <;> first | exact hm.kp _ _ | exact hn.kp _ _⟩
instance {m : ME} {g : MG} [hm : KpR m] [hg : KpG g] : KpR (mAsg m g) := ⟨fun ρ μ => (hm.kp ρ μ).bind fun _ _ _ => (hg.kp _ _ _).bind fun _ _ _ => Lk.refl⟩
instance {i : Nat} {m : ME} [hm : KpR m] : KpR (mSet i m) := ⟨fun ρ μ => (hm.kp ρ μ).bind fun _ _ _ => Lk.refl⟩
instance {i j : Nat} {m : MA} [hm : KpR m] : KpR (mPar2 i j m) := ⟨fun ρ μ => (hm.kp ρ μ).bind fun _ _ _ => by split <;> first | exact Lk.refl | exact True.intro⟩
instance {i j l : Nat} {m : MA} [hm : KpR m] : KpR (mPar3 i j l m) := ⟨fun ρ μ => (hm.kp ρ μ).bind fun _ _ _ => by split <;> first | exact Lk.refl | exact True.intro⟩
instance {i : Nat} {g : G2} {m : ME} [hg : Kp2 g] [hm : KpR m] : KpR (mAug i g m) := ⟨fun ρ μ => by
  unfold mAug
  split
  · exact (hm.kp ρ μ).bind fun _ _ _ => (hg.kp _ _ _).bind fun _ _ _ => Lk.refl
  · exact True.intro⟩
instance : KpL itS := ⟨fun t μ => by
  unfold itS
  split <;> first | exact Lk.refl | exact True.intro | (split <;> first | exact Lk.refl | exact True.intro)⟩
instance : KpL itR1 := ⟨fun ts μ => by unfold itR1; split <;> first | exact True.intro | (split <;> first | exact Lk.refl | exact True.intro)⟩
instance : KpL itR2 := ⟨fun ts μ => by unfold itR2; split <;> first | exact True.intro | (split <;> first | exact Lk.refl | exact True.intro)⟩
instance : KpL itZ := ⟨fun ts μ => by unfold itZ; split <;> first | exact Lk.refl | exact True.intro⟩
instance {m : ME} [hm : KpR m] : KpR (mItS m) := ⟨fun ρ μ => (hm.kp ρ μ).bind fun _ _ _ => KpL.kp _ _⟩
instance {m : MA} {f : List T → Mu → Out Wk} [hm : KpR m] [hf : KpL f] : KpR (mIt m f) := ⟨fun ρ μ => (hm.kp ρ μ).bind fun _ _ _ => hf.kp _ _⟩
instance {mi : MI} {g : MG} {mb : MS} [hi : KpR mi] [hg : KpG g] [hb : KpR mb] : KpR (mFor mi g mb) := ⟨fun ρ μ => (hi.kp ρ μ).bind fun _ _ _ => walkO_kp fun ts ν => loopM_kp hg hb ts ρ ν⟩
theorem whileM_kp {c : MT} {mb : MS} (hc : KpR c) (hb : KpR mb) : ∀ (n : Nat) (ρ : Rho) (μ : Mu), LkO μ (whileM c mb n ρ μ)
  | 0, _, _ => True.intro
  | n + 1, ρ, μ => (hc.kp ρ μ).bind fun b μ1 _ => by
    split
    · exact stepO_kp (hb.kp ρ μ1) (whileM_kp hc hb n)
    · exact Lk.refl
instance {c : MT} {mb : MS} {n : Nat} [hc : KpR c] [hb : KpR mb] : KpR (whileM c mb n) := ⟨whileM_kp hc hb n⟩
end Mr

namespace Mr
open PySem PySem.Spec PyProof.Rows L2

/-! ### comprehensions -/
/-- nothing is raised within -/
def noX {α : Type} (o : Out α) : Out α := match o with
  | .exc _ _ => .bad
  | o => o
@[simp] theorem noX_ok {α : Type} (a : α) (m : Mu) : noX (.ok a m) = .ok a m := rfl
@[simp] theorem noX_exc {α : Type} (x : Exn) (m : Mu) : noX (.exc x m : Out α) = .bad := rfl
@[simp] theorem noX_bad {α : Type} : noX (.bad : Out α) = .bad := rfl
theorem noX_kp {α : Type} {μ : Mu} {o : Out α} (h : LkO μ o) : LkO μ (noX o) := by
  cases o with
  | ok a m => exact h
  | exc x m => exact True.intro
  | bad => exact True.intro
def EN : XK := fun _ _ _ => False
def compM (g : MG) (mt : MT) (me : ME) (ρ : Rho) : List T → Mu → Out (List T)
  | [], μ => .ok [] μ
  | t :: ts, μ => (noX (g t ρ μ)).bind fun ρ1 μ1 => (noX (mt ρ1 μ1)).bind fun b μ2 =>
      if b = true then (noX (me ρ1 μ2)).bind fun y μ3 => (compM g mt me ρ ts μ3).bind fun ys μ4 => .ok (y :: ys) μ4 else compM g mt me ρ ts μ2
theorem compM_kp {g : MG} {mt : MT} {me : ME} (hg : KpG g) (ht : KpR mt) (he : KpR me) (ρ : Rho) : ∀ (ts : List T) (μ : Mu), LkO μ (compM g mt me ρ ts μ)
  | [], _ => Lk.refl
  | t :: ts, μ => (noX_kp (hg.kp t ρ μ)).bind fun ρ1 μ1 _ => (noX_kp (ht.kp ρ1 μ1)).bind fun b μ2 _ => by
    split
    · exact (noX_kp (he.kp ρ1 μ2)).bind fun y μ3 _ => (compM_kp hg ht he ρ ts μ3).bind fun ys μ4 _ => Lk.refl
    · exact compM_kp hg ht he ρ ts μ2
def fewO (f : List T → Mu → Out (List T)) : List T → Mu → Out (List T) := fun ts μ => if few ts = true then f ts μ else .bad
/-- the comprehension; fin: how the new list is kept -/
def mLc (vs : List Nat) (mi : MI) (g : MG) (mt : MT) (me : ME) : MA := fun ρ μ => (mi ρ μ).bind fun p μ1 => walkO p (fewO (compM g mt me (wipeR ρ vs))) μ1
def postO {α : Type} (p : Mu → Mu) (o : Out α) : Out α := match o with
  | .ok a m => .ok a (p m)
  | .exc x m => .exc x (p m)
  | .bad => .bad
/-- a walk's two ways -/
theorem walk_cases {α : Type} {p : Wk} {f : List T → Mu → Out α} {μ : Mu} {K : KW} {H : Hp} {W : Wd} (k : Ok K H W μ) (hf : ∀ ts ν, LkO ν (f ts ν)) : walkO p f μ = .bad ∨ ∃ ts ν post, Ok K H W ν ∧ Its p ν ts ∧ walkO p f μ = postO post (f ts ν) ∧
    ∀ a ν', f ts ν = .ok a ν' → ∀ H' W', Ok K H' W' ν' → Ok K H' W' (post ν') := by
  unfold walkO
  split
  · rename_i ts
    refine .inr ⟨ts, μ, id, k, rfl, ?_, fun _ _ _ _ _ k => k⟩
    cases f ts μ <;> rfl
  · rename_i i b
    split
    · rename_i o ho
      split
      · rename_i us hu
        have hat : (μ.set i (.lck o))[i]? = some (.lck o) := List.getElem?_set_self (List.getElem?_eq_some_iff.mp ho).1
        refine .inr ⟨enB b us, _, fun m => m.set i o, k.lock ho, ⟨o, us, hat, hu, rfl⟩, ?_, fun a ν' e H' W' k' => ?_⟩
        · cases f (enB b us) (μ.set i (.lck o)) <;> rfl
        · have lk := hf (enB b us) (μ.set i (.lck o))
          rw [e] at lk
          exact k'.unlock (isLO_un hu) (lk i o hat)
      · exact .inl rfl
    · exact .inl rfl
def fzT (ts : List T) (μ : Mu) : Out T := .ok (.lst ts) μ
def muT (ts : List T) (μ : Mu) : Out T := .ok (.mr μ.length) (μ ++ [.lst ts])
def mFin (fin : List T → Mu → Out T) (m : MA) : ME := fun ρ μ => (m ρ μ).bind fin
abbrev JTs (X : Cx) (E : XK) (ifs : List Expr) (m : MT) : Prop := PTs X ifs (tMT (kwOf X) E m)
def mYes : MT := fun _ μ => .ok true μ
section
variable {X : Cx} {E : XK}
theorem jts_nil : JTs X E [] mYes := ⟨fun pins s σ H Q I ⟨W, ρ, μ, k, st, q⟩ => pts_nil.run pins s σ H Q I (Po.go (R := fun _ _ a b => b = a) q Fr.refl k rfl)⟩
theorem jts_one {c : Expr} {m : MT} (h : JT X E c m) : JTs X E [c] m := pts_one h
end
theorem RpSt.rf {K : KW} {H H' : Hp} {W W' : Wd} {σ : L2.St} {ρ : Rho} (f : Rf H W H' W') (r : RpSt K H W σ ρ) : RpSt K H' W' σ ρ :=
  ⟨r.len, fun i t h => let ⟨v, h1, h2⟩ := r.at_ i t h; ⟨v, h1, h2.rf f⟩⟩
theorem wipe_in {σ : L2.St} {i : Nat} : ∀ {vs : List Nat}, i ∈ vs → i < σ.length → (wipe σ vs)[i]? = some none
  | [], h, _ => by cases h
  | v :: vs, h, hl => by
    show ((wipe σ vs).set v none)[i]? = some none
    by_cases hv : v = i
    · subst hv
      rw [List.getElem?_set_self (by rw [wipe_length]; exact hl)]
    · rw [List.getElem?_set_ne hv]
      rcases List.mem_cons.mp h with e | e
      · exact absurd e.symm hv
      · exact wipe_in e hl
theorem wipe_wipe {σ : L2.St} {vs : List Nat} : wipe (wipe σ vs) vs = wipe σ vs := by
  apply List.ext_getElem?
  intro i
  by_cases hi : i ∈ vs
  · by_cases hl : i < σ.length
    · rw [wipe_in hi hl, wipe_in hi (by rw [wipe_length]; exact hl)]
    · rw [List.getElem?_eq_none (by rw [wipe_length, wipe_length]; omega), List.getElem?_eq_none (by rw [wipe_length]; omega)]
  · rw [wipe_out hi]
/-- what is wanted behind the turns, the new list at D under guard -/
def PoC (K : KW) (H0 : Hp) (W0 : Wd) (D : Addr) (P : List T → Mu → Hp → Wd → Prop) (done : List T) : Out (List T) → Prop
  | .ok ys μ' => ∀ H' W' vs', W'.G = (W0.grd D).G → Fr H0 W0 H' (W'.un W0.G) → Ok K H' W' μ' → H' D = some (.lst vs') → RpL K H' W' (done ++ ys) vs' → P (done ++ ys) μ' H' W'
  | .exc _ _ => False
  | .bad => False
/-- the state ahead of a turn -/
def Cs (K : KW) (H0 : Hp) (W0 : Wd) (D : Addr) (done : List T) (H : Hp) (W : Wd) (μ : Mu) : Prop :=
  ∃ vs, W.G = (W0.grd D).G ∧ Fr H0 W0 H (W.un W0.G) ∧ Ok K H W μ ∧ H D = some (.lst vs) ∧ RpL K H W done vs
theorem Cs.next {K : KW} {H0 H H' : Hp} {W0 W W' : Wd} {D : Addr} {done : List T} {μ μ' : Mu} (c : Cs K H0 W0 D done H W μ) (f : Fr H W H' W') (k : Ok K H' W' μ') : Cs K H0 W0 D done H' W' μ' := by
  obtain ⟨vs, g, f0, k0, hd, r⟩ := c
  have hD : W.G D := by rw [g]; exact .inr rfl
  exact ⟨vs, f.gg.trans g, f0.trans (f.un fun a h => by rw [g]; exact .inl h), k, (f.gz D hD).trans hd, r.fr f⟩
theorem Cs.app {K : KW} {H0 H : Hp} {W0 W : Wd} {D : Addr} {done : List T} {μ : Mu} {y : T} {v : V} (n0 : ¬ W0.G D) (c : Cs K H0 W0 D done H W μ) (ry : Rp K H W y v) :
    ∃ vs, H D = some (.lst vs) ∧ vs.length = done.length ∧ Cs K H0 W0 D (done ++ [y]) (upd H D (.lst (vs ++ [v]))) W μ := by
  obtain ⟨vs, g, f0, k0, hd, r⟩ := c
  have hD : W.G D := by rw [g]; exact .inr rfl
  obtain ⟨f1, k1, rf⟩ := k0.gwrite (ws := vs ++ [v]) (G0 := W0.G) hD n0 (fun a h => by rw [g]; exact .inl h) hd
  exact ⟨vs, hd, r.length.symm, vs ++ [v], g, f0.trans f1, k1, upd_same, (r.append (.cons ry .nil)).rf rf⟩
theorem few_cons {t : T} {ts : List T} (h : few (t :: ts) = true) : few ts = true := by
  have h1 : (t :: ts).length ≤ 1000000 := Nat.le_of_ble_eq_true h
  rw [List.length_cons] at h1
  exact Nat.ble_eq_true_of_le (by omega)
/-- the turns of a comprehension's clause, from any state: Nd is what stands behind -/
theorem comp_turns {K : KW} {H0 H1 : Hp} {W0 W1 : Wd} {D : Addr} {J : It} {p : Wk} {ts : List T} {g : MG} {mt : MT} {me : ME} {vs : List Nat} {σ : L2.St} {ρ : Rho} {μ1 : Mu} {done0 : List T} {Qd : Hp → Prop} {P : List T → Mu → Hp → Wd → Prop}
    (hkg : KpG g) (hkt : KpR mt) (hke : KpR me) (n0 : ¬ W0.G D) (y1 : Yl K J p H1 W1) (it1 : Its p μ1 ts) (st : RpSt K H1 W1 (wipe σ vs) ρ) (hf : done0.length + ts.length ≤ 1000000) (c0 : Cs K H0 W0 D done0 H1 W1 μ1) (q : PoC K H0 W0 D P done0 (compM g mt me ρ ts μ1))
    (hQ : ∀ dn μ' H W, P dn μ' H W → Qd H) :
    ∃ Wt : Nat → Nat → Hp → Prop, (∃ m, Wt 0 m H1) ∧ ∀ i m H, Wt i m H →
      (J.stop i H ∧ Qd H) ∨ (J.go i H ∧ ∃ Nx : Hp → Prop, (∀ H', Nx H' → ∃ m', m' < m ∧ Wt (i + 1) m' H') ∧ ∀ x H', J.yld i H x H' → tMG K EN vs g x (wipe σ vs) H' fun σ2 H2 => wipe σ2 vs = wipe σ vs ∧ tMT K EN mt σ2 H2 fun b H3 =>
        if b = true then tM K EN me σ2 H3 fun y H4 => ∃ acc, H4 D = some (.lst acc) ∧ acc.length < sizeLine ∧ Nx (upd H4 D (.lst (acc ++ [y]))) else Nx H3) := by
  refine ⟨fun i m H => i + m = ts.length ∧ ∃ W μ done, Its p μ ts ∧ Rf H1 W1 H W ∧ Cs K H0 W0 D done H W μ ∧ done.length ≤ done0.length + i ∧ PoC K H0 W0 D P done (compM g mt me ρ (ts.drop i) μ), ⟨ts.length, Nat.zero_add _, W1, μ1, done0, it1, Rf.refl, c0, Nat.le_refl _, q⟩, fun i m H ⟨him, W, μ, done, it, f, c, hl, q⟩ => ?_⟩
  have hD : W.G D := by rw [c.choose_spec.1]; exact .inr rfl
  have k0 := c.choose_spec.2.2.1
  obtain ⟨y2, y3, y4⟩ := y1 H W μ ts f k0 it
  cases m with
  | zero =>
    have hi : i = ts.length := by omega
    subst hi
    rw [List.drop_length] at q
    obtain ⟨us, c1, c2, c3, c4, c5⟩ := c
    have q' := q H W us c1 c2 c3 c4 (by rw [List.append_nil]; exact c5)
    exact .inl ⟨y3, hQ _ _ _ _ q'⟩
  | succ m =>
    have hi : i < ts.length := by omega
    rw [List.drop_eq_getElem_cons hi] at q
    refine .inr ⟨y2 i hi, fun H' => ∃ W' μ' done', Its p μ' ts ∧ Rf H1 W1 H' W' ∧ Cs K H0 W0 D done' H' W' μ' ∧ done'.length ≤ done0.length + (i + 1) ∧ PoC K H0 W0 D P done' (compM g mt me ρ (ts.drop (i + 1)) μ'), fun H' h => ⟨m, Nat.lt_succ_self m, by omega, h⟩, fun x H2 hy => ?_⟩
    obtain ⟨W2, f2, k2, r2⟩ := y4 i x H2 _ hy (List.getElem?_eq_getElem hi)
    have st2 := RpSt.rf (f.trans f2.toRf) st
    have c2 := c.next f2 k2
    refine ⟨W2, ρ, μ, ts[i], k2, st2, r2, ?_⟩
    have q3 : PoC K H0 W0 D P done ((noX (g ts[i] ρ μ)).bind fun ρ1 μ1 => (noX (mt ρ1 μ1)).bind fun b μ2 => if b = true then (noX (me ρ1 μ2)).bind fun y μ3 => (compM g mt me ρ (ts.drop (i + 1)) μ3).bind fun ys μ4 => .ok (y :: ys) μ4 else compM g mt me ρ (ts.drop (i + 1)) μ2) := q
    have lg := hkg.kp ts[i] ρ μ
    cases hg : g ts[i] ρ μ with
    | bad => rw [hg] at q3; exact q3.elim
    | exc x m => rw [hg] at q3; exact q3.elim
    | ok ρ3 μ3 =>
      rw [hg] at q3 lg
      have it3 := it.lk lg
      intro H3 W3 σ3 f3 k3 st3 hw3
      have c3 := c2.next f3 k3
      have q3 : PoC K H0 W0 D P done ((noX (mt ρ3 μ3)).bind fun b μ2 => if b = true then (noX (me ρ3 μ2)).bind fun y μ3 => (compM g mt me ρ (ts.drop (i + 1)) μ3).bind fun ys μ4 => .ok (y :: ys) μ4 else compM g mt me ρ (ts.drop (i + 1)) μ2) := q3
      refine ⟨hw3.trans ?_, W3, ρ3, μ3, k3, st3, ?_⟩
      · exact wipe_wipe
      have lt := hkt.kp ρ3 μ3
      cases hm : mt ρ3 μ3 with
      | bad => rw [hm] at q3; exact q3.elim
      | exc x m => rw [hm] at q3; exact q3.elim
      | ok b μ4 =>
        rw [hm] at q3 lt
        have it4 := it3.lk lt
        intro H4 W4 b' f4 k4 hb
        subst hb
        have c4 := c3.next f4 k4
        cases b' with
        | false =>
          rw [if_neg Bool.false_ne_true]
          exact ⟨W4, μ4, done, it4, ((f.trans f2.toRf).trans f3.toRf).trans f4.toRf, c4, by omega, q3⟩
        | true =>
          rw [if_pos rfl]
          have q4 : PoC K H0 W0 D P done ((noX (me ρ3 μ4)).bind fun y μ3 => (compM g mt me ρ (ts.drop (i + 1)) μ3).bind fun ys μ4 => .ok (y :: ys) μ4) := q3
          refine ⟨W4, ρ3, μ4, k4, st3.fr f4, ?_⟩
          have le := hke.kp ρ3 μ4
          cases he : me ρ3 μ4 with
          | bad => rw [he] at q4; exact q4.elim
          | exc x m => rw [he] at q4; exact q4.elim
          | ok y μ5 =>
            rw [he] at q4 le
            have it5 := it4.lk le
            intro H5 W5 v f5 k5 r5
            have c5 := c4.next f5 k5
            obtain ⟨us, u1, u2, u3⟩ := c5.app n0 r5
            refine ⟨us, u1, by rw [u2, sizeLine_eq]; omega, W5, μ5, done ++ [y], it5, ?_, u3, by rw [List.length_append, List.length_singleton]; omega, ?_⟩
            · have hD5 : W5.G D := by rw [c5.choose_spec.1]; exact .inr rfl
              exact (((f.trans f2.toRf).trans f3.toRf).trans (f4.toRf.trans f5.toRf)).trans ((k5.gwrite (ws := us ++ [v]) (G0 := W0.G) hD5 n0 (fun a h => by rw [c5.choose_spec.1]; exact .inl h) u1).2.2)
            · have q5 : PoC K H0 W0 D P done ((compM g mt me ρ (ts.drop (i + 1)) μ5).bind fun ys μ4 => .ok (y :: ys) μ4) := q4
              cases hc : compM g mt me ρ (ts.drop (i + 1)) μ5 with
              | bad => rw [hc] at q5; exact q5.elim
              | exc x m => rw [hc] at q5; exact q5.elim
              | ok ys μ6 =>
                rw [hc] at q5
                intro H6 W6 ws d1 d2 d3 d4 d5
                rw [List.append_assoc] at d5 ⊢
                exact q5 H6 W6 ws d1 d2 d3 d4 d5
theorem Yl.rf {K : KW} {J : It} {ts : Wk} {H H' : Hp} {W W' : Wd} (f : Rf H W H' W') (h : Yl K J ts H W) : Yl K J ts H' W' := fun H1 W1 μ us f1 k => h H1 W1 μ us (f.trans f1) k
/-- how a comprehension's list is kept: fin its answer -/
def Keeps (fin : List T → Mu → Out T) : Prop := ∀ (K : KW) (E : XK) (H : Hp) (W : Wd) (G0 : Addr → Prop) (D : Addr) (ys : List T) (vs : List V) (μ : Mu) (Q : VK), Ok K H W μ → W.G D → ¬ G0 D → (∀ a, G0 a → W.G a) → H D = some (.lst vs) → RpL K H W ys vs →
  ys.length ≤ 1000000 → PoE K E H (W.un G0) Q (fin ys μ) → Q (.ref D) H
theorem keeps_fz : Keeps fzT := fun K E H W G0 D ys vs μ Q k hg h0 hG hd r _ q => by
  obtain ⟨f, k'⟩ := k.gfreeze hg h0 hG
  exact Po.go (R := Rp K) q f k' (.lst ⟨.inr rfl, hd⟩ (r.rf (rf_un.trans f.toRf)))
theorem keeps_mu : Keeps muT := fun K E H W G0 D ys vs μ Q k hg h0 hG hd r _ q => by
  obtain ⟨f, k'⟩ := k.gpush hg h0 hG hd r
  refine Po.go (R := Rp K) q f k' (.mr ?_)
  show (W.e ++ [D])[μ.length]? = some D
  rw [← k.len, List.getElem?_append_right (Nat.le_refl _), Nat.sub_self] <;> rfl
theorem compM_nox {g : MG} {mt : MT} {me : ME} {ρ : Rho} (x : Exn) (m : Mu) : ∀ {ts : List T} {μ : Mu}, compM g mt me ρ ts μ ≠ .exc x m
  | [], _, h => by cases h
  | t :: ts, μ, h => by
    unfold compM at h
    cases h1 : g t ρ μ with
    | bad => rw [h1] at h; cases h
    | exc x m => rw [h1] at h; cases h
    | ok ρ1 μ1 =>
      rw [h1] at h
      simp only [noX_ok, Out.bind_ok] at h
      cases h2 : mt ρ1 μ1 with
      | bad => rw [h2] at h; cases h
      | exc x m => rw [h2] at h; cases h
      | ok b μ2 =>
        rw [h2] at h
        simp only [noX_ok, Out.bind_ok] at h
        cases b with
        | false =>
          rw [if_neg Bool.false_ne_true] at h
          exact compM_nox x m h
        | true =>
          rw [if_pos rfl] at h
          cases h3 : me ρ1 μ2 with
          | bad => rw [h3] at h; cases h
          | exc x m => rw [h3] at h; cases h
          | ok y μ3 =>
            rw [h3] at h
            simp only [noX_ok, Out.bind_ok] at h
            cases h4 : compM g mt me ρ ts μ3 with
            | bad => rw [h4] at h; cases h
            | exc x' m' => exact compM_nox x' m' h4
            | ok zs μ4 =>
              rw [h4] at h
              cases h
theorem compM_len {g : MG} {mt : MT} {me : ME} {ρ : Rho} : ∀ {ts : List T} {μ μ' : Mu} {ys : List T}, compM g mt me ρ ts μ = .ok ys μ' → ys.length ≤ ts.length
  | [], _, _, _, h => by cases h; exact Nat.le_refl _
  | t :: ts, μ, μ', ys, h => by
    unfold compM at h
    cases h1 : g t ρ μ with
    | bad => rw [h1] at h; cases h
    | exc x m => rw [h1] at h; cases h
    | ok ρ1 μ1 =>
      rw [h1] at h
      simp only [noX_ok, Out.bind_ok] at h
      cases h2 : mt ρ1 μ1 with
      | bad => rw [h2] at h; cases h
      | exc x m => rw [h2] at h; cases h
      | ok b μ2 =>
        rw [h2] at h
        simp only [noX_ok, Out.bind_ok] at h
        cases b with
        | false =>
          rw [if_neg Bool.false_ne_true] at h
          exact Nat.le_succ_of_le (compM_len h)
        | true =>
          rw [if_pos rfl] at h
          cases h3 : me ρ1 μ2 with
          | bad => rw [h3] at h; cases h
          | exc x m => rw [h3] at h; cases h
          | ok y μ3 =>
            rw [h3] at h
            simp only [noX_ok, Out.bind_ok] at h
            cases h4 : compM g mt me ρ ts μ3 with
            | bad => rw [h4] at h; cases h
            | exc x m => rw [h4] at h; cases h
            | ok zs μ4 =>
              rw [h4] at h
              cases h
              exact Nat.succ_le_succ (compM_len h4)
section
variable {X : Cx} {E : XK} {tg iter elt : Expr} {ifs : List Expr} {scope : Scope} {own : List (Str × Nat)} {pos : Pos} {mi : MI} {g : MG} {mt : MT} {me : ME} {vs : List Nat} {fin : List T → Mu → Out T}
theorem tLc_M [hkg : KpG g] [hkt : KpR mt] [hke : KpR me] (hfin : Keeps fin) : ∀ σ H Q, tM (kwOf X) E (mFin fin (mLc vs mi g mt me)) σ H Q → tLc (tMI (kwOf X) E mi) (tMG (kwOf X) EN vs g) (tMT (kwOf X) EN mt) (tM (kwOf X) EN me) vs σ H Q := fun σ H Q ⟨W, ρ, μ, k, st, q⟩ => by
  refine ⟨W, ρ, μ, k, st, ?_⟩
  have q : PoE (kwOf X) E H W Q (((mi ρ μ).bind fun p μ1 => walkO p (fewO (compM g mt me (wipeR ρ vs))) μ1).bind fin) := q
  cases hm : mi ρ μ with
  | bad => rw [hm] at q; exact q.elim
  | exc x m => rw [hm] at q; exact q
  | ok p μ0 =>
    rw [hm] at q
    simp only [Out.bind_ok] at q
    intro H1 W1 J f1 k0 y1 D hD
    have hkp : ∀ ts ν, LkO ν (fewO (compM g mt me (wipeR ρ vs)) ts ν) := fun ts ν => by
      unfold fewO
      split
      · exact compM_kp hkg hkt hke _ ts ν
      · exact True.intro
    rcases walk_cases k0 hkp with e | ⟨ts, μ1, post, k1, it1, e, hpost⟩
    · rw [e] at q; exact q.elim
    rw [e] at q
    have q : PoE (kwOf X) E H W Q ((postO post (if few ts = true then compM g mt me (wipeR ρ vs) ts μ1 else .bad)).bind fin) := q
    have hpost : ∀ a ν', (if few ts = true then compM g mt me (wipeR ρ vs) ts μ1 else .bad) = .ok a ν' → ∀ H' W', Ok (kwOf X) H' W' ν' → Ok (kwOf X) H' W' (post ν') := hpost
    by_cases hf : few ts = true
    · rw [if_pos hf] at q hpost
      have hlen : ts.length ≤ 1000000 := Nat.le_of_ble_eq_true hf
      obtain ⟨fg, kg⟩ := k1.guard (o := .lst []) hD
      have n0 : ¬ W1.G D := fun z => (k1.gk D z).1 hD
      refine comp_turns (K := kwOf X) (H0 := H1) (W0 := W1) (W1 := W1.grd D) (done0 := []) (ρ := wipeR ρ vs) (P := fun dn μ' H' W' => Q (.ref D) H') hkg hkt hke n0 (y1.rf (fg.toRf.trans rf_nu)) it1 ((RpSt.rf (fg.toRf.trans rf_nu) (st.fr f1)).wipe vs) (by simpa using hlen)
        ⟨[], rfl, fg, kg, upd_same, .nil⟩ ?_ (fun _ _ _ _ h => h)
      cases hc : compM g mt me (wipeR ρ vs) ts μ1 with
      | bad => rw [hc] at q; exact q.elim
      | exc x m => exact absurd hc (compM_nox x m)
      | ok ys μ2 =>
        rw [hc] at q
        intro H' W' us g1 f k' hd r
        have hGD : W'.G D := by rw [g1]; exact .inr rfl
        exact hfin (kwOf X) E H' W' W1.G D ys us (post μ2) Q (hpost _ _ hc H' W' k') hGD n0 (fun a h => by rw [g1]; exact .inl h) hd r (Nat.le_trans (compM_len hc) hlen) (Po.fr (f1.trans f) q)
    · rw [if_neg hf] at q
      exact q.elim
theorem je_lc [hkg : KpG g] [hkt : KpR mt] [hke : KpR me] (hfin : Keeps fin) (hc : X.calm = true) (hN : X.N.Nodup) (hi : JI X E tg iter mi) (ok : BlkOk X.N X.env.scope scope own) (hv : own.map (·.2) = vs)
    (hg : ∀ (s : Shared) (H : Hp) (C : Addr) (cl : List (Str × Addr)) (fp : List Addr), JG (X.blk s H scope (compEnvC scope cl C X.env) fp) EN vs tg g)
    (ht : ∀ (s : Shared) (H : Hp) (C : Addr) (cl : List (Str × Addr)) (fp : List Addr), JTs (X.blk s H scope (compEnvC scope cl C X.env) fp) EN ifs mt)
    (he : ∀ (s : Shared) (H : Hp) (C : Addr) (cl : List (Str × Addr)) (fp : List Addr), JE (X.blk s H scope (compEnvC scope cl C X.env) fp) EN elt me) (hs : ∀ x, foldedSetIterable iter X.env x = pure x := by intro _; rfl) :
    JE X E (.ListComp elt [⟨tg, iter, ifs, 0⟩] scope pos) (mFin fin (mLc vs mi g mt me)) := by
  subst hv
  exact PE_imp (pe_lc hc hN hi ok hg ht he hs) (tLc_M hfin)
theorem js_setLc [hkg : KpG g] [hkt : KpR mt] [hke : KpR me] {i : Nat} {y : Str} {py spos : Pos} (hfin : Keeps fin) (hc : X.calm = true) (hN : X.N.Nodup) (hy : X.N[i]? = some y) (hyl : X.env.scope.names.lookup y = some .local)
    (hsw : swapsWith (.ListComp elt [⟨tg, iter, ifs, 0⟩] scope pos) (some (.Name y py)) spos.line X.env = pure true) (hi : JI X E tg iter mi) (ok : BlkOk X.N X.env.scope scope own) (hv : own.map (·.2) = vs)
    (hg : ∀ (s : Shared) (H : Hp) (C : Addr) (cl : List (Str × Addr)) (fp : List Addr), JG (X.blk s H scope (compEnvC scope cl C X.env) fp) EN vs tg g)
    (ht : ∀ (s : Shared) (H : Hp) (C : Addr) (cl : List (Str × Addr)) (fp : List Addr), JTs (X.blk s H scope (compEnvC scope cl C X.env) fp) EN ifs mt)
    (he : ∀ (s : Shared) (H : Hp) (C : Addr) (cl : List (Str × Addr)) (fp : List Addr), JE (X.blk s H scope (compEnvC scope cl C X.env) fp) EN elt me) (hs : ∀ x, foldedSetIterable iter X.env x = pure x := by intro _; rfl) :
    JS X E (.Assign [.Name y py] (.ListComp elt [⟨tg, iter, ifs, 0⟩] scope pos) spos) (mSet i (mFin fin (mLc vs mi g mt me))) := by
  subst hv
  refine PS_imp (ps_setLc (wi := tMI (kwOf X) E mi) (g := tMG (kwOf X) EN (own.map (·.2)) g) (tt := tMT (kwOf X) EN mt) (te := tM (kwOf X) EN me) hc hN hy hyl hsw hi ok hg ht he hs) fun D σ H h => ?_
  have h2 : tM (kwOf X) E (mFin fin (mLc (own.map (·.2)) mi g mt me)) σ H (fun x H1 => gName i x σ H1 D.nx) := tSet_M D σ H h
  exact tLc_M (X := X) hfin σ H _ h2
end

/-! ### two clauses -/
def few2 (ts : List T) : Bool := Nat.ble ts.length 1000
def few2O (f : List T → Mu → Out (List T)) : List T → Mu → Out (List T) := fun ts μ => if few2 ts = true then f ts μ else .bad
def comp2M (g : MG) (mt : MT) (mi1 : MI) (vs1 : List Nat) (g1 : MG) (mt1 : MT) (me : ME) (ρ : Rho) : List T → Mu → Out (List T)
  | [], μ => .ok [] μ
  | t :: ts, μ => (noX (g t ρ μ)).bind fun ρ1 μ1 => (noX (mt ρ1 μ1)).bind fun b μ2 =>
      if b = true then (noX (mi1 ρ1 μ2)).bind fun p μ3 => (walkO p (few2O (compM g1 mt1 me (wipeR ρ1 vs1))) μ3).bind fun xs μ4 => (comp2M g mt mi1 vs1 g1 mt1 me ρ ts μ4).bind fun ys μ5 => .ok (xs ++ ys) μ5
      else comp2M g mt mi1 vs1 g1 mt1 me ρ ts μ2
def mLc2 (vs : List Nat) (mi : MI) (g : MG) (mt : MT) (mi1 : MI) (vs1 : List Nat) (g1 : MG) (mt1 : MT) (me : ME) : MA := fun ρ μ => (mi ρ μ).bind fun p μ1 => walkO p (few2O (comp2M g mt mi1 vs1 g1 mt1 me (wipeR ρ vs))) μ1
theorem few2_kp {f : List T → Mu → Out (List T)} (hf : ∀ ts μ, LkO μ (f ts μ)) : ∀ ts μ, LkO μ (few2O f ts μ) := fun ts μ => by
  unfold few2O
  split
  · exact hf ts μ
  · exact True.intro
theorem comp2M_kp {g g1 : MG} {mt mt1 : MT} {mi1 : MI} {vs1 : List Nat} {me : ME} (hg : KpG g) (ht : KpR mt) (hi : KpR mi1) (hg1 : KpG g1) (ht1 : KpR mt1) (he : KpR me) (ρ : Rho) : ∀ (ts : List T) (μ : Mu), LkO μ (comp2M g mt mi1 vs1 g1 mt1 me ρ ts μ)
  | [], _ => Lk.refl
  | t :: ts, μ => (noX_kp (hg.kp t ρ μ)).bind fun ρ1 μ1 _ => (noX_kp (ht.kp ρ1 μ1)).bind fun b μ2 _ => by
    split
    · exact (noX_kp (hi.kp ρ1 μ2)).bind fun p μ3 _ => (walkO_kp (few2_kp (compM_kp hg1 ht1 he _))).bind fun xs μ4 _ => (comp2M_kp hg ht hi hg1 ht1 he ρ ts μ4).bind fun ys μ5 _ => Lk.refl
    · exact comp2M_kp hg ht hi hg1 ht1 he ρ ts μ2
theorem walk_len {p : Wk} {f : List T → Mu → Out (List T)} {n : Nat} {μ μ' : Mu} {ys : List T} (hf : ∀ ts μ ys μ', f ts μ = .ok ys μ' → ys.length ≤ n) (h : walkO p f μ = .ok ys μ') : ys.length ≤ n := by
  unfold walkO at h
  split at h
  · exact hf _ _ _ _ h
  · split at h
    · rename_i o ho
      split at h
      · rename_i ts hu
        cases e : f (enB _ ts) (μ.set _ (.lck o)) with
        | bad => rw [e] at h; cases h
        | exc x m => rw [e] at h; cases h
        | ok zs m =>
          rw [e] at h
          cases h
          exact hf _ _ _ _ e
      · cases h
    · cases h
theorem few2_len {g1 : MG} {mt1 : MT} {me : ME} {ρ : Rho} : ∀ ts μ ys μ', few2O (compM g1 mt1 me ρ) ts μ = .ok ys μ' → ys.length ≤ 1000 := fun ts μ ys μ' h => by
  unfold few2O at h
  split at h
  · rename_i hf
    exact Nat.le_trans (compM_len h) (Nat.le_of_ble_eq_true hf)
  · cases h
theorem comp2M_nox {g g1 : MG} {mt mt1 : MT} {mi1 : MI} {vs1 : List Nat} {me : ME} {ρ : Rho} (x : Exn) (m : Mu) : ∀ {ts : List T} {μ : Mu}, comp2M g mt mi1 vs1 g1 mt1 me ρ ts μ ≠ .exc x m
  | [], _, h => by cases h
  | t :: ts, μ, h => by
    unfold comp2M at h
    cases h1 : g t ρ μ with
    | bad => rw [h1] at h; cases h
    | exc x m => rw [h1] at h; cases h
    | ok ρ1 μ1 =>
      rw [h1] at h
      simp only [noX_ok, Out.bind_ok] at h
      cases h2 : mt ρ1 μ1 with
      | bad => rw [h2] at h; cases h
      | exc x m => rw [h2] at h; cases h
      | ok b μ2 =>
        rw [h2] at h
        simp only [noX_ok, Out.bind_ok] at h
        cases b with
        | false =>
          rw [if_neg Bool.false_ne_true] at h
          exact comp2M_nox x m h
        | true =>
          rw [if_pos rfl] at h
          cases h3 : mi1 ρ1 μ2 with
          | bad => rw [h3] at h; cases h
          | exc x m => rw [h3] at h; cases h
          | ok p μ3 =>
            rw [h3] at h
            simp only [noX_ok, Out.bind_ok] at h
            cases h4 : walkO p (few2O (compM g1 mt1 me (wipeR ρ1 vs1))) μ3 with
            | bad => rw [h4] at h; cases h
            | exc x' m' =>
              unfold walkO at h4
              split at h4
              · unfold few2O at h4
                split at h4
                · exact compM_nox _ _ h4
                · cases h4
              · split at h4
                · rename_i o ho
                  split at h4
                  · rename_i ts' hu
                    cases e : few2O (compM g1 mt1 me (wipeR ρ1 vs1)) (enB _ ts') (μ3.set _ (.lck o)) with
                    | bad => rw [e] at h4; cases h4
                    | ok zs m => rw [e] at h4; cases h4
                    | exc x2 m2 =>
                      unfold few2O at e
                      split at e
                      · exact compM_nox _ _ e
                      · cases e
                  · cases h4
                · cases h4
            | ok xs μ4 =>
              rw [h4] at h
              simp only [Out.bind_ok] at h
              cases h5 : comp2M g mt mi1 vs1 g1 mt1 me ρ ts μ4 with
              | bad => rw [h5] at h; cases h
              | exc x' m' => exact comp2M_nox x' m' h5
              | ok zs μ5 =>
                rw [h5] at h
                cases h
theorem comp2M_len {g g1 : MG} {mt mt1 : MT} {mi1 : MI} {vs1 : List Nat} {me : ME} {ρ : Rho} : ∀ {ts : List T} {μ μ' : Mu} {ys : List T}, comp2M g mt mi1 vs1 g1 mt1 me ρ ts μ = .ok ys μ' → ys.length ≤ 1000 * ts.length
  | [], _, _, _, h => by cases h; exact Nat.zero_le _
  | t :: ts, μ, μ', ys, h => by
    unfold comp2M at h
    rw [List.length_cons]
    cases h1 : g t ρ μ with
    | bad => rw [h1] at h; cases h
    | exc x m => rw [h1] at h; cases h
    | ok ρ1 μ1 =>
      rw [h1] at h
      simp only [noX_ok, Out.bind_ok] at h
      cases h2 : mt ρ1 μ1 with
      | bad => rw [h2] at h; cases h
      | exc x m => rw [h2] at h; cases h
      | ok b μ2 =>
        rw [h2] at h
        simp only [noX_ok, Out.bind_ok] at h
        cases b with
        | false =>
          rw [if_neg Bool.false_ne_true] at h
          have := comp2M_len h
          omega
        | true =>
          rw [if_pos rfl] at h
          cases h3 : mi1 ρ1 μ2 with
          | bad => rw [h3] at h; cases h
          | exc x m => rw [h3] at h; cases h
          | ok us μ3 =>
            rw [h3] at h
            simp only [noX_ok, Out.bind_ok] at h
            cases h4 : walkO us (few2O (compM g1 mt1 me (wipeR ρ1 vs1))) μ3 with
            | bad => rw [h4] at h; cases h
            | exc x m => rw [h4] at h; cases h
            | ok xs μ4 =>
              rw [h4] at h
              simp only [noX_ok, Out.bind_ok] at h
              cases h5 : comp2M g mt mi1 vs1 g1 mt1 me ρ ts μ4 with
              | bad => rw [h5] at h; cases h
              | exc x m => rw [h5] at h; cases h
              | ok zs μ5 =>
                rw [h5] at h
                cases h
                have l1 := walk_len few2_len h4
                have l2 := comp2M_len h5
                rw [List.length_append]
                omega
theorem comp2_turns {K : KW} {H0 H1 : Hp} {W0 W1 : Wd} {D : Addr} {J : It} {p : Wk} {ts : List T} {g g1 : MG} {mt mt1 : MT} {mi1 : MI} {me : ME} {vs vs1 : List Nat} {σ : L2.St} {ρ : Rho} {μ1 : Mu} {Qd : Hp → Prop} {P : List T → Mu → Hp → Wd → Prop}
    (hkg : KpG g) (hkt : KpR mt) (hki : KpR mi1) (hkg1 : KpG g1) (hkt1 : KpR mt1) (hke : KpR me) (n0 : ¬ W0.G D) (y1 : Yl K J p H0 W0) (it1 : Its p μ1 ts) (st : RpSt K H0 W0 (wipe σ vs) ρ) (hf : ts.length ≤ 1000) (c0 : Cs K H0 W0 D [] H1 W1 μ1) (q : PoC K H0 W0 D P [] (comp2M g mt mi1 vs1 g1 mt1 me ρ ts μ1))
    (hQ : ∀ dn μ' H W, P dn μ' H W → Qd H) :
    ∃ Wt : Nat → Nat → Hp → Prop, (∃ m, Wt 0 m H1) ∧ ∀ i m H, Wt i m H →
      (J.stop i H ∧ Qd H) ∨ (J.go i H ∧ ∃ Nx : Hp → Prop, (∀ H', Nx H' → ∃ m', m' < m ∧ Wt (i + 1) m' H') ∧ ∀ x H', J.yld i H x H' → tMG K EN vs g x (wipe σ vs) H' fun σ2 H2 => wipe σ2 vs = wipe σ vs ∧ tMT K EN mt σ2 H2 fun b H3 =>
        if b = true then tMI K EN mi1 σ2 H3 fun J1 H4 => ∃ W1 : Nat → Nat → Hp → Prop, (∃ m, W1 0 m H4) ∧ ∀ j k H, W1 j k H →
          (J1.stop j H ∧ Nx H) ∨ (J1.go j H ∧ ∃ Nx1 : Hp → Prop, (∀ H', Nx1 H' → ∃ k', k' < k ∧ W1 (j + 1) k' H') ∧ ∀ x H', J1.yld j H x H' → tMG K EN vs1 g1 x (wipe σ2 vs1) H' fun σ3 H5 => wipe σ3 vs1 = wipe σ2 vs1 ∧ tMT K EN mt1 σ3 H5 fun b H6 =>
            if b = true then tM K EN me σ3 H6 fun y H7 => ∃ acc, H7 D = some (.lst acc) ∧ acc.length < sizeLine ∧ Nx1 (upd H7 D (.lst (acc ++ [y]))) else Nx1 H6)
        else Nx H3) := by
  refine ⟨fun i m H => i + m = ts.length ∧ ∃ W μ done, Its p μ ts ∧ Cs K H0 W0 D done H W μ ∧ done.length ≤ 1000 * i ∧ PoC K H0 W0 D P done (comp2M g mt mi1 vs1 g1 mt1 me ρ (ts.drop i) μ), ⟨ts.length, Nat.zero_add _, W1, μ1, [], it1, c0, Nat.zero_le _, q⟩, fun i m H ⟨him, W, μ, done, it, c, hl, q⟩ => ?_⟩
  have f : Rf H0 W0 H W := c.choose_spec.2.1.toRf.trans rf_nu
  have k0 := c.choose_spec.2.2.1
  obtain ⟨y2, y3, y4⟩ := y1 H W μ ts f k0 it
  cases m with
  | zero =>
    have hi : i = ts.length := by omega
    subst hi
    rw [List.drop_length] at q
    obtain ⟨us, c1, c2, c3, c4, c5⟩ := c
    have q' := q H W us c1 c2 c3 c4 (by rw [List.append_nil]; exact c5)
    exact .inl ⟨y3, hQ _ _ _ _ q'⟩
  | succ m =>
    have hi : i < ts.length := by omega
    rw [List.drop_eq_getElem_cons hi] at q
    refine .inr ⟨y2 i hi, fun H' => ∃ W' μ' done', Its p μ' ts ∧ Cs K H0 W0 D done' H' W' μ' ∧ done'.length ≤ 1000 * (i + 1) ∧ PoC K H0 W0 D P done' (comp2M g mt mi1 vs1 g1 mt1 me ρ (ts.drop (i + 1)) μ'), fun H' h => ⟨m, Nat.lt_succ_self m, by omega, h⟩, fun x H2 hy => ?_⟩
    obtain ⟨W2, f2, k2, r2⟩ := y4 i x H2 _ hy (List.getElem?_eq_getElem hi)
    have st2 := RpSt.rf (f.trans f2.toRf) st
    have c2 := c.next f2 k2
    refine ⟨W2, ρ, μ, ts[i], k2, st2, r2, ?_⟩
    unfold comp2M at q
    have lg := hkg.kp ts[i] ρ μ
    cases hg : g ts[i] ρ μ with
    | bad => rw [hg] at q; exact q.elim
    | exc x m => rw [hg] at q; exact q.elim
    | ok ρ3 μ3 =>
      rw [hg] at q lg
      have it3 := it.lk lg
      simp only [noX_ok, Out.bind_ok] at q
      intro H3 W3 σ3 f3 k3 st3 hw3
      have c3 := c2.next f3 k3
      refine ⟨hw3.trans wipe_wipe, W3, ρ3, μ3, k3, st3, ?_⟩
      have lt := hkt.kp ρ3 μ3
      cases hm : mt ρ3 μ3 with
      | bad => rw [hm] at q; exact q.elim
      | exc x m => rw [hm] at q; exact q.elim
      | ok b μ4 =>
        rw [hm] at q lt
        have it4 := it3.lk lt
        simp only [noX_ok, Out.bind_ok] at q
        intro H4 W4 b' f4 k4 hb
        subst hb
        have c4 := c3.next f4 k4
        cases b' with
        | false =>
          rw [if_neg Bool.false_ne_true] at q ⊢
          exact ⟨W4, μ4, done, it4, c4, by omega, q⟩
        | true =>
          rw [if_pos rfl] at q ⊢
          refine ⟨W4, ρ3, μ4, k4, st3.fr f4, ?_⟩
          have li := hki.kp ρ3 μ4
          cases hi1 : mi1 ρ3 μ4 with
          | bad => rw [hi1] at q; exact q.elim
          | exc x m => rw [hi1] at q; exact q.elim
          | ok pp μ50 =>
            rw [hi1] at q li
            have it50 := it4.lk li
            simp only [noX_ok, Out.bind_ok] at q
            intro H5 W5 J1 f5 k50 y5
            have hkp := few2_kp (compM_kp hkg1 hkt1 hke (wipeR ρ3 vs1))
            have wl : LkO μ50 (walkO pp (few2O (compM g1 mt1 me (wipeR ρ3 vs1))) μ50) := walkO_kp hkp
            rcases walk_cases k50 hkp with e | ⟨us, μ5, post, k5, it5, e, hpost⟩
            · rw [e] at q; exact q.elim
            rw [e] at q wl
            by_cases hf2 : few2 us = true
            · have hfe : few2O (compM g1 mt1 me (wipeR ρ3 vs1)) us μ5 = compM g1 mt1 me (wipeR ρ3 vs1) us μ5 := if_pos hf2
              rw [hfe] at q wl hpost
              have c5 : Cs K H0 W0 D done H5 W5 μ5 := c4.next f5 k5
              have hlen : us.length ≤ 1000 := Nat.le_of_ble_eq_true hf2
              refine comp_turns (ρ := wipeR ρ3 vs1) (P := fun dn μ' H' W' => ∃ W' μ' done', Its p μ' ts ∧ Cs K H0 W0 D done' H' W' μ' ∧ done'.length ≤ 1000 * (i + 1) ∧ PoC K H0 W0 D P done' (comp2M g mt mi1 vs1 g1 mt1 me ρ (ts.drop (i + 1)) μ')) hkg1 hkt1 hke n0 y5 it5 (((st3.fr f4).fr f5).wipe vs1) (by omega) c5 ?_ (fun _ _ _ _ h => h)
              cases hc : compM g1 mt1 me (wipeR ρ3 vs1) us μ5 with
              | bad => rw [hc] at q; exact q.elim
              | exc x m => exact absurd hc (compM_nox x m)
              | ok xs μ6 =>
                rw [hc] at q wl
                have it6 : Its p (post μ6) ts := it50.lk wl
                have q : PoC K H0 W0 D P done ((comp2M g mt mi1 vs1 g1 mt1 me ρ (ts.drop (i + 1)) (post μ6)).bind fun ys μ5 => .ok (xs ++ ys) μ5) := q
                have hxs := compM_len hc
                intro H6 W6 ws d1 d2 d3 d4 d5
                refine ⟨W6, post μ6, done ++ xs, it6, ⟨ws, d1, d2, hpost _ _ hc H6 W6 d3, d4, d5⟩, by rw [List.length_append]; omega, ?_⟩
                cases hr : comp2M g mt mi1 vs1 g1 mt1 me ρ (ts.drop (i + 1)) (post μ6) with
                | bad => rw [hr] at q; exact q.elim
                | exc x m => exact absurd hr (comp2M_nox x m)
                | ok ys μ7 =>
                  rw [hr] at q
                  intro H7 W7 ws' e1 e2 e3 e4 e5
                  rw [List.append_assoc] at e5 ⊢
                  exact q H7 W7 ws' e1 e2 e3 e4 e5
            · have hfe : few2O (compM g1 mt1 me (wipeR ρ3 vs1)) us μ5 = .bad := if_neg hf2
              rw [hfe] at q
              exact q.elim
section
variable {X : Cx} {E : XK} {tg iter tg1 iter1 elt : Expr} {ifs ifs1 : List Expr} {scope : Scope} {own : List (Str × Nat)} {pos : Pos} {mi mi1 : MI} {g g1 : MG} {mt mt1 : MT} {me : ME} {vs vs1 : List Nat} {fin : List T → Mu → Out T}
theorem tLc2_M [hkg : KpG g] [hkt : KpR mt] [hki : KpR mi1] [hkg1 : KpG g1] [hkt1 : KpR mt1] [hke : KpR me] (hfin : Keeps fin) : ∀ σ H Q, tM (kwOf X) E (mFin fin (mLc2 vs mi g mt mi1 vs1 g1 mt1 me)) σ H Q → tLc2 (tMI (kwOf X) E mi) (tMG (kwOf X) EN vs g) (tMT (kwOf X) EN mt) (tMI (kwOf X) EN mi1) (tMG (kwOf X) EN vs1 g1) (tMT (kwOf X) EN mt1) (tM (kwOf X) EN me) vs vs1 σ H Q := fun σ H Q ⟨W, ρ, μ, k, st, q⟩ => by
  refine ⟨W, ρ, μ, k, st, ?_⟩
  have q : PoE (kwOf X) E H W Q (((mi ρ μ).bind fun p μ1 => walkO p (few2O (comp2M g mt mi1 vs1 g1 mt1 me (wipeR ρ vs))) μ1).bind fin) := q
  cases hm : mi ρ μ with
  | bad => rw [hm] at q; exact q.elim
  | exc x m => rw [hm] at q; exact q
  | ok p μ0 =>
    rw [hm] at q
    simp only [Out.bind_ok] at q
    intro H1 W1 J f1 k0 y1 D hD
    have hkp := few2_kp (comp2M_kp (vs1 := vs1) hkg hkt hki hkg1 hkt1 hke (wipeR ρ vs))
    rcases walk_cases k0 hkp with e | ⟨ts, μ1, post, k1, it1, e, hpost⟩
    · rw [e] at q; exact q.elim
    rw [e] at q
    by_cases hf : few2 ts = true
    · have hfe : few2O (comp2M g mt mi1 vs1 g1 mt1 me (wipeR ρ vs)) ts μ1 = comp2M g mt mi1 vs1 g1 mt1 me (wipeR ρ vs) ts μ1 := if_pos hf
      rw [hfe] at q hpost
      have hlen : ts.length ≤ 1000 := Nat.le_of_ble_eq_true hf
      obtain ⟨fg, kg⟩ := k1.guard (o := .lst []) hD
      have n0 : ¬ W1.G D := fun z => (k1.gk D z).1 hD
      refine comp2_turns (K := kwOf X) (H0 := H1) (W0 := W1) (W1 := W1.grd D) (ρ := wipeR ρ vs) (P := fun dn μ' H' W' => Q (.ref D) H') hkg hkt hki hkg1 hkt1 hke n0 y1 it1 ((st.fr f1).wipe vs) hlen ⟨[], rfl, fg, kg, upd_same, .nil⟩ ?_ (fun _ _ _ _ h => h)
      cases hc : comp2M g mt mi1 vs1 g1 mt1 me (wipeR ρ vs) ts μ1 with
      | bad => rw [hc] at q; exact q.elim
      | exc x m => exact absurd hc (comp2M_nox x m)
      | ok ys μ2 =>
        rw [hc] at q
        intro H' W' us g1 f k' hd r
        have hGD : W'.G D := by rw [g1]; exact .inr rfl
        have hl := comp2M_len hc
        exact hfin (kwOf X) E H' W' W1.G D ys us (post μ2) Q (hpost _ _ hc H' W' k') hGD n0 (fun a h => by rw [g1]; exact .inl h) hd r (by omega) (Po.fr (f1.trans f) q)
    · have hfe : few2O (comp2M g mt mi1 vs1 g1 mt1 me (wipeR ρ vs)) ts μ1 = .bad := if_neg hf
      rw [hfe] at q
      exact q.elim
theorem je_lc2 [hkg : KpG g] [hkt : KpR mt] [hki : KpR mi1] [hkg1 : KpG g1] [hkt1 : KpR mt1] [hke : KpR me] (hfin : Keeps fin) (hc : X.calm = true) (hN : X.N.Nodup) (hi : JI X E tg iter mi) (ok : BlkOk X.N X.env.scope scope own) (hv : own.map (·.2) = vs) (hv1 : ∀ i ∈ vs1, i ∈ own.map (·.2))
    (hg : ∀ (s : Shared) (H : Hp) (C : Addr) (cl : List (Str × Addr)) (fp : List Addr), JG (X.blk s H scope (compEnvC scope cl C X.env) fp) EN vs tg g)
    (ht : ∀ (s : Shared) (H : Hp) (C : Addr) (cl : List (Str × Addr)) (fp : List Addr), JTs (X.blk s H scope (compEnvC scope cl C X.env) fp) EN ifs mt)
    (hi1 : ∀ (s : Shared) (H : Hp) (C : Addr) (cl : List (Str × Addr)) (fp : List Addr), JI (X.blk s H scope (compEnvC scope cl C X.env) fp) EN tg1 iter1 mi1)
    (hg1 : ∀ (s : Shared) (H : Hp) (C : Addr) (cl : List (Str × Addr)) (fp : List Addr), JG (X.blk s H scope (compEnvC scope cl C X.env) fp) EN vs1 tg1 g1)
    (ht1 : ∀ (s : Shared) (H : Hp) (C : Addr) (cl : List (Str × Addr)) (fp : List Addr), JTs (X.blk s H scope (compEnvC scope cl C X.env) fp) EN ifs1 mt1)
    (he : ∀ (s : Shared) (H : Hp) (C : Addr) (cl : List (Str × Addr)) (fp : List Addr), JE (X.blk s H scope (compEnvC scope cl C X.env) fp) EN elt me) (hs : ∀ x, foldedSetIterable iter X.env x = pure x := by intro _; rfl) (hs1 : ∀ env x, foldedSetIterable iter1 env x = pure x := by intro _ _; rfl) :
    JE X E (.ListComp elt [⟨tg, iter, ifs, 0⟩, ⟨tg1, iter1, ifs1, 0⟩] scope pos) (mFin fin (mLc2 vs mi g mt mi1 vs1 g1 mt1 me)) := by
  subst hv
  exact PE_imp (pe_lc2 hc hN hi ok hv1 hg ht hi1 hg1 ht1 he hs hs1) (tLc2_M hfin)
end

instance : KpL fzT := ⟨fun _ _ => Lk.refl⟩
instance : KpL muT := ⟨fun _ _ => Lk.app⟩
instance : KpR mYes := ⟨fun _ _ => Lk.refl⟩
instance {fin : List T → Mu → Out T} {m : MA} [hf : KpL fin] [hm : KpR m] : KpR (mFin fin m) := ⟨fun ρ μ => (hm.kp ρ μ).bind fun _ _ _ => hf.kp _ _⟩
instance {vs : List Nat} {mi : MI} {g : MG} {mt : MT} {me : ME} [hi : KpR mi] [hg : KpG g] [ht : KpR mt] [he : KpR me] : KpR (mLc vs mi g mt me) := ⟨fun ρ μ => (hi.kp ρ μ).bind fun p μ1 _ => walkO_kp fun ts ν => by
  unfold fewO
  split
  · exact compM_kp hg ht he _ ts ν
  · exact True.intro⟩
instance {vs vs1 : List Nat} {mi mi1 : MI} {g g1 : MG} {mt mt1 : MT} {me : ME} [hi : KpR mi] [hg : KpG g] [ht : KpR mt] [hi1 : KpR mi1] [hg1 : KpG g1] [ht1 : KpR mt1] [he : KpR me] : KpR (mLc2 vs mi g mt mi1 vs1 g1 mt1 me) :=
  ⟨fun ρ μ => (hi.kp ρ μ).bind fun p μ1 _ => walkO_kp (few2_kp (comp2M_kp hg ht hi1 hg1 ht1 he _))⟩
end Mr

namespace Mr
open PySem PySem.Spec PyProof.Rows L2

/-! ### defs: as FnOk, where no repr is at work -/
structure FnG (P : Program) (w : World) (K : PySem.W.Frag) (mg : Str → Option Value) (base : Heap) (CX : CXT) (k : Nat) (f : Addr) (fd : FuncData) (ps : List Str) (sp : Sp) : Prop where
  len : ∀ vs H Q E, sp vs H Q E → vs.length = ps.length
  run : ∀ (A : Around) (outer : List Env) (s : Shared) (H : Hp) (args : Args) (us : List Value) (vs : List V) (Q : VK) (E : XK), A.guards = some [] → Room k A → Env0 P w K mg base A outer s H →
    BindsTo s fd args (ps.zip us) → Vals vs us → sp vs H Q E → codeAny (model P w) A (.call (.ref f) args) (CR CX outer P w H s Q E) s
theorem guards_deeper {A : Around} {env : Env} (h : A.guards = some []) : (A.deeper env).guards = some [] := h
/-- things that are locked for good -/
inductive LkE (Q : Hp → Prop) : Hp → Prop
  | of {H : Hp} : Q H → LkE Q H
  | step {H : Hp} {d : Addr} {u : HO} : H d = some u → Mut (some u) → (∀ od, LkE Q (upd H d (.frz od u))) → LkE Q H
theorem LkE.run {X : Cx} {pins : List (Addr × Obj)} {σ : L2.St} {s : Shared} {Q : Hp → Prop} {H : Hp} (q : LkE Q H) : Inv X pins σ H s → ∃ H', Inv X pins σ H' s ∧ Q H' := by
  induction q with
  | of q => exact fun I => ⟨_, I, q⟩
  | step h1 h2 _ ih =>
    intro I
    obtain ⟨od, I1⟩ := I.lock h1 h2
    exact ih od I1
theorem LkE.flat {Q : Hp → Prop} {H : Hp} (q : LkE (LkE Q) H) : LkE Q H := by
  induction q with
  | of q => exact q
  | step h1 h2 _ ih => exact .step h1 h2 ih
theorem LkE.imp {Q Q' : Hp → Prop} {H : Hp} (q : LkE Q H) (h : ∀ H, Q H → Q' H) : LkE Q' H := by
  induction q with
  | of q => exact .of (h _ q)
  | step h1 h2 _ ih => exact .step h1 h2 ih
def lkX (E : XK) : XK := fun c d H => LkE (E c d) H
/-- an exception that left: things may be locked behind it -/
theorem cx_lock {P : Program} {w : World} {outer : List Env} {H : Hp} {s s' : Shared} {E : XK} {e : Value} (c : L2.CX P w outer H s (lkX E) e s') : L2.CX P w outer H s E e s' := by
  obtain ⟨a, B, H', cls, d, h1, h2, h3, h4, h5, h6, h7, h8⟩ := c
  have go : ∀ H', LkE (E cls d) H' → HOk P w H' B → UB (frs outer) H H' s.heap B s'.heap → H' a = none → L2.CX P w outer H s E e s' := fun H' q => by
    induction q with
    | of q => exact fun h3 h4 h5 => ⟨a, B, _, cls, d, h1, h2, h3, h4, h5, h6, h7, q⟩
    | @step H1 b u k1 k2 _ ih =>
      intro h3 h4 h5
      have x := h3 b u k1
      have ex : ∃ ob, B.get? b = some ob := by
        cases u with
        | lst xs => obtain ⟨_, _, _, _, z⟩ := x; exact ⟨_, z⟩
        | dK kvs => obtain ⟨_, _, _, _, o, _, _, z, _⟩ := x; exact ⟨o, z⟩
        | dT kvs => obtain ⟨_, _, _, _, o, _, _, z, _⟩ := x; exact ⟨o, z⟩
        | set S n => obtain ⟨o, _, _, _, z, _⟩ := x; exact ⟨o, z⟩
        | ins C dx fs => obtain ⟨_, _, _, z, _⟩ := x; exact ⟨_, z⟩
        | ext φ => obtain ⟨_, ⟨_, z⟩, _⟩ := x; exact ⟨_, z⟩
        | _ => exact False.elim k2
      obtain ⟨ob, hob⟩ := ex
      have ne : ∀ {v : HO} {y : Addr}, H1 y = some v → ¬ Mut (some v) → y ≠ b := fun hv nm z => by
        subst z
        rw [k1] at hv
        cases hv
        exact nm k2
      have st : ∀ {y : Addr} {v : HO}, ObjOk P w H1 B y v → ObjOk P w (upd H1 b (.frz ob u)) B y v := fun r => r.stay (fun c v _ q => q) (fun c q => by rw [upd_ne (ne q (fun z => z))]; exact q) fun c xs q => by rw [upd_ne (ne q (fun z => z))]; exact q
      refine ih ob (fun y v hy => ?_) ⟨h4.keep, h4.slot, fun y o q1 q2 => ?_, h4.there, fun y xs q => ?_, fun y o x q => ?_, fun y ps q => ?_⟩ ?_
      · by_cases hyb : y = b
        · subst hyb
          rw [upd_same] at hy
          cases hy
          exact ⟨hob, st x⟩
        · rw [upd_ne hyb] at hy
          exact st (h3 y v hy)
      · have z := h4.free y o q1 q2
        rw [upd_ne (fun z2 => by subst z2; rw [k1] at z; cases z)]
        exact z
      · have z := h4.tups y xs q
        rw [upd_ne (ne z (fun z => z))]
        exact z
      · have z := h4.frzs y o x q
        rw [upd_ne (ne z (fun z => z))]
        exact z
      · obtain ⟨m, z⟩ := h4.tbls y ps q
        exact ⟨m, by rw [upd_ne (ne z (fun z => z))]; exact z⟩
      · rw [upd_ne (fun z => by subst z; rw [k1] at h5; cases h5)]
        exact h5
  exact go H' h8 h3 h4 h5
theorem LkE.of_list {Q : Hp → Prop} : ∀ {L : List (Addr × HO)} {H : Hp}, (L.map (·.1)).Nodup → (∀ p ∈ L, H p.1 = some p.2 ∧ Mut (some p.2)) →
    (∀ H', (∀ a, a ∉ L.map (·.1) → H' a = H a) → (∀ p ∈ L, ∃ od, H' p.1 = some (.frz od p.2)) → Q H') → LkE Q H
  | [], H, _, _, hq => .of (hq H (fun _ _ => rfl) (fun _ h => nomatch h))
  | (d, u) :: L, H, nd, hL, hq => by
    obtain ⟨h1, h2⟩ := hL (d, u) List.mem_cons_self
    rw [List.map_cons, List.nodup_cons] at nd
    refine .step h1 h2 fun od => LkE.of_list nd.2 (fun p hp => ?_) fun H' k1 k2 => hq H' (fun a ha => ?_) fun p hp => ?_
    · have hne : p.1 ≠ d := fun z => nd.1 (List.mem_map.mpr ⟨p, hp, z⟩)
      rw [upd_ne hne]
      exact hL p (List.mem_cons_of_mem _ hp)
    · rw [List.map_cons, List.mem_cons, not_or] at ha
      rw [k1 a ha.2, upd_ne ha.1]
    · rcases List.mem_cons.mp hp with e | e
      · subst e
        exact ⟨od, by rw [k1 d nd.1, upd_same]⟩
      · exact k2 p e
/-- a def by its body -/
theorem FnG.of {P : Program} {w : World} {K : PySem.W.Frag} {mg : Str → Option Value} {base : Heap} {x qual : Str} {params : Arguments} {body : List Stmt} {scope : Scope} {dvs : List V} {kws : List (Str × V)} {f : Addr} {fd : FuncData} {N ps : List Str} {k : Nat} {sp : Sp}
    (F : FunD K x qual params body scope dvs kws f fd) (S : FnScope N ps scope) (len : ∀ vs H Q E, sp vs H Q E → vs.length = ps.length)
    (hbody : ∀ (cdv : Value) (A : Around) (outer : List Env) (s : Shared) (H : Hp) (vs : List V) (Q : VK) (E : XK), (A.deeper (envOfC qual scope s.heap.objs.size f cdv)).guards = some [] → Room k (A.deeper (envOfC qual scope s.heap.objs.size f cdv)) → (∃ oc od osl fd', K.lookup f = some ⟨oc, od, .func fd', osl⟩ ∧ fd'.code = cdv) → PySem.W.codeIn K cdv qual = true → sp vs H Q E →
      ∃ t, PSs (cxOf (L2.CX P w) P w K mg base N qual scope f cdv A outer s H (lkX E)) body t ∧ t { nx := fun _ => LkE (Q .non), rt := fun v => LkE (Q v) } (start N vs) H) : FnG P w K mg base (L2.CX P w) (k + 1) f fd ps sp := by
  obtain ⟨oc, od, dV, kV, doc, pm, an, cdv, ct, osl, rfl, lk, hcd, _, _⟩ := F.ex
  constructor
  · exact len
  · intro A outer s H args us vs Q E hG hr e0 hb r hsp
    have lenv := len _ _ _ _ hsp
    have inK : K.In s.heap := Mod.kin e0.mod |>.keeps fun b o e => (e0.bs b o e).1
    have noLim : s.heap.NoLimit := Mod.nolimit e0.mod |>.keeps fun b o e => (e0.bs b o e).1
    have kinds : ∀ y ∈ ps.zip us, scope.names.lookup y.1 = some .local ∨ (scope.names.lookup y.1 = some .cell ∧ ((cellsFrom (s.heap.objs.size + 1) scope.names []).lookup y.1).isSome = true) := by
      rintro ⟨n, v⟩ hy
      cases S.par n (List.of_mem_zip hy).1 with
      | inl q => exact Or.inl q
      | inr q => exact Or.inr (And.intro q (PySem.W.cellsFrom_some _ _ _ (.inl q)))
    apply codeAny_call_function hr.depth (inK _ _ lk) rfl S.co S.gen rfl (PySem.W.codeRec_of inK hcd)
    apply hb
    apply wpAny_newFunctionEnv_cells S.kind kinds
    intro env he s1 x
    subst he
    refine And.intro (noLim.keeps x.toInCall.keep) (codeAny_func ?_)
    obtain ⟨t, ht, hq⟩ := hbody cdv A outer s H vs Q E (guards_deeper hG) (hr.deeper _) ⟨_, _, _, _, lk, rfl⟩ hcd hsp
    have J0 := inv_start (CX := L2.CX P w) (w := w) (N := N) (qual := qual) (f := f) (cd := cdv) (E := lkX E) S hr.hd e0 lenv r x
    apply wpAny_mono (ht.run [] s1 (start N vs) H _ J0 hq)
    · intro fl s' hs
      cases fl with
      | next =>
        obtain ⟨σ', H', J, q⟩ := hs
        obtain ⟨H2, J2, q2⟩ := q.run J
        exact ⟨V.non, H2, J2.os, J2.bare, J2.base, J2.hok, rfl, q2⟩
      | ret u =>
        obtain ⟨v, σ', H', J, rv, q⟩ := hs
        obtain ⟨H2, J2, q2⟩ := q.run J
        exact ⟨v, H2, J2.os, J2.bare, J2.base, J2.hok, rv, q2⟩
      | brk => exact False.elim hs.choose_spec.choose_spec.2
      | cont => exact False.elim hs.choose_spec.choose_spec.2
    · intro e s' hs
      exact wpAny_mono hs (fun _ _ c => cx_lock c) fun _ _ c => cx_lock c
section
variable {X : Cx} {CX : CXT} {k : Nat} {f C : Addr} {fd : FuncData} {ps : List Str} {sp : Sp} {dvs : List V} {ds : List Value} {E : XK} {x : Str} {p pos : Pos} {e : Expr} {es : List Expr} {t : TA}
/-- the answer of a call, in the caller's body -/
theorem call_end {pins : List (Addr × Obj)} {σ : L2.St} {H : Hp} {s : Shared} {Q : VK} {args : Args} (hx : Passes CX X E) (I : Inv X pins σ H s)
    (h : codeAny (model X.prog X.w) X.A (.call (.ref f) args) (CR CX X.stack X.prog X.w H s Q E) s) : wpAny (model X.prog X.w) X.A (call (.ref f) args.pos args.kw) (EP X pins σ Q) X.xe s := by
  apply wpAny_call
  apply codeAny_mono h
  intro r s' hq
  rcases r with e | (_ | _ | _ | u)
  all_goals first | exact hx pins σ H s e s' I hq | exact I.after hq | exact False.elim hq
theorem run_G {pins : List (Addr × Obj)} {σ : L2.St} {H : Hp} {s : Shared} {Q : VK} {us : List Value} {vs : List V} (F : FnG X.prog X.w X.K X.mg X.base CX k f fd ps sp) (hG : X.A.guards = some []) (hr : Room k X.A) (hb : Binds X.K fd ps ds) (hd : Vals dvs ds) (hx : Passes CX X E)
    (I : Inv X pins σ H s) (r : Vals vs us) (h : sp (vs ++ dvs) H Q E) : wpAny (model X.prog X.w) X.A (call (.ref f) us) (EP X pins σ Q) X.xe s := by
  have rr := Vals.append r hd
  have hlen : (us ++ ds).length = ps.length := rr.length.symm.trans (F.len _ _ _ _ h)
  have go := F.run X.A X.stack s H ⟨us, []⟩ (us ++ ds) (vs ++ dvs) Q E hG hr I.env0 (hb s us I.kIn hlen) rr h
  exact call_end (args := ⟨us, []⟩) hx I go
theorem pe_callG (F : FnG X.prog X.w X.K X.mg X.base CX k f fd ps sp) (hG : X.A.guards = some []) (hr : Room k X.A) (hg : Gl X x) (hm : X.mg x = some (.ref f)) (hk : PySem.W.keepIn X.K (.ref f) = true) (hb : Binds X.K fd ps ds) (hd : Vals dvs ds) (hx : Passes CX X E)
    (ha : PA X (e :: es) t) (hdb : (x == ("__debug__" : Str)) = false := by decide) (he : starEach (e :: es) X.env = (false, eval e X.env) :: starEach es X.env := by rfl) (hpl : (backTo pos (starEach es X.env)).any (·.1) = false := by rfl) :
    PE X (.Call (.Name x p) (e :: es) [] pos) (tCall sp dvs E t) := by
  constructor
  intro pins s σ H Q I h
  apply wpAny_Call_Name_kw (ld_glob I hg hm ?_ hdb)
  apply PySem.W.callWith_K (h₀ := X.base) I.ok.mod.kin hk ?_ he hpl
  apply thn (ha.run pos pins s σ H _ I h)
  intro us s1 ⟨vs, H1, I1, r, q⟩
  exact And.intro I1.kIn (run_G F hG hr hb hd hx I1 r q)
theorem pe_callG0 (F : FnG X.prog X.w X.K X.mg X.base CX k f fd ps sp) (hG : X.A.guards = some []) (hr : Room k X.A) (hg : Gl X x) (hm : X.mg x = some (.ref f)) (hk : PySem.W.keepIn X.K (.ref f) = true) (hb : Binds X.K fd ps ds) (hd : Vals dvs ds) (hx : Passes CX X E)
    (hdb : (x == ("__debug__" : Str)) = false := by decide) : PE X (.Call (.Name x p) [] [] pos) (tCall sp dvs E tNil) := by
  constructor
  intro pins s σ H Q I h
  apply wpAny_Call_Name_kw (ld_glob I hg hm ?_ hdb)
  exact PySem.W.callWith_K0 I.kIn hk (run_G (us := []) F hG hr hb hd hx I .nil h)
/-- f(e, .., k = v, ..), f(k = v, ..) -/
theorem run_KG {pins : List (Addr × Obj)} {σ : L2.St} {H : Hp} {s : Shared} {Q : VK} {us ws : List Value} {vs zs : List V} {ks : List Str} {g : List Value → List Value → List Value} {gV : List V → List V → List V} {n : Nat} (F : FnG X.prog X.w X.K X.mg X.base CX k f fd ps sp)
    (hG : X.A.guards = some []) (hr : Room k X.A) (hb : KBn X.K fd ps n ks g gV) (hx : Passes CX X E) (I : Inv X pins σ H s) (r : Vals vs us) (rz : Vals zs ws) (l1 : vs.length = n) (l2 : zs.length = ks.length) (h : sp (gV vs zs) H Q E) :
    wpAny (model X.prog X.w) X.A (call (.ref f) us (ks.zip ws)) (EP X pins σ Q) X.xe s := by
  have rr := hb.rel r rz
  have go := F.run X.A X.stack s H ⟨us, ks.zip ws⟩ (g us ws) (gV vs zs) Q E hG hr I.env0 (hb.to s us ws I.kIn (r.length.symm.trans l1) (rz.length.symm.trans l2)) rr h
  exact call_end (args := ⟨us, ks.zip ws⟩) hx I go
theorem pe_callKG {ks : List Str} {kws : List Keyword} {tk : TA} {g : List Value → List Value → List Value} {gV : List V → List V → List V} {n : Nat} (F : FnG X.prog X.w X.K X.mg X.base CX k f fd ps sp) (hG : X.A.guards = some []) (hr : Room k X.A) (hg : Gl X x) (hm : X.mg x = some (.ref f)) (hk : PySem.W.keepIn X.K (.ref f) = true) (hb : KBn X.K fd ps n ks g gV) (hx : Passes CX X E)
    (ha : PA X (e :: es) t) (hkw : PK X kws tk) (hall : (backToKw pos (keywordEach kws X.env)).all (·.1.isSome) = true := by rfl) (hks : (backToKw pos (keywordEach kws X.env)).filterMap (·.1) = ks := by rfl) (hdb : (x == ("__debug__" : Str)) = false := by decide)
    (he : starEach (e :: es) X.env = (false, eval e X.env) :: starEach es X.env := by rfl) (hpl : ((backTo pos (starEach (e :: es) X.env)).any (·.1) || (backToKw pos (keywordEach kws X.env)).any (·.1.isNone)) = false := by rfl) :
    PE X (.Call (.Name x p) (e :: es) kws pos) (tCallN n ks.length sp gV E t tk) := by
  constructor
  intro pins s σ H Q I h
  apply wpAny_Call_Name_kw (ld_glob I hg hm ?_ hdb)
  apply PySem.W.callWith_KW (h₀ := X.base) I.ok.mod.kin hk hall ?_ hpl he
  apply thn (ha.run pos pins s σ H _ I h)
  intro us s1 ⟨vs, H1, I1, r, q⟩
  apply thn (hkw.run pos pins s1 σ H1 _ I1 q)
  intro ws s2 ⟨zs, H2, I2, rz, l1, l2, q2⟩
  refine And.intro I2.kIn ?_
  rw [hks]
  exact run_KG F hG hr hb hx I2 r rz l1 l2 q2
theorem pe_callKG0 {ks : List Str} {kws : List Keyword} {tk : TA} {g : List Value → List Value → List Value} {gV : List V → List V → List V} (F : FnG X.prog X.w X.K X.mg X.base CX k f fd ps sp) (hG : X.A.guards = some []) (hr : Room k X.A) (hg : Gl X x) (hm : X.mg x = some (.ref f)) (hk : PySem.W.keepIn X.K (.ref f) = true) (hb : KBn X.K fd ps 0 ks g gV) (hx : Passes CX X E)
    (hkw : PK X kws tk) (hall : (backToKw pos (keywordEach kws X.env)).all (·.1.isSome) = true := by rfl) (hks : (backToKw pos (keywordEach kws X.env)).filterMap (·.1) = ks := by rfl) (hdb : (x == ("__debug__" : Str)) = false := by decide)
    (hpl : ((backTo pos (starEach [] X.env)).any (·.1) || (backToKw pos (keywordEach kws X.env)).any (·.1.isNone)) = false := by rfl) :
    PE X (.Call (.Name x p) [] kws pos) (tCallN 0 ks.length sp gV E tNil tk) := by
  constructor
  intro pins s σ H Q I h
  apply wpAny_Call_Name_kw (ld_glob I hg hm ?_ hdb)
  apply PySem.W.callWith_KW0 (h₀ := X.base) I.ok.mod.kin hk hall ?_ hpl
  apply thn (hkw.run pos pins s σ H _ I h)
  intro ws s2 ⟨zs, H2, I2, rz, l1, l2, q2⟩
  refine And.intro I2.kIn ?_
  rw [hks]
  exact run_KG F hG hr hb hx I2 .nil rz rfl l2 q2
end
/-- what is raised is taken -/
abbrev TkE (X : Cx) (E : XK) : Prop := Takes X (fun cls d _ H => E cls d H)
theorem passE {X : Cx} {E : XK} (tk : TkE X E) : Passes (L2.CX X.prog X.w) X E := passes_call tk fun _ _ _ _ h => h
theorem tkN {X : Cx} : TkE X EN := LamX.takes0
/-! ### what a def is worth -/
def spM (K : KW) (n : Nat) (m : GL) : Sp := fun vs H Q E => vs.length = n ∧ ∃ W μ ts, Ok K H W μ ∧ RpL K H W ts vs ∧ PoE K E H W Q (m ts μ)
def mapO {α β : Type} (f : α → Option β) : List α → Option (List β)
  | [] => some []
  | a :: as => match f a with
    | some b => match mapO f as with
      | some bs => some (b :: bs)
      | none => none
    | none => none
/-- frozen: what was made behind n -/
def frzT (μ : Mu) (n : Nat) : Nat → T → Option T
  | 0, _ => none
  | k + 1, .tup ts => match mapO (frzT μ n k) ts with
    | some us => some (.tup us)
    | none => none
  | k + 1, .lst ts => match mapO (frzT μ n k) ts with
    | some us => some (.lst us)
    | none => none
  | k + 1, .kls ts => match mapO (frzT μ n k) ts with
    | some us => some (.kls us)
    | none => none
  | k + 1, .dic ks ts => match mapO (frzT μ n k) ts with
    | some us => some (.dic ks us)
    | none => none
  | k + 1, .obj c ns ts => match mapO (frzT μ n k) ts with
    | some us => some (.obj c ns us)
    | none => none
  | k + 1, .err c ns ts => match mapO (frzT μ n k) ts with
    | some us => some (.err c ns us)
    | none => none
  | k + 1, .mr i => if Nat.blt i n = true then some (.mr i) else match μ[i]? with
    | some (.lst ts) => match mapO (frzT μ n k) ts with
      | some us => some (.lst us)
      | none => none
    | some (.dic ks ts) => match mapO (frzT μ n k) ts with
      | some us => some (.dic ks us)
      | none => none
    | some (.obj c ns ts) => match mapO (frzT μ n k) ts with
      | some us => some (.obj c ns us)
      | none => none
    | _ => none
  | _ + 1, t => some t
theorem mapO_len {α β : Type} {f : α → Option β} : ∀ {as : List α} {bs : List β}, mapO f as = some bs → bs.length = as.length
  | [], _, h => by cases h; rfl
  | a :: as, bs, h => by
    unfold mapO at h
    split at h
    · split at h
      · cases h
        rename_i e
        rw [List.length_cons, List.length_cons, mapO_len e]
      · cases h
    · cases h
/-- numbers of the store below n alone -/
inductive Sc (n : Nat) : T → Prop
  | mr {i : Nat} : i < n → Sc n (.mr i)
  | non : Sc n .non
  | bl {b : Bool} : Sc n (.bl b)
  | int {i : Int} : Sc n (.int i)
  | str {x : List Nat} : Sc n (.str x)
  | ty {x : Nat} : Sc n (.ty x)
  | ref {a : Addr} : Sc n (.ref a)
  | cls {c : Nat} : Sc n (.cls c)
  | lam {q : Str} {ps : Arguments} {b : Expr} {sc : Scope} : Sc n (.lam q ps b sc)
  | tup {ts : List T} : (∀ t ∈ ts, Sc n t) → Sc n (.tup ts)
  | lst {ts : List T} : (∀ t ∈ ts, Sc n t) → Sc n (.lst ts)
  | kls {ts : List T} : (∀ t ∈ ts, Sc n t) → Sc n (.kls ts)
  | dic {ks : List KT} {ts : List T} : (∀ t ∈ ts, Sc n t) → Sc n (.dic ks ts)
  | obj {c : Nat} {ns : List Nat} {ts : List T} : (∀ t ∈ ts, Sc n t) → Sc n (.obj c ns ts)
  | err {c : Nat} {ns : List Nat} {ts : List T} : (∀ t ∈ ts, Sc n t) → Sc n (.err c ns ts)
mutual
theorem Rp.sc {K : KW} {H : Hp} {W : Wd} : ∀ {t : T} {v : V}, Rp K H W t v → Sc W.e.length t
  | _, _, .non => .non
  | _, _, .bl b => .bl
  | _, _, .int i => .int
  | _, _, .str x => .str
  | _, _, .ty n => .ty
  | _, _, .ref a => .ref
  | _, _, .tup h l => .tup (RpL.sc l)
  | _, _, .lst h l => .lst (RpL.sc l)
  | _, _, .kls h l => .kls (RpL.sc l)
  | _, _, .mr h => .mr (List.getElem?_eq_some_iff.mp h).1
  | _, _, .dicK h0 h1 h2 l => .dic (RpL.sc l)
  | _, _, .dicN h0 h1 h2 l => .dic (RpL.sc l)
  | _, _, .lam h1 h2 h3 h4 => .lam
  | _, _, .cls c => .cls
  | _, _, .obj h h1 h2 l => .obj (RpL.sc l)
  | _, _, .err h h1 h2 h3 h4 l => .err (RpL.sc l)
theorem RpL.sc {K : KW} {H : Hp} {W : Wd} : ∀ {ts : List T} {vs : List V}, RpL K H W ts vs → ∀ t ∈ ts, Sc W.e.length t
  | _, _, .nil => fun t h => nomatch h
  | _, _, .cons h l => fun t hm => by
    rcases List.mem_cons.mp hm with e | e
    · rw [e]; exact Rp.sc h
    · exact RpL.sc l t e
end
/-- the store's numbers below n alone -/
def Wd.cutE (W : Wd) (n : Nat) : Wd := { W with e := W.e.take n }
mutual
theorem Rp.cutE {K : KW} {H : Hp} {W : Wd} {n : Nat} : ∀ {t : T} {v : V}, Rp K H W t v → Sc n t → Rp K H (W.cutE n) t v
  | _, _, .non, _ => .non
  | _, _, .bl b, _ => .bl b
  | _, _, .int i, _ => .int i
  | _, _, .str x, _ => .str x
  | _, _, .ty n, _ => .ty n
  | _, _, .ref a, _ => .ref a
  | _, _, .tup h l, .tup s => .tup h (RpL.cutE l s)
  | _, _, .lst h l, .lst s => .lst h (RpL.cutE l s)
  | _, _, .kls h l, .kls s => .kls h (RpL.cutE l s)
  | _, _, .mr h, .mr s => .mr (by show (W.e.take n)[_]? = _; rw [List.getElem?_take_of_lt s]; exact h)
  | _, _, .dicK h0 h1 h2 l, .dic s => .dicK h0 h1 h2 (RpL.cutE l s)
  | _, _, .dicN h0 h1 h2 l, .dic s => .dicN h0 h1 h2 (RpL.cutE l s)
  | _, _, .lam h1 h2 h3 h4, _ => .lam h1 h2 h3 h4
  | _, _, .cls c, _ => .cls c
  | _, _, .obj h h1 h2 l, .obj s => .obj h h1 h2 (RpL.cutE l s)
  | _, _, .err h h1 h2 h3 h4 l, .err s => .err h h1 h2 h3 h4 (RpL.cutE l s)
theorem RpL.cutE {K : KW} {H : Hp} {W : Wd} {n : Nat} : ∀ {ts : List T} {vs : List V}, RpL K H W ts vs → (∀ t ∈ ts, Sc n t) → RpL K H (W.cutE n) ts vs
  | _, _, .nil, _ => .nil
  | _, _, .cons h l, s => .cons (Rp.cutE h (s _ List.mem_cons_self)) (RpL.cutE l fun t ht => s t (List.mem_cons_of_mem _ ht))
end
theorem rpL_mapO {K : KW} {H H2 : Hp} {W W' : Wd} {f : T → Option T} (hf : ∀ t u v, f t = some u → Rp K H W t v → Rp K H2 W' u v) : ∀ {ts us : List T} {vs : List V}, mapO f ts = some us → RpL K H W ts vs → RpL K H2 W' us vs
  | [], us, _, h, r => by cases h; cases r; exact .nil
  | t :: ts, us, _, h, r => by
    unfold mapO at h
    split at h
    · rename_i u e1
      split at h
      · rename_i us1 e2
        cases h
        cases r with
        | cons r1 r2 => exact .cons (hf _ _ _ e1 r1) (rpL_mapO hf e2 r2)
      · cases h
    · cases h
/-- a def's answer from its body's -/
def endO (o : Out Flo) : Out T := match o with
  | .ok (.nx _) μ => .ok .non μ
  | .ok (.rt t) μ => .ok t μ
  | .exc x μ => .exc x μ
  | _ => .bad
def startR (n : Nat) (ts : List T) : Rho := ts.map some ++ List.replicate (n - ts.length) none
/-- what a call leaves that changes nothing that was there: what it made is frozen or forgotten -/
def pureO (μ : Mu) (o : Out T) : Out T := match o with
  | .ok t μ' => if Nat.beq μ'.length μ.length = true then .ok t μ else match frzT μ' μ.length 64 t with
    | some u => .ok u μ
    | none => .bad
  | .exc x μ' => match mapO (frzT μ' μ.length 64) x.xs with
    | some us => .exc { x with xs := us } μ
    | none => .bad
  | .bad => .bad
/-- a def that changes nothing that was there -/
def fnP (n : Nat) (mb : MS) : GL := fun ts μ => pureO μ (endO (mb (startR n ts) (μ.map MO.lck)))
/-- any def -/
def fnK (n : Nat) (mb : MS) : GL := fun ts μ => endO (mb (startR n ts) μ)
theorem rpSt_start {K : KW} {H : Hp} {W : Wd} {N : List Str} {ts : List T} {vs : List V} {n : Nat} (hn : N.length = n) (r : RpL K H W ts vs) : RpSt K H W (L2.start N vs) (startR n ts) := by
  subst hn
  have hl := r.length
  refine ⟨?_, fun i t h => ?_⟩
  · unfold L2.start startR
    rw [List.length_append, List.length_append, List.length_map, List.length_map, List.length_replicate, List.length_replicate, hl]
  · unfold startR at h
    by_cases hi : i < ts.length
    · rw [List.getElem?_append_left (by rw [List.length_map]; exact hi), List.getElem?_map] at h
      cases e : ts[i]? with
      | none => rw [e] at h; cases h
      | some u =>
        rw [e] at h
        cases h
        obtain ⟨v, h1, h2⟩ := r.get e
        refine ⟨v, ?_, h2⟩
        unfold L2.start
        rw [List.getElem?_append_left (by rw [List.length_map]; omega), List.getElem?_map, h1] <;> rfl
    · rw [List.getElem?_append_right (by rw [List.length_map]; omega), List.getElem?_replicate] at h
      split at h <;> cases h
/-- the wish of a def's body -/
def endD (Q : VK) : Ends := { nx := fun _ H' => LkE (Q .non) H', rt := fun v H' => LkE (Q v) H' }
theorem PoS.endO {K : KW} {E : XK} {H : Hp} {W : Wd} {Q : VK} {o : Out Flo} (q : PoE K E H W (fun v => LkE (Q v)) (endO o)) : PoS K E H W (endD Q) o := by
  cases o with
  | ok a m =>
    cases a with
    | nx ρ => exact fun H' W' σ' f k st => q H' W' .non f k .non
    | rt t => exact fun H' W' v f k r => q H' W' v f k r
    | bk ρ => exact q.elim
    | ct ρ => exact q.elim
  | exc x m => exact q
  | bad => exact q.elim
theorem Po.weak {K : KW} {E : XK} {α β : Type} {R : Hp → Wd → α → β → Prop} {H : Hp} {W : Wd} {Q Q' : β → Hp → Prop} {o : Out α} {E' : XK} (hq : ∀ v H, Q v H → Q' v H) (hE : ∀ c d H, E c d H → E' c d H) (h : Po K E R H W Q o) : Po K E' R H W Q' o := by
  cases o with
  | ok a m => exact fun H1 W1 v f k r => hq v H1 (h H1 W1 v f k r)
  | exc x m => exact fun H1 W1 c d f k r => hE c d H1 (h H1 W1 c d f k r)
  | bad => exact h
/-- a body with the ends of a def -/
theorem body_K {K : KW} {E : XK} {N : List Str} {n k : Nat} {mb : MS} (hn : N.length = n) {vs : List V} {H : Hp} {Q : VK} (h : spM K k (fnK n mb) vs H Q E) : tMS K (lkX E) mb (endD Q) (L2.start N vs) H := by
  obtain ⟨_, W, μ, ts, k, r, q⟩ := h
  exact ⟨W, startR n ts, μ, k, rpSt_start hn r, PoS.endO (Po.weak (fun v H q => LkE.of q) (fun c d H q => LkE.of q) q)⟩

/-! ### the end of a def that changes nothing that was there -/
theorem Ok.lckAll {K : KW} {H : Hp} {W : Wd} {μ : Mu} (k : Ok K H W μ) : Ok K H W (μ.map MO.lck) := ⟨by rw [List.length_map]; exact k.len, k.nd, k.nf, k.fk, k.gk, fun i a o h1 h2 => by
  rw [List.getElem?_map] at h2
  cases e : μ[i]? with
  | none => rw [e] at h2; cases h2
  | some u =>
    rw [e] at h2
    cases h2
    exact k.ob i a u h1 e⟩
def isDk (w : World) (a : Addr) (u : HO) : Prop := (∃ kvs, u = .dK kvs) ∨ ∃ xs, u = DN w a xs
theorem isDk.mut {w : World} {a : Addr} {u : HO} (h : isDk w a u) : Mut (some u) := by
  rcases h with ⟨_, rfl⟩ | ⟨_, rfl⟩ <;> exact True.intro
theorem isDk.wr {w : World} {a : Addr} {u : HO} (h : isDk w a u) : Wr (some u) := by
  rcases h with ⟨_, rfl⟩ | ⟨_, rfl⟩
  · exact Wr.dK
  · exact Wr.DN
theorem dk_list (w : World) (H : Hp) : ∀ es : List Addr, es.Nodup → ∃ L : List (Addr × HO), (L.map (·.1)).Nodup ∧ (∀ p ∈ L, p.1 ∈ es ∧ H p.1 = some p.2 ∧ isDk w p.1 p.2) ∧ ∀ a u, a ∈ es → H a = some u → isDk w a u → (a, u) ∈ L
  | [], _ => ⟨[], List.nodup_nil, (fun _ h => nomatch h), fun _ _ h => nomatch h⟩
  | e :: es, nd => by
    rw [List.nodup_cons] at nd
    obtain ⟨L, h1, h2, h3⟩ := dk_list w H es nd.2
    by_cases hx : ∃ u, H e = some u ∧ isDk w e u
    · obtain ⟨u, hu, hd⟩ := hx
      refine ⟨(e, u) :: L, ?_, fun p hp => ?_, fun a v ha hv hd' => ?_⟩
      · rw [List.map_cons, List.nodup_cons]
        refine ⟨fun z => ?_, h1⟩
        obtain ⟨p, hp, ep⟩ := List.mem_map.mp z
        have ep : p.1 = e := ep
        exact nd.1 (ep ▸ (h2 p hp).1)
      · rcases List.mem_cons.mp hp with rfl | hp
        · exact ⟨List.mem_cons_self, hu, hd⟩
        · exact ⟨List.mem_cons_of_mem _ (h2 p hp).1, (h2 p hp).2⟩
      · rcases List.mem_cons.mp ha with rfl | ha
        · rw [hu] at hv
          cases hv
          exact List.mem_cons_self
        · exact List.mem_cons_of_mem _ (h3 a v ha hv hd')
    · refine ⟨L, h1, fun p hp => ⟨List.mem_cons_of_mem _ (h2 p hp).1, (h2 p hp).2⟩, fun a v ha hv hd' => ?_⟩
      rcases List.mem_cons.mp ha with rfl | ha
      · exact absurd ⟨v, hv, hd'⟩ hx
      · exact h3 a v ha hv hd'
/-- the world with its store cut at n, what stands behind it nobody's -/
def Wd.cut (W : Wd) (H : Hp) (n : Nat) : Wd := { G := W.G, F := fun a => W.F a ∨ ((∃ i, n ≤ i ∧ W.e[i]? = some a) ∧ NT (H a)), e := W.e.take n }
/-- the heap with all dicts behind n locked -/
structure Dl (w : World) (H : Hp) (W : Wd) (n : Nat) (H' : Hp) : Prop where
  out : ∀ a, (∀ u, H a = some u → isDk w a u → ¬ ∃ i, n ≤ i ∧ W.e[i]? = some a) → H' a = H a
  inn : ∀ a u i, n ≤ i → W.e[i]? = some a → H a = some u → isDk w a u → ∃ od, H' a = some (.frz od u)
theorem frzT_ok {K : KW} {H H2 : Hp} {W : Wd} {μ : Mu} {n : Nat} (k : Ok K H W μ) (dl : Dl K.w H W n H2) (rf : Rf H W H2 { (W.cut H2 n) with e := W.e }) : ∀ (d : Nat) {t u : T} {v : V}, frzT μ n d t = some u → Rp K H W t v → Rp K H2 (W.cut H2 n) u v
  | 0, _, _, _, h, _ => by cases h
  | d + 1, t, u, v, h, r => by
    have ih := fun t u v => frzT_ok (n := n) k dl rf d (t := t) (u := u) (v := v)
    cases t with
    | non => cases h; cases r; exact .non
    | bl b => cases h; cases r; exact .bl b
    | int i => cases h; cases r; exact .int i
    | str x => cases h; cases r; exact .str x
    | ty s => cases h; cases r; exact .ty s
    | ref a => cases h; cases r; exact .ref a
    | cls c => cases h; cases r; exact .cls c
    | lam q ps b sc => cases h; cases r with
      | lam h1 h2 h3 h4 => exact .lam (rf.fz _ h1).1 (rf.fz _ h2).1 ((rf.fz _ h1).2.trans h3) ((rf.fz _ h2).2.trans h4)
    | tup ts =>
      unfold frzT at h
      split at h
      · rename_i us e
        cases h
        cases r with
        | tup h1 h2 => exact .tup (sqT_rf rf h1) (rpL_mapO ih e h2)
      · cases h
    | lst ts =>
      unfold frzT at h
      split at h
      · rename_i us e
        cases h
        cases r with
        | lst h1 h2 => exact .lst ⟨(rf.fz _ h1.1).1, (rf.fz _ h1.1).2.trans h1.2⟩ (rpL_mapO ih e h2)
      · cases h
    | kls ts =>
      unfold frzT at h
      split at h
      · rename_i us e
        cases h
        cases r with
        | kls h1 h2 => exact .kls (kf_rf rf h1) (rpL_mapO ih e h2)
      · cases h
    | dic ks ts =>
      unfold frzT at h
      split at h
      · rename_i us e
        cases h
        cases r with
        | dicK h0 h1 h2 h3 => exact .dicK (rf.fz _ h0).1 ((rf.fz _ h0).2.trans h1) h2 (rpL_mapO ih e h3)
        | dicN h0 h1 h2 h3 => exact .dicN (rf.fz _ h0).1 ((rf.fz _ h0).2.trans h1) (DNk.rf rf h2) (rpL_mapO ih e h3)
      · cases h
    | obj c ns ts =>
      unfold frzT at h
      split at h
      · rename_i us e
        cases h
        cases r with
        | obj h1 h2 h3 h4 => exact .obj (rf.fz _ h1).1 ((rf.fz _ h1).2.trans h2) h3 (rpL_mapO ih e h4)
      · cases h
    | err c ns ts =>
      unfold frzT at h
      split at h
      · rename_i us e
        cases h
        cases r with
        | err h1 h2 h3 h4 h5 h6 => exact .err (rf.fz _ h1).1 ((rf.fz _ h1).2.trans h2) (rf.fz _ h3).1 ((rf.fz _ h3).2.trans h4) h5 (rpL_mapO ih e h6)
      · cases h
    | mr i =>
      unfold frzT at h
      cases r with
      | @mr _ a hi =>
        by_cases hlt : Nat.blt i n = true
        · rw [if_pos hlt] at h
          cases h
          refine .mr ?_
          show (W.e.take n)[i]? = some a
          rw [List.getElem?_take_of_lt (Nat.le_of_ble_eq_true hlt)]
          exact hi
        · rw [if_neg hlt] at h
          have hge : n ≤ i := by
            have : ¬ i < n := fun z => hlt (Nat.ble_eq_true_of_le z)
            omega
          split at h
          · rename_i ts hm
            split at h
            · rename_i us e
              cases h
              obtain ⟨vs, q1, q2⟩ := k.ob i a _ hi hm
              have e2 : H2 a = H a := dl.out a fun u hu hd => by
                rw [q1] at hu
                cases hu
                rcases hd with ⟨_, z⟩ | ⟨_, z⟩ <;> cases z
              have nt : NT (H2 a) := by rw [e2, q1]; exact NT.lst
              exact .lst ⟨.inr ⟨⟨i, hge, hi⟩, nt⟩, e2.trans q1⟩ (rpL_mapO ih e q2)
            · cases h
          · rename_i ks ts hm
            split at h
            · rename_i us e
              cases h
              rcases k.ob i a _ hi hm with ⟨keys, vs, rfl, q2, q3, q4⟩ | ⟨xs, rfl, q2, q3, q4⟩
              · have q2 : H a = some (.dK (keys.zip vs)) := q2.elim id fun z => absurd z.1 Bool.false_ne_true
                obtain ⟨od, e2⟩ := dl.inn a _ i hge hi q2 (.inl ⟨_, rfl⟩)
                exact .dicK (.inr ⟨⟨i, hge, hi⟩, by rw [e2]; exact NT.of fun _ z => nomatch z⟩) e2 q3 (rpL_mapO ih e q4)
              · have q2 : H a = some (DN K.w a xs) := q2.elim id fun z => absurd z.1 Bool.false_ne_true
                obtain ⟨od, e2⟩ := dl.inn a _ i hge hi q2 (.inr ⟨_, rfl⟩)
                exact .dicN (.inr ⟨⟨i, hge, hi⟩, by rw [e2]; exact NT.of fun _ z => nomatch z⟩) e2 (DNk.rf rf q3) (rpL_mapO ih e q4)
            · cases h
          · rename_i c ns ts hm
            split at h
            · rename_i us e
              cases h
              obtain ⟨dx, vs, q1, q2, q3⟩ := k.ob i a _ hi hm
              have e2 : H2 a = H a := dl.out a fun u hu hd => by
                rw [q1] at hu
                cases hu
                rcases hd with ⟨_, z⟩ | ⟨_, z⟩ <;> cases z
              have nt : NT (H2 a) := by rw [e2, q1]; exact NT.of fun _ z => nomatch z
              exact .obj (.inr ⟨⟨i, hge, hi⟩, nt⟩) (e2.trans q1) q2 (rpL_mapO ih e q3)
            · cases h
          · cases h
theorem RpOb.sc {K : KW} {H H1 : Hp} {W W1 : Wd} {a : Addr} {n : Nat} (hn : W.e.length = n) : ∀ {o : MO} {b b1 : Bool}, RpOb K H W a b o → RpOb K H1 W1 a b1 o → RpOb K H1 (W1.cutE n) a b1 o
  | .lst ts, b, b1, ⟨vs, _, r⟩, ⟨vs1, h1, r1⟩ => ⟨vs1, h1, r1.cutE (hn ▸ r.sc)⟩
  | .dead, b, b1, _, h => h
  | .tab P q, b, b1, _, h => h
  | .dic ks ts, b, b1, h, h1 => by
    have s : ∀ t ∈ ts, Sc n t := by
      rcases h with ⟨_, _, _, _, _, r⟩ | ⟨_, _, _, _, r⟩
      · exact hn ▸ r.sc
      · exact hn ▸ r.sc
    rcases h1 with ⟨k, v, e1, e2, e3, r⟩ | ⟨k, e1, e2, e3, r⟩
    · exact .inl ⟨k, v, e1, e2, e3, r.cutE s⟩
    · exact .inr ⟨k, e1, e2, e3, r.cutE s⟩
  | .obj c ns ts, b, b1, ⟨_, _, _, _, r⟩, ⟨dx, vs1, h1, h2, r1⟩ => ⟨dx, vs1, h1, h2, r1.cutE (hn ▸ r.sc)⟩
  | .lck o, b, b1, h, h1 => RpOb.sc hn (o := o) h h1
  | .itd o, b, b1, h, h1 => RpOb.sc hn (o := o) h h1
/-- behind the body: dicts are locked, the old store stands -/
theorem pure_end {K : KW} {H0 H : Hp} {W0 W : Wd} {μ μ' : Mu} (k0 : Ok K H0 W0 μ) (f : Fr H0 W0 H W) (k : Ok K H W μ') (lk : Lk (μ.map MO.lck) μ') {Q : Hp → Prop}
    (hq : ∀ H2, Dl K.w H W μ.length H2 → Rf H W H2 { (W.cut H2 μ.length) with e := W.e } → Fr H0 W0 H2 (W.cut H2 μ.length) → Ok K H2 (W.cut H2 μ.length) μ → Q H2) : LkE Q H := by
  obtain ⟨L, l1, l2, l3⟩ := dk_list K.w H (W.e.drop μ.length) (k.nd.sublist (List.drop_sublist _ _))
  have at_ : ∀ a, a ∈ W.e.drop μ.length ↔ ∃ i, μ.length ≤ i ∧ W.e[i]? = some a := fun a => by
    constructor
    · intro h
      obtain ⟨j, hj⟩ := List.mem_iff_getElem?.mp h
      rw [List.getElem?_drop] at hj
      exact ⟨μ.length + j, by omega, hj⟩
    · rintro ⟨i, hi, h⟩
      refine List.mem_iff_getElem?.mpr ⟨i - μ.length, ?_⟩
      rw [List.getElem?_drop]
      rw [show μ.length + (i - μ.length) = i by omega]
      exact h
  have inE : ∀ p ∈ L, p.1 ∈ W.e := fun p hp => List.mem_of_mem_drop (l2 p hp).1
  have apart : ∀ a i, μ.length ≤ i → W.e[i]? = some a → a ∉ W.e.take μ.length := fun a i hi h1 h2 => by
    obtain ⟨j, hj⟩ := List.mem_iff_getElem?.mp h2
    have hjl : j < (W.e.take μ.length).length := (List.getElem?_eq_some_iff.mp hj).1
    rw [List.length_take] at hjl
    rw [List.getElem?_take_of_lt (by omega)] at hj
    obtain ⟨l1, g1⟩ := List.getElem?_eq_some_iff.mp h1
    obtain ⟨l2, g2⟩ := List.getElem?_eq_some_iff.mp hj
    have := (List.getElem_inj k.nd).mp (g1.trans g2.symm)
    omega
  refine LkE.of_list l1 (fun p hp => ⟨(l2 p hp).2.1, (l2 p hp).2.2.mut⟩) fun H2 k1 k2 => ?_
  have notL : ∀ a, (∀ p ∈ L, a ≠ p.1) → H2 a = H a := fun a h => k1 a fun z => by
    obtain ⟨p, hp, e⟩ := List.mem_map.mp z
    exact h p hp e.symm
  have ntL : ∀ a, NT (H a) → NT (H2 a) := fun a h => by
    by_cases z : ∃ p ∈ L, a = p.1
    · obtain ⟨p, hp, rfl⟩ := z
      obtain ⟨od, e⟩ := k2 p hp
      rw [e]
      exact NT.of fun _ z => nomatch z
    · rw [notL a fun p hp e => z ⟨p, hp, e⟩]
      exact h
  have dl : Dl K.w H W μ.length H2 := ⟨fun a h => notL a fun p hp e => by
      subst e
      exact h p.2 (l2 p hp).2.1 (l2 p hp).2.2 ((at_ _).mp (l2 p hp).1), fun a u i hi ha hu hd => k2 (a, u) (l3 a u ((at_ a).mpr ⟨i, hi, ha⟩) hu hd)⟩
  have rf : Rf H W H2 { (W.cut H2 μ.length) with e := W.e } := by
    refine ⟨fun a h => ⟨.inl h, notL a fun p hp e => (k.nf p.1 (inE p hp)).1 (e ▸ h)⟩, fun a xs h => ?_, fun a o u h => ?_, fun _ _ h => h⟩
    · rw [notL a fun p hp e => (l2 p hp).2.2.wr.2.1 xs (by rw [← (l2 p hp).2.1, ← e]; exact h)]; exact h
    · rw [notL a fun p hp e => (l2 p hp).2.2.wr.2.2 o u (by rw [← (l2 p hp).2.1, ← e]; exact h)]; exact h
  have gz : ∀ a, W.G a → H2 a = H a := fun a h => notL a fun p hp e => (k.nf p.1 (inE p hp)).2 (e ▸ h)
  have lenW : W0.e.length = μ.length := k0.len
  have fr : Fr H0 W0 H2 (W.cut H2 μ.length) := by
    refine ⟨⟨fun a h => ⟨.inl (f.fz a h).1, (rf.fz a (f.fz a h).1).2.trans (f.fz a h).2⟩, fun a xs h => rf.tp a xs (f.tp a xs h), fun a o u h => rf.kn a o u (f.kn a o u h), fun i a h => ?_⟩, f.gg, fun a h => (gz a (by rw [f.gg]; exact h)).trans (f.gz a h)⟩
    show (W.e.take μ.length)[i]? = some a
    rw [List.getElem?_take_of_lt (by rw [← lenW]; exact (List.getElem?_eq_some_iff.mp h).1)]
    exact f.et i a h
  have lenM : μ.length ≤ μ'.length := by
    cases hz : μ.length with
    | zero => exact Nat.zero_le _
    | succ m =>
      have hm : m < μ.length := by omega
      have q := lk m μ[m] (by rw [List.getElem?_map, List.getElem?_eq_getElem hm] <;> rfl)
      have := (List.getElem?_eq_some_iff.mp q).1
      omega
  refine hq H2 dl rf fr ⟨?_, k.nd.sublist (List.take_sublist _ _), fun a ha => ⟨fun h => ?_, (k.nf a (List.mem_of_mem_take ha)).2⟩, fun a h => ?_, fun a g => ntL a (k.gk a g), fun i a o h1 h2 => ?_⟩
  · show (W.e.take μ.length).length = μ.length
    rw [List.length_take, k.len]
    omega
  · rcases h with h | ⟨⟨i, hi, h⟩, _⟩
    · exact (k.nf a (List.mem_of_mem_take ha)).1 h
    · exact apart a i hi h ha
  · rcases h with h | ⟨⟨i, hi, h⟩, hn⟩
    · exact ⟨ntL a (k.fk a h).1, (k.fk a h).2⟩
    · exact ⟨hn, (k.nf a (List.mem_of_getElem? h)).2⟩
  · have hil : i < μ.length := (List.getElem?_eq_some_iff.mp h2).1
    have h1 : (W.e.take μ.length)[i]? = some a := h1
    have hmem := List.mem_of_getElem? h1
    rw [List.getElem?_take_of_lt hil] at h1
    have q := k.ob i a (.lck o) h1 (lk i o (by rw [List.getElem?_map, h2] <;> rfl))
    have q : RpOb K H W a false o := q
    have e2 : H2 a = H a := notL a fun p hp e => by
      have z := (at_ p.1).mp (l2 p hp).1
      obtain ⟨j, hj, hj2⟩ := z
      exact apart p.1 j hj hj2 (e ▸ hmem)
    have q3 := RpOb.rf rf e2 q
    have e0 : W0.e[i]? = some a := by
      have hl : i < W0.e.length := by rw [lenW]; exact hil
      have z := f.et i _ (List.getElem?_eq_getElem hl)
      rw [h1] at z
      rw [List.getElem?_eq_getElem hl, Option.some.inj z]
    exact RpOb.sc (n := μ.length) lenW (k0.ob i a o e0 h2) q3
theorem body_P {K : KW} {E : XK} {N : List Str} {n k : Nat} {mb : MS} [hk : KpR mb] (hn : N.length = n) {vs : List V} {H : Hp} {Q : VK} (h : spM K k (fnP n mb) vs H Q E) : tMS K (lkX E) mb (endD Q) (L2.start N vs) H := by
  obtain ⟨_, W, μ, ts, k, r, q⟩ := h
  refine ⟨W, startR n ts, μ.map MO.lck, k.lckAll, rpSt_start hn r, PoS.endO ?_⟩
  have q : PoE K E H W Q (pureO μ (endO (mb (startR n ts) (μ.map MO.lck)))) := q
  have lk := hk.kp (startR n ts) (μ.map MO.lck)
  have lk2 : LkO (μ.map MO.lck) (endO (mb (startR n ts) (μ.map MO.lck))) := by
    cases e : mb (startR n ts) (μ.map MO.lck) with
    | bad => exact True.intro
    | exc x m => rw [e] at lk; exact lk
    | ok a m =>
      rw [e] at lk
      cases a with
      | nx ρ => exact lk
      | rt t => exact lk
      | bk ρ => exact True.intro
      | ct ρ => exact True.intro
  cases e : endO (mb (startR n ts) (μ.map MO.lck)) with
  | bad => rw [e] at q; exact q.elim
  | ok t μ' =>
    rw [e] at q lk2
    intro H' W' v f k' r'
    refine pure_end k f k' lk2 fun H2 dl rf fr k2 => ?_
    unfold pureO at q
    dsimp only at q
    split at q
    · rename_i hl
      have hl : μ'.length = μ.length := Nat.eq_of_beq_eq_true hl
      refine q H2 _ v fr k2 ?_
      have z : { (W'.cut H2 μ.length) with e := W'.e } = W'.cut H2 μ.length := by
        unfold Wd.cut
        rw [List.take_of_length_le (by rw [k'.len]; omega)]
      rw [← z]
      exact r'.rf rf
    · split at q
      · rename_i u hu
        exact q H2 _ v fr k2 (frzT_ok k' dl rf 64 hu r')
      · exact q.elim
  | exc x μ' =>
    rw [e] at q lk2
    intro H' W' c d f k' r'
    refine pure_end k f k' lk2 fun H2 dl rf fr k2 => ?_
    unfold pureO at q
    dsimp only at q
    split at q
    · rename_i us hu
      obtain ⟨rc, dd, vs, rd, rF, rx, rl, rr⟩ := r'
      exact q H2 _ c d fr k2 ⟨rc, dd, vs, rd, .inl rF, (rf.fz dd rF).2.trans rx, rl, rpL_mapO (fun _ _ _ h r => frzT_ok k' dl rf 64 h r) hu rr⟩
    · exact q.elim
/-- the def's contract: m is what it is worth -/
abbrev DefM (P : Program) (w : World) (K : PySem.W.Frag) (mg : Str → Option Value) (base : Heap) (k : Nat) (f : Addr) (fd : FuncData) (ps : List Str) (m : GL) : Prop := FnG P w K mg base (L2.CX P w) k f fd ps (spM ⟨K, w⟩ ps.length m)
theorem spM_len {K : KW} {n : Nat} {m : GL} : ∀ vs H Q E, spM K n m vs H Q E → vs.length = n := fun _ _ _ _ h => h.1
section
variable {X : Cx} {E : XK} {k : Nat} {f : Addr} {fd : FuncData} {ps : List Str} {x : Str} {p pos : Pos} {e : Expr} {es : List Expr} {m : GL} {ma : MA} {tds : List T} {dvs : List V} {ds : List Value}
/-- f(e, ..): tds the defaults that fill up -/
def mCall (m : GL) (tds : List T) (ma : MA) : ME := fun ρ μ => (ma ρ μ).bind fun ts μ1 => m (ts ++ tds) μ1
theorem tCall_M {K : KW} (hl : dvs.length = tds.length) (hT : ∀ H W, RpL K H W tds dvs) (hn : ∀ ts μ, m ts μ ≠ .bad → ts.length = ps.length) : ∀ σ H Q, tM K E (mCall m tds ma) σ H Q → tCall (spM K ps.length m) dvs E (tMA K E ma) σ H Q := fun σ H Q ⟨W, ρ, μ, k, st, q⟩ =>
  ⟨W, ρ, μ, k, st, Po.bind (R := RpL K) (R' := Rp K) q fun ts μ1 _ H1 W1 vs f1 k1 r1 q1 => by
    have rr := r1.append (hT H1 W1)
    refine ⟨?_, W1, μ1, ts ++ tds, k1, rr, q1⟩
    rw [← rr.length]
    refine hn _ μ1 fun z => ?_
    rw [z] at q1
    exact q1.elim⟩
theorem Po.spM {K : KW} {H : Hp} {W : Wd} {Q : VK} {ts : List T} {vs : List V} {μ : Mu} {n : Nat} {E : XK} (hn : m ts μ ≠ .bad → ts.length = n) (k : Ok K H W μ) (r : RpL K H W ts vs) (q : PoE K E H W Q (m ts μ)) : spM K n m vs H Q E := by
  refine ⟨?_, W, μ, ts, k, r, q⟩
  rw [← r.length]
  refine hn fun z => ?_
  rw [z] at q
  exact q
/-- the arity of a worth -/
def Ar (n : Nat) (m : GL) : Prop := ∀ ts μ, m ts μ ≠ .bad → ts.length = n
def arO (n : Nat) (m : GL) : GL := fun ts μ => if ts.length = n then m ts μ else .bad
theorem arO_ar (n : Nat) (m : GL) : Ar n (arO n m) := fun ts μ h => by
  unfold arO at h
  split at h
  · assumption
  · exact absurd rfl h
theorem je_call (F : DefM X.prog X.w X.K X.mg X.base k f fd ps m) (har : Ar ps.length m) (tk : TkE X E) (hG : X.A.guards = some []) (hr : Room k X.A) (hg : Gl X x) (hm : X.mg x = some (.ref f)) (hk : PySem.W.keepIn X.K (.ref f) = true) (hb : Binds X.K fd ps ds) (hd : Vals dvs ds) (hT : ∀ H W, RpL (kwOf X) H W tds dvs)
    (ha : JA X E (e :: es) ma) (hdb : (x == ("__debug__" : Str)) = false := by decide) (he : starEach (e :: es) X.env = (false, eval e X.env) :: starEach es X.env := by rfl) (hpl : (backTo pos (starEach es X.env)).any (·.1) = false := by rfl) :
    JE X E (.Call (.Name x p) (e :: es) [] pos) (mCall m tds ma) := PE_imp (pe_callG F hG hr hg hm hk hb hd (passE tk) ha hdb he hpl) fun σ H Q ⟨W, ρ, μ, k, st, q⟩ =>
  ⟨W, ρ, μ, k, st, Po.bind (R := RpL (kwOf X)) (R' := Rp (kwOf X)) q fun ts μ1 _ H1 W1 vs f1 k1 r1 q1 => Po.spM (har _ _) k1 (r1.append (hT H1 W1)) q1⟩
theorem je_call0 (F : DefM X.prog X.w X.K X.mg X.base k f fd ps m) (har : Ar ps.length m) (tk : TkE X E) (hG : X.A.guards = some []) (hr : Room k X.A) (hg : Gl X x) (hm : X.mg x = some (.ref f)) (hk : PySem.W.keepIn X.K (.ref f) = true) (hb : Binds X.K fd ps ds) (hd : Vals dvs ds) (hT : ∀ H W, RpL (kwOf X) H W tds dvs)
    (hdb : (x == ("__debug__" : Str)) = false := by decide) : JE X E (.Call (.Name x p) [] [] pos) (mCall m tds mNil) := PE_imp (pe_callG0 F hG hr hg hm hk hb hd (passE tk) hdb) fun σ H Q ⟨W, ρ, μ, k, st, q⟩ =>
  Po.spM (K := kwOf X) (E := E) (har _ _) k (RpL.append .nil (hT H W)) q
/-! keywords -/
def pickL {α : Type} (ix : List Nat) (l : List α) : List α := ix.filterMap fun i => l[i]?
theorem Vals.pick {vs : List V} {us : List Value} (r : Vals vs us) : ∀ ix : List Nat, Vals (pickL ix vs) (pickL ix us)
  | [] => .nil
  | i :: ix => by
    have ih := Vals.pick r ix
    unfold pickL at ih ⊢
    rw [List.filterMap_cons, List.filterMap_cons]
    cases h : vs[i]? with
    | none =>
      rw [r.none_of h]
      exact ih
    | some v =>
      obtain ⟨u, h1, h2⟩ := r.get h
      rw [h1]
      exact .cons h2 ih
theorem RpL.pick {K : KW} {H : Hp} {W : Wd} {ts : List T} {vs : List V} (r : RpL K H W ts vs) : ∀ ix : List Nat, RpL K H W (pickL ix ts) (pickL ix vs)
  | [] => .nil
  | i :: ix => by
    have ih := RpL.pick r ix
    unfold pickL at ih ⊢
    rw [List.filterMap_cons, List.filterMap_cons]
    cases h : ts[i]? with
    | none =>
      have : vs[i]? = none := by
        have h1 := List.getElem?_eq_none_iff.mp h
        rw [r.length] at h1
        exact List.getElem?_eq_none_iff.mpr h1
      rw [this]
      exact ih
    | some t =>
      obtain ⟨v, h1, h2⟩ := r.get h
      rw [h1]
      exact .cons h2 ih
/-- a def without defaults called with keywords: ix puts positional and keywords' values in the parameters' order -/
theorem kbn_ix {K : PySem.W.Frag} {xx qual : Str} {params : Arguments} {body : List Stmt} {scope : Scope} (F : FunD K xx qual params body scope [] [] f fd) (n : Nat) (ks : List Str) (ix : List Nat)
    (h : ∀ (kV doc pm : Value) (an : Option Addr) (cdv ct : Value) (us ws : List Value), us.length = n → ws.length = ks.length → bindArgs (PySem.W.fnOf xx qual params body scope .none kV doc pm an cdv ct) ⟨us, ks.zip ws⟩ = pure (ps.zip (pickL ix (us ++ ws)))) :
    KBn K fd ps n ks (fun us ws => pickL ix (us ++ ws)) (fun vs zs => pickL ix (vs ++ zs)) := by
  obtain ⟨oc, od, dV, kV, doc, pm, an, cdv, ct, osl, rfl, lk, hcd, hD, hK⟩ := F.ex
  rcases hD with ⟨_, rfl⟩ | ⟨e, _⟩
  · exact ⟨fun s us ws X l1 l2 => .of_eq (h kV doc pm an cdv ct us ws l1 l2), fun r1 r2 => Vals.pick (r1.append r2) ix⟩
  · exact absurd rfl e
abbrev JK (X : Cx) (E : XK) (kws : List Keyword) (m : MA) : Prop := PK X kws (tMA (kwOf X) E m)
theorem PK_imp {X : Cx} {e : List Keyword} {t t' : TA} (h : PK X e t) (hi : ∀ σ H Q, t' σ H Q → t σ H Q) : PK X e t' := ⟨fun pos pins s σ H Q I q => h.run pos pins s σ H Q I (hi σ H Q q)⟩
theorem jk_nil : JK X E [] mNil := PK_imp pk_nil fun σ H Q ⟨W, ρ, μ, k, st, q⟩ => Po.go (R := RpL (kwOf X)) q Fr.refl k .nil
theorem jk_cons {nm : Option Str} {kpos : Pos} {kws : List Keyword} {me : ME} {r : MA} (ha : JE X E e me) (hr : JK X E kws r) : JK X E (⟨nm, e, kpos⟩ :: kws) (mCons me r) :=
  PK_imp (pk_cons ha hr) fun σ H Q ⟨W, ρ, μ, k, st, q⟩ => ⟨W, ρ, μ, k, st, Po.bind (R := Rp (kwOf X)) q fun t μ1 _ H1 W1 v f1 k1 r1 q1 =>
    ⟨W1, ρ, μ1, k1, st.fr f1, Po.bind (R := RpL (kwOf X)) q1 fun ts μ2 _ H2 W2 vs f2 k2 r2 q2 => Po.go (R := RpL (kwOf X)) q2 Fr.refl k2 (.cons (r1.fr f2) r2)⟩⟩
def mCallK (n l : Nat) (ix : List Nat) (m : GL) (ma mk : MA) : ME := fun ρ μ => (ma ρ μ).bind fun ts μ1 => (mk ρ μ1).bind fun us μ2 => if ts.length = n ∧ us.length = l then m (pickL ix (ts ++ us)) μ2 else .bad
theorem tCallK_M {K : KW} {n l : Nat} {ix : List Nat} {mk : MA} (har : Ar ps.length m) : ∀ σ H Q, tM K E (mCallK n l ix m ma mk) σ H Q → tCallN n l (spM K ps.length m) (fun vs zs => pickL ix (vs ++ zs)) E (tMA K E ma) (tMA K E mk) σ H Q := fun σ H Q ⟨W, ρ, μ, k, st, q⟩ =>
  ⟨W, ρ, μ, k, st, Po.bind (R := RpL K) (R' := Rp K) q fun ts μ1 _ H1 W1 vs f1 k1 r1 q1 => ⟨W1, ρ, μ1, k1, st.fr f1, Po.bind (R := RpL K) (R' := Rp K) q1 fun us μ2 _ H2 W2 zs f2 k2 r2 q2 => by
    split at q2
    · rename_i hh
      exact ⟨(r1.length.symm.trans hh.1), (r2.length.symm.trans hh.2), Po.spM (har _ _) k2 (((r1.fr f2).append r2).pick ix) q2⟩
    · exact q2.elim⟩⟩
theorem je_callK {n : Nat} {ks : List Str} {ix : List Nat} {kws : List Keyword} {mk : MA} (F : DefM X.prog X.w X.K X.mg X.base k f fd ps m) (har : Ar ps.length m) (tk : TkE X E) (hG : X.A.guards = some []) (hr : Room k X.A) (hg : Gl X x) (hm : X.mg x = some (.ref f)) (hk : PySem.W.keepIn X.K (.ref f) = true)
    (hb : KBn X.K fd ps n ks (fun us ws => pickL ix (us ++ ws)) (fun vs zs => pickL ix (vs ++ zs))) (ha : JA X E (e :: es) ma) (hkw : JK X E kws mk) (hall : (backToKw pos (keywordEach kws X.env)).all (·.1.isSome) = true := by rfl) (hks : (backToKw pos (keywordEach kws X.env)).filterMap (·.1) = ks := by rfl)
    (hdb : (x == ("__debug__" : Str)) = false := by decide) (he : starEach (e :: es) X.env = (false, eval e X.env) :: starEach es X.env := by rfl) (hpl : ((backTo pos (starEach (e :: es) X.env)).any (·.1) || (backToKw pos (keywordEach kws X.env)).any (·.1.isNone)) = false := by rfl) :
    JE X E (.Call (.Name x p) (e :: es) kws pos) (mCallK n ks.length ix m ma mk) := PE_imp (pe_callKG F hG hr hg hm hk hb (passE tk) ha hkw hall hks hdb he hpl) (tCallK_M har)
theorem je_callK0 {ks : List Str} {ix : List Nat} {kws : List Keyword} {mk : MA} (F : DefM X.prog X.w X.K X.mg X.base k f fd ps m) (har : Ar ps.length m) (tk : TkE X E) (hG : X.A.guards = some []) (hr : Room k X.A) (hg : Gl X x) (hm : X.mg x = some (.ref f)) (hk : PySem.W.keepIn X.K (.ref f) = true)
    (hb : KBn X.K fd ps 0 ks (fun us ws => pickL ix (us ++ ws)) (fun vs zs => pickL ix (vs ++ zs))) (hkw : JK X E kws mk) (hall : (backToKw pos (keywordEach kws X.env)).all (·.1.isSome) = true := by rfl) (hks : (backToKw pos (keywordEach kws X.env)).filterMap (·.1) = ks := by rfl)
    (hdb : (x == ("__debug__" : Str)) = false := by decide) (hpl : ((backTo pos (starEach [] X.env)).any (·.1) || (backToKw pos (keywordEach kws X.env)).any (·.1.isNone)) = false := by rfl) :
    JE X E (.Call (.Name x p) [] kws pos) (mCallK 0 ks.length ix m mNil mk) := PE_imp (pe_callKG0 F hG hr hg hm hk hb (passE tk) hkw hall hks hdb hpl) fun σ H Q h => by
  obtain ⟨W, ρ, μ, k, st, q⟩ := tCallK_M (K := kwOf X) (ps := ps) har σ H Q h
  exact Po.go (R := RpL (kwOf X)) q Fr.refl k .nil
end

theorem endO_kp {μ : Mu} {o : Out Flo} (h : LkO μ o) : LkO μ (endO o) := by
  cases o with
  | bad => exact True.intro
  | exc x m => exact h
  | ok a m =>
    cases a with
    | nx ρ => exact h
    | rt t => exact h
    | bk ρ => exact True.intro
    | ct ρ => exact True.intro
instance {n : Nat} {mb : MS} : KpL (fnP n mb) := ⟨fun ts μ => by
  unfold fnP pureO
  split
  · split
    · exact Lk.refl
    · split
      · exact Lk.refl
      · exact True.intro
  · split
    · exact Lk.refl
    · exact True.intro
  · exact True.intro⟩
instance {n : Nat} {mb : MS} [hb : KpR mb] : KpL (fnK n mb) := ⟨fun ts μ => endO_kp (hb.kp _ _)⟩
instance {n : Nat} {m : GL} [hm : KpL m] : KpL (arO n m) := ⟨fun ts μ => by
  unfold arO
  split
  · exact hm.kp _ _
  · exact True.intro⟩
instance {m : GL} {tds : List T} {ma : MA} [hm : KpL m] [ha : KpR ma] : KpR (mCall m tds ma) := ⟨fun ρ μ => (ha.kp ρ μ).bind fun _ _ _ => hm.kp _ _⟩
instance {n l : Nat} {ix : List Nat} {m : GL} {ma mk : MA} [hm : KpL m] [ha : KpR ma] [hk : KpR mk] : KpR (mCallK n l ix m ma mk) := ⟨fun ρ μ => (ha.kp ρ μ).bind fun _ _ _ => (hk.kp _ _).bind fun _ _ _ => by
  split
  · exact hm.kp _ _
  · exact True.intro⟩
end Mr

namespace Mr
open PySem PySem.Spec PyProof.Rows L2

/-! ### a list that was just laid: frozen, or in the store -/
def Lays (fin : List T → Mu → Out T) : Prop := ∀ (K : KW) (E : XK) (H : Hp) (W : Wd) (μ : Mu) (Q : VK) (ts : List T) (vs : List V), Ok K H W μ → RpL K H W ts vs → PoE K E H W Q (fin ts μ) → ∀ p, H p = none → Q (.ref p) (upd H p (.lst vs))
theorem lays_fz : Lays fzT := fun _ _ _ _ _ _ _ _ k r q => Po.lst k r q
theorem lays_mu : Lays muT := fun _ _ _ _ _ _ _ _ k r q => Po.lstM k r q
/-- the list behind a tree that may be read as a tracked list -/
def asTr (μ : Mu) : T → Option (List T)
  | .lst ts => some ts
  | .mr i => match rdM μ i with
    | some (.lst ts) => some ts
    | _ => none
  | _ => none
theorem asTr_trk {K : KW} {H : Hp} {W : Wd} {μ : Mu} {t : T} {ts : List T} {v : V} (k : Ok K H W μ) (r : Rp K H W t v) (h : asTr μ t = some ts) : ∃ a vs, v = .ref a ∧ H a = some (.lst vs) ∧ RpL K H W ts vs := by
  cases t with
  | lst us =>
    cases h
    cases r with
    | lst h1 h2 => exact ⟨_, _, rfl, h1.2, h2⟩
  | mr i =>
    cases r with
    | @mr _ a h1 =>
      have h' : (match rdM μ i with
        | some (.lst ts) => some ts
        | _ => none) = some ts := h
      cases hm : rdM μ i with
      | none => rw [hm] at h'; cases h'
      | some o =>
        rw [hm] at h'
        cases o with
        | lst us =>
          cases h'
          obtain ⟨_, vs, q1, q2⟩ := k.rd h1 hm
          exact ⟨a, vs, rfl, q1, q2⟩
        | _ => cases h'
  | _ => cases h
/-- .. as any list -/
def asLst (μ : Mu) : T → Option (List T)
  | .lst ts => some ts
  | .kls ts => some ts
  | .mr i => match rdM μ i with
    | some (.lst ts) => some ts
    | _ => none
  | _ => none
theorem asLst_sq {K : KW} {H : Hp} {W : Wd} {μ : Mu} {t : T} {ts : List T} {v : V} (k : Ok K H W μ) (r : Rp K H W t v) (h : asLst μ t = some ts) : ∃ a vs, v = .ref a ∧ SqL K H a vs ∧ RpL K H W ts vs := by
  cases t with
  | lst us =>
    cases h
    cases r with
    | lst h1 h2 => exact ⟨_, _, rfl, h1.sq, h2⟩
  | kls us =>
    cases h
    cases r with
    | kls h1 h2 => exact ⟨_, _, rfl, h1.sq, h2⟩
  | mr i =>
    obtain ⟨a, vs, e1, e2, e3⟩ := asTr_trk (t := .mr i) k r h
    exact ⟨a, vs, e1, .inl (.inl e2), e3⟩
  | _ => cases h

/-! ### arithmetic -/
def gAdd (fin : List T → Mu → Out T) : G2 := fun x y μ => match x, y with
  | .int i, .int j => .ok (.int (i + j)) μ
  | .int i, .bl b => .ok (.int (i + b2i b)) μ
  | .str a, .str b => if Nat.ble (a.length + b.length) 100000 = true then .ok (.str (a ++ b)) μ else .bad
  | .tup a, .tup b => if few (a ++ b) = true then .ok (.tup (a ++ b)) μ else .bad
  | x, y => match asTr μ x, asTr μ y with
    | some a, some b => if few (a ++ b) = true then fin (a ++ b) μ else .bad
    | _, _ => .bad
section
variable {X : Cx} {E : XK} {K : KW} {E : XK} {H : Hp} {W : Wd}
theorem RpL.nil_iff {ts : List T} {vs : List V} (r : RpL K H W ts vs) : vs = [] ↔ ts = [] := by
  cases r <;> simp
theorem oAdd {fin : List T → Mu → Out T} (hf : Lays fin) : OpR X (binaryOp .Add) (rM (kwOf X) E (gAdd fin)) := by
  intro pins s σ H x y v u Q I rx ry ⟨W, μ, tx, ty, k, r1, r2, q⟩
  have lists : ∀ tx ty, Rp (kwOf X) H W tx x → Rp (kwOf X) H W ty y → PoE (kwOf X) E H W Q (match asTr μ tx, asTr μ ty with
    | some a, some b => if few (a ++ b) = true then fin (a ++ b) μ else .bad
    | _, _ => .bad) → wpAny (model X.prog X.w) X.A (binaryOp .Add v u) (EP X pins σ Q) X.xe s := fun tx ty r1 r2 q => by
    cases h1 : asTr μ tx with
    | none => rw [h1] at q; exact q.elim
    | some a =>
      cases h2 : asTr μ ty with
      | none => rw [h1, h2] at q; exact q.elim
      | some b =>
        rw [h1, h2] at q
        have q : PoE (kwOf X) E H W Q (if few (a ++ b) = true then fin (a ++ b) μ else .bad) := q
        split at q
        · rename_i hh
          obtain ⟨p1, v1, rfl, e1, l1⟩ := asTr_trk k r1 h1
          obtain ⟨p2, v2, rfl, e2, l2⟩ := asTr_trk k r2 h2
          have hl := few_le hh
          rw [List.length_append, l1.length, l2.length] at hl
          exact op_cat pins s σ H _ _ v u Q I rx ry ⟨p1, p2, v1, v2, rfl, rfl, e1, e2, hl, hf (kwOf X) E H W μ Q _ _ k (l1.append l2) q⟩
        · exact q.elim
  unfold gAdd at q
  split at q
  · cases r1; cases r2
    exact op_add pins s σ H _ _ v u Q I rx ry ⟨_, _, rfl, rfl, Po.go (R := Rp (kwOf X)) q Fr.refl k (.int _)⟩
  · cases r1; cases r2
    exact op_add_ib pins s σ H _ _ v u Q I rx ry ⟨_, _, rfl, rfl, Po.go (R := Rp (kwOf X)) q Fr.refl k (.int _)⟩
  · split at q
    · rename_i a b hh
      cases r1; cases r2
      have hl := Nat.le_of_ble_eq_true hh
      refine op_add_str pins s σ H _ _ v u Q I rx ry ⟨_, _, rfl, rfl, ?_, ?_⟩
      · show a.toArray.size + b.toArray.size ≤ sizeLine
        rw [List.size_toArray, List.size_toArray, sizeLine_eq]; omega
      · have e : (⟨a.toArray⟩ ++ ⟨b.toArray⟩ : Str) = ⟨(a ++ b).toArray⟩ := by
          show (⟨a.toArray ++ b.toArray⟩ : Str) = _
          simp
        rw [e]
        exact Po.go (R := Rp (kwOf X)) q Fr.refl k (.str _)
    · exact q.elim
  · split at q
    · rename_i a b hh
      cases r1 with
      | tup h1 l1 =>
        cases r2 with
        | tup h2 l2 =>
          have hl := few_le hh
          rw [List.length_append, l1.length, l2.length] at hl
          refine op_catA pins s σ H _ _ v u Q I rx ry ⟨_, _, _, _, rfl, rfl, h1, h2, hl, fun z => ?_, fun _ z => ?_, fun _ _ => ?_⟩
          · rw [l1.nil_iff] at z; subst z
            exact Po.go (R := Rp (kwOf X)) q Fr.refl k (.tup h2 l2)
          · rw [l2.nil_iff] at z; subst z
            rw [List.append_nil] at q
            exact Po.go (R := Rp (kwOf X)) q Fr.refl k (.tup h1 l1)
          · exact Po.tup k (l1.append l2) q
    · exact q.elim
  · exact lists _ _ r1 r2 q
def gI (c : Int → Int → Bool) (f : Int → Int → T) : G2 := fun x y μ => match x, y with
  | .int i, .int j => if c i j = true then .ok (f i j) μ else .bad
  | _, _ => .bad
def gI0 (f : Int → Int → T) : G2 := fun x y μ => match x, y with
  | .int i, .int j => .ok (f i j) μ
  | _, _ => .bad
theorem oI {f : Value → Value → Sem Value} {C : Int → Int → Prop} {g : Int → Int → V} {g' : Int → Int → T} {c : Int → Int → Bool} (h : OpR X f (rI C g)) (hc : ∀ i j, c i j = true → C i j) (hg : ∀ K H W i j, Rp K H W (g' i j) (g i j)) :
    OpR X f (rM (kwOf X) E (gI c g')) := by
  intro pins s σ H x y v u Q I rx ry ⟨W, μ, tx, ty, k, r1, r2, q⟩
  unfold gI at q
  split at q
  · split at q
    · rename_i hh
      cases r1; cases r2
      exact h pins s σ H _ _ v u Q I rx ry ⟨_, _, rfl, rfl, hc _ _ hh, Po.go (R := Rp (kwOf X)) q Fr.refl k (hg _ _ _ _ _)⟩
    · exact q.elim
  · exact q.elim
theorem oI0 {f : Value → Value → Sem Value} {g : Int → Int → V} {g' : Int → Int → T} (h : OpR X f (rI0 g)) (hg : ∀ K H W i j, Rp K H W (g' i j) (g i j)) :
    OpR X f (rM (kwOf X) E (gI0 g')) := by
  intro pins s σ H x y v u Q I rx ry ⟨W, μ, tx, ty, k, r1, r2, q⟩
  unfold gI0 at q
  split at q
  · cases r1; cases r2
    exact h pins s σ H _ _ v u Q I rx ry ⟨_, _, rfl, rfl, Po.go (R := Rp (kwOf X)) q Fr.refl k (hg _ _ _ _ _)⟩
  · exact q.elim
def small64 (i : Int) : Bool := Nat.blt i.natAbs 18446744073709551616
def mulOk (i j : Int) : Bool := small64 i || small64 j || Nat.ble (i.natAbs.log2 + j.natAbs.log2) 999999
theorem small64_ok {i : Int} (h : small64 i = true) : -(2 ^ 64) < i ∧ i < 2 ^ 64 := by
  have h3 : i.natAbs < 18446744073709551616 := Nat.le_of_ble_eq_true h
  omega
def divOk (_ j : Int) : Bool := decide (0 < j) && Nat.ble j.natAbs.log2 8999
def modOk (_ j : Int) : Bool := decide (0 < j)
def powOk (i j : Int) : Bool := decide (0 ≤ j) && decide (j ≤ 1000000) && Nat.blt i.natAbs 18446744073709551616
def gSub : G2 := gI0 fun i j => .int (i - j)
def gDiv : G2 := gI divOk fun i j => .int (i / j)
def gMod : G2 := gI modOk fun i j => .int (i % j)
def gPow : G2 := gI powOk fun i j => .int (i ^ j.toNat)
theorem oSub : OpR X (binaryOp .Sub) (rM (kwOf X) E gSub) := oI0 op_sub fun _ _ _ _ _ => .int _
theorem oDiv : OpR X (binaryOp .FloorDiv) (rM (kwOf X) E gDiv) := oI op_fdivW (fun i j h => by
  unfold divOk at h
  rw [Bool.and_eq_true, decide_eq_true_eq] at h
  exact ⟨h.1, Nat.lt_succ_of_le (Nat.le_of_ble_eq_true h.2)⟩) fun _ _ _ _ _ => .int _
theorem oMod : OpR X (binaryOp .Mod) (rM (kwOf X) E gMod) := oI op_mod (fun i j h => by
  unfold modOk at h
  rwa [decide_eq_true_eq] at h) fun _ _ _ _ _ => .int _
theorem oPow : OpR X (binaryOp .Pow) (rM (kwOf X) E gPow) := oI op_pow (fun i j h => by
  unfold powOk at h
  rw [Bool.and_eq_true, Bool.and_eq_true, decide_eq_true_eq, decide_eq_true_eq] at h
  have h3 : i.natAbs < 18446744073709551616 := Nat.le_of_ble_eq_true h.2
  exact ⟨h.1.1, h.1.2, h3⟩) fun _ _ _ _ _ => .int _
/-- int * int, list * int -/
def gMul (fin : List T → Mu → Out T) : G2 := fun x y μ => match x, y with
  | .int i, .int j => if mulOk i j = true then .ok (.int (i * j)) μ else .bad
  | x, .int k => match asTr μ x with
    | some a => if (Nat.ble (a.length * k.toNat) 1000000 && inR k) = true then fin (List.replicate k.toNat a).flatten μ else .bad
    | none => .bad
  | _, _ => .bad
theorem oMul {fin : List T → Mu → Out T} (hf : Lays fin) : OpR X (binaryOp .Mult) (rM (kwOf X) E (gMul fin)) := by
  intro pins s σ H x y v u Q I rx ry ⟨W, μ, tx, ty, k, r1, r2, q⟩
  unfold gMul at q
  split at q
  · split at q
    · rename_i hh
      cases r1; cases r2
      have fin := Po.go (R := Rp (kwOf X)) q Fr.refl k (.int _)
      unfold mulOk at hh
      rw [Bool.or_eq_true, Bool.or_eq_true] at hh
      rcases hh with (hh | hh) | hh
      · exact op_mul pins s σ H _ _ v u Q I rx ry ⟨_, _, rfl, rfl, .inl (small64_ok hh), fin⟩
      · exact op_mul pins s σ H _ _ v u Q I rx ry ⟨_, _, rfl, rfl, .inr (small64_ok hh), fin⟩
      · exact op_mulW pins s σ H _ _ v u Q I rx ry ⟨_, _, rfl, rfl, Nat.lt_succ_of_le (Nat.le_of_ble_eq_true hh), fin⟩
    · exact q.elim
  · rename_i z _
    split at q
    · rename_i a ha
      split at q
      · rename_i hh
        rw [Bool.and_eq_true] at hh
        cases r2
        obtain ⟨p1, v1, rfl, e1, l1⟩ := asTr_trk k r1 ha
        have hz := Nat.le_of_ble_eq_true hh.1
        obtain ⟨b1, b2⟩ := inR_ok hh.2
        refine op_rep pins s σ H _ _ v u Q I rx ry ⟨p1, _, v1, rfl, rfl, e1, by omega, by omega, ?_, hf (kwOf X) E H W μ Q _ _ k (l1.flatRep _) q⟩
        rw [← l1.length, sizeLine_eq]
        omega
      · exact q.elim
    · exact q.elim
  · exact q.elim
def gNeg : G1 := fun x μ => match x with
  | .int i => .ok (.int (-i)) μ
  | _ => .bad
theorem uNeg : UnR X (unaryOp .USub) (rMU (kwOf X) E gNeg) := by
  intro pins s σ H x v Q I rx ⟨W, μ, tx, k, r1, q⟩
  unfold gNeg at q
  split at q
  · cases r1
    exact un_neg pins s σ H _ v Q I rx ⟨_, rfl, Po.go (R := Rp (kwOf X)) q Fr.refl k (.int _)⟩
  · exact q.elim

/-! ### comparisons -/
def gLt : G2 := gI0 fun i j => .bl (decide (i < j))
def gLe : G2 := gI0 fun i j => .bl (decide (i ≤ j))
def gGt : G2 := gI0 fun i j => .bl (decide (j < i))
def gGe : G2 := gI0 fun i j => .bl (decide (j ≤ i))
theorem oLt : OpR X (compareOp .Lt) (rM (kwOf X) E gLt) := oI0 op_lt fun _ _ _ _ _ => .bl _
theorem oLe : OpR X (compareOp .LtE) (rM (kwOf X) E gLe) := oI0 op_le fun _ _ _ _ _ => .bl _
theorem oGt : OpR X (compareOp .Gt) (rM (kwOf X) E gGt) := oI0 op_gt fun _ _ _ _ _ => .bl _
theorem oGe : OpR X (compareOp .GtE) (rM (kwOf X) E gGe) := oI0 op_ge fun _ _ _ _ _ => .bl _
/-- the data that a tree is -/
def pyT (μ : Mu) : Nat → T → Option PyData
  | 0, _ => none
  | n + 1, t => match t with
    | .non => some .none
    | .bl b => some (.bool b)
    | .int i => some (.int i)
    | .str x => some (.str ⟨x.toArray⟩)
    | .tup ts => (mapO (pyT μ n) ts).map .tuple
    | .lst ts => (mapO (pyT μ n) ts).map .list
    | .kls ts => (mapO (pyT μ n) ts).map .list
    | .mr i => match rdM μ i with
      | some (.lst ts) => (mapO (pyT μ n) ts).map .list
      | _ => none
    | _ => none
theorem dpAll_mapO {f : T → Option PyData} (hf : ∀ t d v, f t = some d → Rp K H W t v → Dp K H v d) : ∀ {ts : List T} {ds : List PyData} {vs : List V}, mapO f ts = some ds → RpL K H W ts vs → DpAll K H vs ds
  | [], _, _, h, r => by cases h; cases r; exact .nil
  | t :: ts, ds, _, h, r => by
    unfold mapO at h
    split at h
    · rename_i d e1
      split at h
      · rename_i ds1 e2
        cases h
        cases r with
        | cons r1 r2 => exact .cons (hf _ _ _ e1 r1) (dpAll_mapO hf e2 r2)
      · cases h
    · cases h
theorem pyT_dp {μ : Mu} (k : Ok K H W μ) : ∀ (n : Nat) (t : T) (d : PyData) (v : V), pyT μ n t = some d → Rp K H W t v → Dp K H v d
  | 0, _, _, _, h, _ => by cases h
  | n + 1, t, d, v, h, r => by
    have lists : ∀ {ts : List T} {vs : List V} {a : Addr}, (mapO (pyT μ n) ts).map .list = some d → SqL K H a vs → RpL K H W ts vs → Dp K H (.ref a) d := fun {ts vs a} h hs l => by
      obtain ⟨ds, h1, h2⟩ := Option.map_eq_some_iff.mp h
      subst h2
      exact .lst hs (dpAll_mapO (fun t d v h r => pyT_dp k n t d v h r) h1 l)
    cases t with
    | non => cases h; cases r; exact .non
    | bl b => cases h; cases r; exact .bl b
    | int i => cases h; cases r; exact .int i
    | str x => cases h; cases r; exact .str _
    | tup ts =>
      cases r with
      | tup h1 l =>
        obtain ⟨ds, h2, h3⟩ := Option.map_eq_some_iff.mp (show (mapO (pyT μ n) ts).map .tuple = some d from h)
        subst h3
        exact .tup h1 (dpAll_mapO (fun t d v h r => pyT_dp k n t d v h r) h2 l)
    | lst ts =>
      cases r with
      | lst h1 l => exact lists h h1.sq l
    | kls ts =>
      cases r with
      | kls h1 l => exact lists h h1.sq l
    | mr i =>
      cases r with
      | @mr _ a h1 =>
        have h' : (match rdM μ i with
          | some (.lst ts) => (mapO (pyT μ n) ts).map .list
          | _ => none) = some d := h
        cases hm : rdM μ i with
        | none => rw [hm] at h'; cases h'
        | some o =>
          rw [hm] at h'
          cases o with
          | lst us =>
            obtain ⟨_, vs, q1, q2⟩ := k.rd h1 hm
            exact lists h' (.inl (.inl q1)) q2
          | _ => cases h'
    | ty n => cases h
    | ref a => cases h
    | dic ks ts => cases h
    | lam q ps b sc => cases h
    | cls c => cases h
    | obj c ns ts => cases h
    | err c ns ts => cases h
/-- x == y -/
def eqM (μ : Mu) (x y : T) : Option Bool := match pyT μ 60 x, pyT μ 60 y with
  | some d, some e => if (SeqAt.shaped d && SeqAt.shaped e) = true then some (PyData.eqv d e) else none
  | _, _ => none
def gEq : G2 := fun x y μ => match eqM μ x y with
  | some b => .ok (.bl b) μ
  | none => .bad
def gNe : G2 := fun x y μ => match eqM μ x y with
  | some b => .ok (.bl (!b)) μ
  | none => .bad
theorem eqM_dp {μ : Mu} {x y : T} {v u : V} {b : Bool} (k : Ok K H W μ) (r1 : Rp K H W x v) (r2 : Rp K H W y u) (h : eqM μ x y = some b) : ∃ d e, Dp K H v d ∧ Dp K H u e ∧ SeqAt.shaped d = true ∧ SeqAt.shaped e = true ∧ PyData.eqv d e = b := by
  unfold eqM at h
  split at h
  · rename_i d e h1 h2
    split at h
    · rename_i hh
      rw [Bool.and_eq_true] at hh
      cases h
      exact ⟨d, e, pyT_dp k _ _ _ _ h1 r1, pyT_dp k _ _ _ _ h2 r2, hh.1, hh.2, rfl⟩
    · cases h
  · cases h
theorem oEq (hu : X.A.units + 64 < cLine) : OpR X (compareOp .Eq) (rM (kwOf X) E gEq) := by
  intro pins s σ H x y v u Q I rx ry ⟨W, μ, tx, ty, k, r1, r2, q⟩
  unfold gEq at q
  split at q
  · rename_i b h
    obtain ⟨d, e, h1, h2, h3, h4, h5⟩ := eqM_dp k r1 r2 h
    exact op_eqD hu pins s σ H _ _ v u Q I rx ry ⟨d, e, h1, h2, h3, h4, by rw [h5]; exact Po.go (R := Rp (kwOf X)) q Fr.refl k (.bl _)⟩
  · exact q.elim
theorem oNe (hu : X.A.units + 64 < cLine) : OpR X (compareOp .NotEq) (rM (kwOf X) E gNe) := by
  intro pins s σ H x y v u Q I rx ry ⟨W, μ, tx, ty, k, r1, r2, q⟩
  unfold gNe at q
  split at q
  · rename_i b h
    obtain ⟨d, e, h1, h2, h3, h4, h5⟩ := eqM_dp k r1 r2 h
    exact op_neD hu pins s σ H _ _ v u Q I rx ry ⟨d, e, h1, h2, h3, h4, by rw [h5]; exact Po.go (R := Rp (kwOf X)) q Fr.refl k (.bl _)⟩
  · exact q.elim
/-- x is None, x is True .. -/
def isNon : T → Bool
  | .non => true
  | _ => false
def isO (x y : T) : Option Bool := match x, y with
  | x, .non => some (isNon x)
  | .bl a, .bl b => some (decide (a = b))
  | _, _ => none
def gIs : G2 := fun x y μ => match isO x y with
  | some b => .ok (.bl b) μ
  | none => .bad
def gIsNot : G2 := fun x y μ => match isO x y with
  | some b => .ok (.bl (!b)) μ
  | none => .bad
theorem isNon_v {t : T} {v : V} (r : Rp K H W t v) : decide (v = .non) = isNon t := by
  cases r <;> first | rfl | exact decide_eq_false fun z => nomatch z
theorem oIs : OpR X (compareOp .Is) (rM (kwOf X) E gIs) := by
  intro pins s σ H x y v u Q I rx ry ⟨W, μ, tx, ty, k, r1, r2, q⟩
  unfold gIs isO at q
  split at q
  · rename_i b h
    split at h
    · cases h
      cases r2
      exact op_isN pins s σ H _ _ v u Q I rx ry ⟨rfl, by rw [isNon_v r1]; exact Po.go (R := Rp (kwOf X)) q Fr.refl k (.bl _)⟩
    · cases h
      cases r1; cases r2
      exact op_isBl pins s σ H _ _ v u Q I rx ry ⟨_, _, rfl, rfl, Po.go (R := Rp (kwOf X)) q Fr.refl k (.bl _)⟩
    · cases h
  · exact q.elim
theorem oIsNot : OpR X (compareOp .IsNot) (rM (kwOf X) E gIsNot) := by
  intro pins s σ H x y v u Q I rx ry ⟨W, μ, tx, ty, k, r1, r2, q⟩
  unfold gIsNot isO at q
  split at q
  · rename_i b h
    split at h
    · cases h
      cases r2
      exact op_notN pins s σ H _ _ v u Q I rx ry ⟨rfl, by rw [isNon_v r1]; exact Po.go (R := Rp (kwOf X)) q Fr.refl k (.bl _)⟩
    · cases h
      cases r1; cases r2
      exact op_notBl pins s σ H _ _ v u Q I rx ry ⟨_, _, rfl, rfl, Po.go (R := Rp (kwOf X)) q Fr.refl k (.bl _)⟩
    · cases h
  · exact q.elim
end

theorem gI_kp {c : Int → Int → Bool} {f : Int → Int → T} : Kp2 (gI c f) := ⟨fun x y μ => by unfold gI; split <;> first | exact True.intro | (split <;> first | exact Lk.refl | exact True.intro)⟩
theorem gI0_kp {f : Int → Int → T} : Kp2 (gI0 f) := ⟨fun x y μ => by unfold gI0; split <;> first | exact Lk.refl | exact True.intro⟩
instance : Kp2 gSub := gI0_kp
instance : Kp2 gDiv := gI_kp
instance : Kp2 gMod := gI_kp
instance : Kp2 gPow := gI_kp
instance : Kp2 gLt := gI0_kp
instance : Kp2 gLe := gI0_kp
instance : Kp2 gGt := gI0_kp
instance : Kp2 gGe := gI0_kp
instance {fin : List T → Mu → Out T} [hf : KpL fin] : Kp2 (gAdd fin) := ⟨fun x y μ => by
  unfold gAdd
  split <;> first | exact Lk.refl | (split <;> first | exact Lk.refl | exact True.intro | (split <;> first | exact hf.kp _ _ | exact True.intro))⟩
instance {fin : List T → Mu → Out T} [hf : KpL fin] : Kp2 (gMul fin) := ⟨fun x y μ => by
  unfold gMul
  split <;> first | exact Lk.refl | exact True.intro | (split <;> first | exact Lk.refl | exact True.intro | exact hf.kp _ _ | (split <;> first | exact Lk.refl | exact hf.kp _ _ | exact True.intro))⟩
instance : KpL gNeg := ⟨fun x μ => by unfold gNeg; split <;> first | exact Lk.refl | exact True.intro⟩
instance : Kp2 gEq := ⟨fun x y μ => by unfold gEq; split <;> first | exact Lk.refl | exact True.intro⟩
instance : Kp2 gNe := ⟨fun x y μ => by unfold gNe; split <;> first | exact Lk.refl | exact True.intro⟩
instance : Kp2 gIs := ⟨fun x y μ => by unfold gIs; split <;> first | exact Lk.refl | exact True.intro⟩
instance : Kp2 gIsNot := ⟨fun x y μ => by unfold gIsNot; split <;> first | exact Lk.refl | exact True.intro⟩
end Mr

namespace Mr
open PySem PySem.Spec PyProof.Rows L2

/-! ### built-in functions by values -/
section
variable {X : Cx} {E : XK} {K : KW} {E : XK} {H : Hp} {W : Wd}
abbrev JC (X : Cx) (E : XK) (f : Value) (g : GL) : Prop := CallR X f (rML (kwOf X) E g)
theorem JC.of {X : Cx} {f : Value} {r : List V → Hp → VK → Prop} {g : GL} (h : CallR X f r) (hi : ∀ xs H Q W μ ts, Ok (kwOf X) H W μ → RpL (kwOf X) H W ts xs → PoE (kwOf X) E H W Q (g ts μ) → r xs H Q) : JC X E f g :=
  fun pins s σ H xs us Q I rs ⟨W, μ, ts, k, r, q⟩ => h pins s σ H xs us Q I rs (hi xs H Q W μ ts k r q)
section
variable {x : Str} {p pos : Pos} {e : Expr} {es : List Expr} {id Ty : String} {g : GL} {ma : MA}
theorem je_callB (hc : JC X E (.builtin id) g) (hg : Gl X x) (hm : X.mg x = none) (hv : bootBuiltins x = some (.builtin id)) (ha : JA X E (e :: es) ma) (hn : x ≠ "__name__" := by decide) (hdb : (x == ("__debug__" : Str)) = false := by decide)
    (he : starEach (e :: es) X.env = (false, eval e X.env) :: starEach es X.env := by rfl) (hpl : (backTo pos (starEach es X.env)).any (·.1) = false := by rfl) : JE X E (.Call (.Name x p) (e :: es) [] pos) (mCl g ma) :=
  PE_imp (pe_callB hc hg hm hv ha hn hdb he hpl) fun σ H Q ⟨W, ρ, μ, k, st, q⟩ => ⟨W, ρ, μ, k, st, Po.bind (R := RpL (kwOf X)) (R' := Rp (kwOf X)) q fun ts μ1 _ H1 W1 vs f1 k1 r1 q1 => ⟨W1, μ1, ts, k1, r1, q1⟩⟩
theorem je_callT (hc : JC X E (.type Ty) g) (hg : Gl X x) (hm : X.mg x = none) (hv : bootBuiltins x = some (.type Ty)) (ha : JA X E (e :: es) ma) (hn : x ≠ "__name__" := by decide) (hdb : (x == ("__debug__" : Str)) = false := by decide)
    (he : starEach (e :: es) X.env = (false, eval e X.env) :: starEach es X.env := by rfl) (hpl : (backTo pos (starEach es X.env)).any (·.1) = false := by rfl) : JE X E (.Call (.Name x p) (e :: es) [] pos) (mCl g ma) :=
  PE_imp (pe_callTy hc hg hm hv ha hn hdb he hpl) fun σ H Q ⟨W, ρ, μ, k, st, q⟩ => ⟨W, ρ, μ, k, st, Po.bind (R := RpL (kwOf X)) (R' := Rp (kwOf X)) q fun ts μ1 _ H1 W1 vs f1 k1 r1 q1 => ⟨W1, μ1, ts, k1, r1, q1⟩⟩
/-- a built-in type as a value -/
theorem je_ty {n : Nat} (hn0 : tyS n = Ty) (hg : Gl X x) (hm : X.mg x = none) (hv : bootBuiltins x = some (.type Ty)) (hn : x ≠ "__name__" := by decide) (hdb : (x == ("__debug__" : Str)) = false := by decide) : JE X E (.Name x p) (mC (.ty n)) := by
  subst hn0
  exact je_c (pe_bltn hg hm hv (show RelV (.ty (tyS n)) (.type (tyS n)) from rfl) hn hdb) fun _ _ => .ty _
end
/-! len, abs, int, bool -/
def gLen : GL := fun ts μ => match ts with
  | [.str x] => if Nat.ble x.length 100000 = true then .ok (.int x.length) μ else .bad
  | [t] => match asSeq μ t with
    | some us => .ok (.int us.length) μ
    | none => .bad
  | _ => .bad
theorem cLen : JC X E (.builtin "len") gLen := JC.of call_len fun xs H Q W μ ts k r q => by
  unfold gLen at q
  split at q
  · split at q
    · rename_i x hh
      cases r with
      | cons r rl =>
        cases rl; cases r
        exact ⟨_, x.length, rfl, ⟨by show x.toArray.size ≤ sizeLine; rw [List.size_toArray]; exact small_str (Nat.le_of_ble_eq_true hh), by show x.length = x.toArray.size; rw [List.size_toArray]⟩, Po.go (R := Rp (kwOf X)) q Fr.refl k (.int _)⟩
    · exact q.elim
  · split at q
    · rename_i us hs
      cases r with
      | cons r rl =>
        cases rl
        obtain ⟨a, vs, rfl, z, l⟩ := asSeq_sq k r hs
        refine ⟨_, vs.length, rfl, ?_, by rw [← l.length]; exact Po.go (R := Rp (kwOf X)) q Fr.refl k (.int _)⟩
        rcases z with z | z
        · exact .inl ⟨vs, z, rfl⟩
        · exact .inr ⟨vs, z, rfl⟩
    · exact q.elim
  · exact q.elim
def gAbs : GL := fun ts μ => match ts with
  | [.int i] => .ok (.int (if i < 0 then -i else i)) μ
  | _ => .bad
theorem cAbs : JC X E (.builtin "abs") gAbs := JC.of call_abs fun xs H Q W μ ts k r q => by
  unfold gAbs at q
  split at q
  · cases r with
    | cons r rl =>
      cases rl; cases r
      exact ⟨_, rfl, Po.go (R := Rp (kwOf X)) q Fr.refl k (.int _)⟩
  · exact q.elim
def gInt : GL := fun ts μ => match ts with
  | [.int i] => .ok (.int i) μ
  | [.bl b] => .ok (.int (if b then 1 else 0)) μ
  | _ => .bad
theorem cInt : JC X E (.type "int") gInt := JC.of call_int1 fun xs H Q W μ ts k r q => by
  unfold gInt at q
  split at q
  · cases r with
    | cons r rl =>
      cases rl; cases r
      exact .inl ⟨_, rfl, Po.go (R := Rp (kwOf X)) q Fr.refl k (.int _)⟩
  · cases r with
    | cons r rl =>
      cases rl; cases r
      exact .inr ⟨_, rfl, Po.go (R := Rp (kwOf X)) q Fr.refl k (.int _)⟩
  · exact q.elim
/-! min, max of two ints, of a list of ints -/
def asInts : List T → Option (List Int)
  | [] => some []
  | .int i :: ts => match asInts ts with
    | some is => some (i :: is)
    | none => none
  | _ => none
def asBls : List T → Option (List Bool)
  | [] => some []
  | .bl i :: ts => match asBls ts with
    | some is => some (i :: is)
    | none => none
  | _ => none
theorem asInts_rp : ∀ {ts : List T} {is : List Int} {vs : List V}, asInts ts = some is → RpL K H W ts vs → vs = is.map V.int
  | [], _, _, h, r => by cases h; cases r; rfl
  | t :: ts, is, _, h, r => by
    cases t with
    | int i =>
      unfold asInts at h
      split at h
      · rename_i js e
        cases h
        cases r with
        | cons r rl =>
          cases r
          rw [asInts_rp e rl] <;> rfl
      · cases h
    | _ => cases h
theorem asBls_rp : ∀ {ts : List T} {is : List Bool} {vs : List V}, asBls ts = some is → RpL K H W ts vs → vs = is.map V.bl
  | [], _, _, h, r => by cases h; cases r; rfl
  | t :: ts, is, _, h, r => by
    cases t with
    | bl i =>
      unfold asBls at h
      split at h
      · rename_i js e
        cases h
        cases r with
        | cons r rl =>
          cases r
          rw [asBls_rp e rl] <;> rfl
      · cases h
    | _ => cases h
def maxI (i j : Int) : Int := if j > i then j else i
def minI (i j : Int) : Int := if j < i then j else i
def gMax : GL := fun ts μ => match ts with
  | [.int i, .int j] => .ok (.int (maxI i j)) μ
  | [t] => match asLst μ t with
    | some us => match asInts us with
      | some (i :: is) => .ok (.int (is.foldl maxI i)) μ
      | _ => .bad
    | none => .bad
  | _ => .bad
def gMin : GL := fun ts μ => match ts with
  | [.int i, .int j] => .ok (.int (minI i j)) μ
  | [t] => match asLst μ t with
    | some us => match asInts us with
      | some (i :: is) => .ok (.int (is.foldl minI i)) μ
      | _ => .bad
    | none => .bad
  | _ => .bad
theorem foldl_maxI : ∀ (is : List Int) (i : Int), (∀ y, y ∈ i :: is → y ≤ is.foldl maxI i) ∧ is.foldl maxI i ∈ i :: is
  | [], i => ⟨fun y h => Int.le_of_eq (List.mem_singleton.mp h), List.mem_cons_self⟩
  | j :: is, i => by
    obtain ⟨h1, h2⟩ := foldl_maxI is (maxI i j)
    have hm : i ≤ maxI i j ∧ j ≤ maxI i j ∧ (maxI i j = i ∨ maxI i j = j) := by
      unfold maxI
      split <;> omega
    refine ⟨fun y hy => ?_, ?_⟩
    · have h0 := h1 (maxI i j) List.mem_cons_self
      rcases List.mem_cons.mp hy with rfl | hy
      · exact Int.le_trans hm.1 h0
      · rcases List.mem_cons.mp hy with rfl | hy
        · exact Int.le_trans hm.2.1 h0
        · exact h1 y (List.mem_cons_of_mem _ hy)
    · show is.foldl maxI (maxI i j) ∈ _
      rcases List.mem_cons.mp h2 with e | h2
      · rw [e]
        rcases hm.2.2 with e | e <;> rw [e] <;> simp
      · exact List.mem_cons_of_mem _ (List.mem_cons_of_mem _ h2)
theorem foldl_minI : ∀ (is : List Int) (i : Int), (∀ y, y ∈ i :: is → is.foldl minI i ≤ y) ∧ is.foldl minI i ∈ i :: is
  | [], i => ⟨fun y h => Int.le_of_eq (List.mem_singleton.mp h).symm, List.mem_cons_self⟩
  | j :: is, i => by
    obtain ⟨h1, h2⟩ := foldl_minI is (minI i j)
    have hm : minI i j ≤ i ∧ minI i j ≤ j ∧ (minI i j = i ∨ minI i j = j) := by
      unfold minI
      split <;> omega
    refine ⟨fun y hy => ?_, ?_⟩
    · have h0 := h1 (minI i j) List.mem_cons_self
      rcases List.mem_cons.mp hy with rfl | hy
      · exact Int.le_trans h0 hm.1
      · rcases List.mem_cons.mp hy with rfl | hy
        · exact Int.le_trans h0 hm.2.1
        · exact h1 y (List.mem_cons_of_mem _ hy)
    · show is.foldl minI (minI i j) ∈ _
      rcases List.mem_cons.mp h2 with e | h2
      · rw [e]
        rcases hm.2.2 with e | e <;> rw [e] <;> simp
      · exact List.mem_cons_of_mem _ (List.mem_cons_of_mem _ h2)
theorem cMax (hc : X.calm = true) : JC X E (.builtin "max") gMax := JC.of (CallR.or (call_max2 hc) (cr_max hc)) fun xs H Q W μ ts k r q => by
  unfold gMax at q
  split at q
  · cases r with
    | cons r rl =>
      cases rl with
      | cons r2 rl =>
        cases rl; cases r; cases r2
        exact .inl ⟨_, _, rfl, Po.go (R := Rp (kwOf X)) q Fr.refl k (.int _)⟩
  · split at q
    · rename_i us h1
      split at q
      · rename_i i is h2
        cases r with
        | cons r rl =>
          cases rl
          obtain ⟨a, vs, rfl, z, l⟩ := asLst_sq k r h1
          have e := asInts_rp h2 l
          subst e
          obtain ⟨m1, m2⟩ := foldl_maxI is i
          refine .inr ⟨a, _, rfl, z, by simp, fun m h3 h4 => ?_⟩
          have e : m = is.foldl maxI i := Int.le_antisymm (m1 m h3) (h4 _ m2)
          rw [e]
          exact Po.go (R := Rp (kwOf X)) q Fr.refl k (.int _)
      · exact q.elim
    · exact q.elim
  · exact q.elim
theorem cMin (hc : X.calm = true) : JC X E (.builtin "min") gMin := JC.of (CallR.or (call_min2 hc) (cr_min hc)) fun xs H Q W μ ts k r q => by
  unfold gMin at q
  split at q
  · cases r with
    | cons r rl =>
      cases rl with
      | cons r2 rl =>
        cases rl; cases r; cases r2
        exact .inl ⟨_, _, rfl, Po.go (R := Rp (kwOf X)) q Fr.refl k (.int _)⟩
  · split at q
    · rename_i us h1
      split at q
      · rename_i i is h2
        cases r with
        | cons r rl =>
          cases rl
          obtain ⟨a, vs, rfl, z, l⟩ := asLst_sq k r h1
          have e := asInts_rp h2 l
          subst e
          obtain ⟨m1, m2⟩ := foldl_minI is i
          refine .inr ⟨a, _, rfl, z, by simp, fun m h3 h4 => ?_⟩
          have e : m = is.foldl minI i := Int.le_antisymm (h4 _ m2) (m1 m h3)
          rw [e]
          exact Po.go (R := Rp (kwOf X)) q Fr.refl k (.int _)
      · exact q.elim
    · exact q.elim
  · exact q.elim
/-! all, any of a list of bools -/
def gAll : GL := fun ts μ => match ts with
  | [t] => match asLst μ t with
    | some us => match asBls us with
      | some bs => .ok (.bl (bs.all id)) μ
      | none => .bad
    | none => .bad
  | _ => .bad
def gAny : GL := fun ts μ => match ts with
  | [t] => match asLst μ t with
    | some us => match asBls us with
      | some bs => .ok (.bl (bs.any id)) μ
      | none => .bad
    | none => .bad
  | _ => .bad
theorem cAll (hc : X.calm = true) : JC X E (.builtin "all") gAll := JC.of (cr_all hc) fun xs H Q W μ ts k r q => by
  unfold gAll at q
  split at q
  · split at q
    · rename_i us h1
      split at q
      · rename_i bs h2
        cases r with
        | cons r rl =>
          cases rl
          obtain ⟨a, vs, rfl, z, l⟩ := asLst_sq k r h1
          have e := asBls_rp h2 l
          subst e
          exact ⟨a, _, rfl, z, Po.go (R := Rp (kwOf X)) q Fr.refl k (.bl _)⟩
      · exact q.elim
    · exact q.elim
  · exact q.elim
theorem cAny (hc : X.calm = true) : JC X E (.builtin "any") gAny := JC.of (cr_any hc) fun xs H Q W μ ts k r q => by
  unfold gAny at q
  split at q
  · split at q
    · rename_i us h1
      split at q
      · rename_i bs h2
        cases r with
        | cons r rl =>
          cases rl
          obtain ⟨a, vs, rfl, z, l⟩ := asLst_sq k r h1
          have e := asBls_rp h2 l
          subst e
          exact ⟨a, _, rfl, z, Po.go (R := Rp (kwOf X)) q Fr.refl k (.bl _)⟩
      · exact q.elim
    · exact q.elim
  · exact q.elim
/-! tuple(x), list(x) -/
def gTupOf : GL := fun ts μ => match ts with
  | [.tup us] => .ok (.tup us) μ
  | [t] => match asLst μ t with
    | some us => .ok (.tup us) μ
    | none => .bad
  | _ => .bad
theorem cTup : JC X E (.type "tuple") gTupOf := JC.of call_tuple_of fun xs H Q W μ ts k r q => by
  unfold gTupOf at q
  split at q
  · cases r with
    | cons r rl =>
      cases rl
      cases r with
      | tup h1 h2 => exact ⟨_, _, rfl, .inr ⟨h1, Po.go (R := Rp (kwOf X)) q Fr.refl k (.tup h1 h2)⟩⟩
  · split at q
    · rename_i us h1
      cases r with
      | cons r rl =>
        cases rl
        obtain ⟨a, vs, rfl, z, l⟩ := asLst_sq k r h1
        exact ⟨_, _, rfl, .inl ⟨z, Po.tup k l q⟩⟩
    · exact q.elim
  · exact q.elim
def gLstOf (fin : List T → Mu → Out T) : GL := fun ts μ => match ts with
  | [t] => match asSeq μ t with
    | some us => fin us μ
    | none => .bad
  | _ => .bad
theorem cLst {fin : List T → Mu → Out T} (hf : Lays fin) : JC X E (.type "list") (gLstOf fin) := JC.of call_list_of fun xs H Q W μ ts k r q => by
  unfold gLstOf at q
  split at q
  · split at q
    · rename_i us h1
      cases r with
      | cons r rl =>
        cases rl
        obtain ⟨a, vs, rfl, z, l⟩ := asSeq_sq k r h1
        exact ⟨_, _, rfl, z, hf (kwOf X) E H W μ Q _ _ k l q⟩
    · exact q.elim
  · exact q.elim
/-! isinstance -/
/-- what is known of the class c -/
structure ClF (K : PySem.W.Frag) (c : Nat) : Prop where
  cl : Cls K (He.ga K (nmS c))
  ha : PySem.W.findIn K (.ref (He.ga K (nmS c))) "__class__" = some (some (.builtin "object.__class__"))
  hn : PySem.W.specialIn K (.builtin "object.__class__") "__get__" = some (some (.builtin "getset_descriptor.__get__"))
  htk : PySem.W.takesIn K (.builtin "object.__class__") = some true
  hm : PySem.W.mroIn K (He.ga K (nmS c)) (.type "object") = some true
/-- the same of an own exception's class -/
abbrev ExF (K : PySem.W.Frag) (c : Nat) : Prop := ExcC K (He.ga K (nmS c))
/-- a value's type, wider still -/
inductive TyY (K : PySem.W.Frag) (H : Hp) : V → Value → Prop where
  | x {v : V} {t : Value} (h : TyX K H v t) : TyY K H v t
  | err {a d D : Addr} {fs : List (Str × V)} (c : ExcC K D) (h : H a = some (ErrO D d a)) (hd : H d = some (.xd fs)) : TyY K H (.ref a) (.ref D)
  | dN {w : World} {a : Addr} {xs : List KAV} (h : H a = some (DN w a xs)) : TyY K H (.ref a) (.type "dict")
  | fN {w : World} {a : Addr} {xs : List KAV} {o : Obj} (h : H a = some (.frz o (DN w a xs))) : TyY K H (.ref a) (.type "dict")
theorem kit_ofY {X : Cx} {pins : List (Addr × Obj)} {σ : L2.St} {H : Hp} {s : Shared} {x : V} {u t : Value} (I : Inv X pins σ H s) (rx : RelV x u) (ty : TyY X.K H x t) : ∃ P : Heap → Prop, PySem.W.KitX X.K u t P ∧ P s.heap ∧ u ≠ .builtin "__main__.__loader__#opaque" := by
  cases ty with
  | x h => exact kit_of I rx h
  | @err a d D fs c h hd =>
    have z : u = Value.ref a := rx
    subst z
    obtain ⟨⟨oe, vs, e1, ⟨z1, z2⟩, e2⟩, _⟩ := (show ObjOk X.prog X.w H s.heap a (.ext _) from I.hok a _ h)
    obtain ⟨mA, ⟨od, es, ep, e3, _⟩, _⟩ := (show ObjOk X.prog X.w H s.heap d (.xd fs) from I.hok d _ hd)
    have hcl : (PySem.W.clsIn X.K D).isSome = true := by
      obtain ⟨cd, hc, _⟩ := PySem.W.any_some c.hd
      rw [hc]
      rfl
    obtain ⟨oc, od', oda, osl⟩ := oe
    dsimp only at z1 z2 e2
    subst z1 z2 e2
    exact ⟨_, PySem.W.kitx_exc hcl c.hg c.hk c.hs c.ha c.hn c.ht c.hm, (show PySem.W.InstAt s.heap a _ D (some od) from ⟨e1, rfl, rfl, e3⟩), fun z => nomatch z⟩
  | @dN w a xs h =>
    have z : u = Value.ref a := rx
    subst z
    obtain ⟨⟨o, es, ep, us, e1, e2, _⟩, _⟩ := (show ObjOk X.prog X.w H s.heap a (.ext _) from I.hok a _ h)
    exact ⟨_, PySem.W.kitx_dict, ⟨o, e1, e2.1⟩, fun z => nomatch z⟩
  | @fN w a xs ob h =>
    have z : u = Value.ref a := rx
    subst z
    obtain ⟨_, ⟨o, es, ep, us, e1, e2, _⟩, _⟩ := (show ObjOk X.prog X.w H s.heap a (.frz ob (.ext _)) from I.hok a _ h)
    exact ⟨_, PySem.W.kitx_dict, ⟨o, e1, e2.1⟩, fun z => nomatch z⟩
/-- types by numbers: a built-in one below 16, else 16 and more -/
def tv (K : PySem.W.Frag) (k : Nat) : Value := if k < 16 then .type (tyS k) else .ref (He.ga K (nmS (k - 16)))
/-- cs: own classes, es: own exceptions' -/
structure IsC where
  cs : List Nat
  es : List Nat
def tyT (cs : IsC) : T → Option Nat
  | .non => some 0
  | .bl _ => some 1
  | .int _ => some 2
  | .str _ => some 3
  | .tup _ => some 5
  | .lst _ => some 4
  | .kls _ => some 4
  | .dic _ _ => some 6
  | .obj c _ _ => if cs.cs.elem c = true then some (16 + c) else none
  | .err c _ _ => if cs.es.elem c = true then some (16 + c) else none
  | _ => none
def tyM (cs : IsC) (μ : Mu) : T → Option Nat
  | .mr i => match rdM μ i with
    | some (.lst _) => some 4
    | some (.dic _ _) => some 6
    | some (.obj c _ _) => if cs.cs.elem c = true then some (16 + c) else none
    | _ => none
  | t => tyT cs t
structure IsCok (K : PySem.W.Frag) (cs : IsC) : Prop where
  c : ∀ c ∈ cs.cs, ClF K c
  e : ∀ c ∈ cs.es, ExF K c
theorem tv_cls {K : PySem.W.Frag} {c : Nat} : tv K (16 + c) = .ref (He.ga K (nmS c)) := by
  unfold tv
  rw [if_neg (by omega), show 16 + c - 16 = c by omega]
theorem ClF.ty {K : PySem.W.Frag} {H : Hp} {c : Nat} {a dx : Addr} {fs : List (Str × V)} (f : ClF K c) (h : H a = some (.ins (He.ga K (nmS c)) dx fs)) : TyY K H (.ref a) (tv K (16 + c)) := by
  rw [tv_cls]
  exact .x (.base (.ins h f.cl f.ha f.hn f.htk f.hm))
theorem at_ty {K : PySem.W.Frag} {H : Hp} {a : Addr} {b : Bool} {kvs : List (Key × V)} (h : At H a b (.dK kvs)) : TyY K H (.ref a) (.type "dict") := by
  rcases h with h | ⟨_, o, h⟩
  · exact .x (.base (.dK h))
  · exact .x (.fDict h)
theorem atN_ty {K : PySem.W.Frag} {H : Hp} {a : Addr} {b : Bool} {w : World} {xs : List KAV} (h : At H a b (DN w a xs)) : TyY K H (.ref a) (.type "dict") := by
  rcases h with h | ⟨_, o, h⟩
  · exact .dN h
  · exact .fN h
theorem tyT_x {cs : IsC} (hcs : IsCok K.K cs) {t : T} {n : Nat} {v : V} (h : tyT cs t = some n) (r : Rp K H W t v) : TyY K.K H v (tv K.K n) := by
  cases t with
  | non => cases h; cases r; exact .x (.base .non)
  | bl b => cases h; cases r; exact .x (.base (.bl _))
  | int b => cases h; cases r; exact .x (.base (.int _))
  | str b => cases h; cases r; exact .x (.base (.str _))
  | tup ts =>
    cases h
    cases r with
    | tup h1 h2 =>
      rcases h1 with (h1 | ⟨o, h1⟩) | ⟨o, its, n, h1, h2, _⟩
      · exact .x (.base (.tup h1))
      · exact .x (.fTuple h1)
      · exact .x (.kTuple h1 h2)
  | lst ts =>
    cases h
    cases r with
    | lst h1 h2 => exact .x (.base (.lst h1.2))
  | kls ts =>
    cases h
    cases r with
    | kls h1 h2 =>
      rcases h1 with ⟨o, h1⟩ | ⟨o, its, n, h1, h2, _⟩
      · exact .x (.base (.frz h1))
      · exact .x (.kList h1 h2)
  | dic ks ts =>
    cases h
    cases r with
    | dicK h0 h1 h2 h3 => exact .x (.fDict h1)
    | dicN h0 h1 h2 h3 => exact .fN h1
  | obj c ns ts =>
    have h : (if cs.cs.elem c = true then some (16 + c) else none) = some n := h
    split at h
    · rename_i hc
      cases h
      cases r with
      | obj h1 h2 h3 h4 => exact (hcs.c c (List.elem_iff.mp hc)).ty h2
    · cases h
  | err c ns ts =>
    have h : (if cs.es.elem c = true then some (16 + c) else none) = some n := h
    split at h
    · rename_i hc
      cases h
      cases r with
      | err h1 h2 h3 h4 h5 h6 =>
        rw [tv_cls]
        exact .err (hcs.e c (List.elem_iff.mp hc)) h2 h4
    · cases h
  | _ => cases h
theorem tyM_x {cs : IsC} (hcs : IsCok K.K cs) {μ : Mu} {t : T} {n : Nat} {v : V} (k : Ok K H W μ) (h : tyM cs μ t = some n) (r : Rp K H W t v) : TyY K.K H v (tv K.K n) := by
  cases t with
  | mr i =>
    have h' : (match rdM μ i with
      | some (.lst _) => some 4
      | some (.dic _ _) => some 6
      | some (.obj c _ _) => if cs.cs.elem c = true then some (16 + c) else none
      | _ => none) = some n := h
    cases r with
    | @mr _ a h1 =>
      cases hm : rdM μ i with
      | none => rw [hm] at h'; cases h'
      | some o =>
        rw [hm] at h'
        cases o with
        | lst ts =>
          cases h'
          obtain ⟨b, vs, e, _⟩ := k.rd h1 hm
          exact .x (.base (.lst e))
        | dic ks ts =>
          cases h'
          obtain ⟨b, e⟩ := k.rd h1 hm
          rcases e with ⟨_, _, _, e, _⟩ | ⟨_, _, e, _⟩
          · exact at_ty e
          · exact atN_ty e
        | obj c ns ts =>
          have h' : (if cs.cs.elem c = true then some (16 + c) else none) = some n := h'
          split at h'
          · rename_i hc
            cases h'
            obtain ⟨b, dx, vs, e, _⟩ := k.rd h1 hm
            exact (hcs.c c (List.elem_iff.mp hc)).ty e
          · cases h'
        | _ => cases h'
  | non => exact tyT_x hcs (t := .non) h r
  | bl b => exact tyT_x hcs (t := .bl b) h r
  | int b => exact tyT_x hcs (t := .int b) h r
  | str b => exact tyT_x hcs (t := .str b) h r
  | ty b => exact tyT_x hcs (t := .ty b) h r
  | ref b => exact tyT_x hcs (t := .ref b) h r
  | tup b => exact tyT_x hcs (t := .tup b) h r
  | lst b => exact tyT_x hcs (t := .lst b) h r
  | kls b => exact tyT_x hcs (t := .kls b) h r
  | dic a b => exact tyT_x hcs (t := .dic a b) h r
  | lam q ps b sc => cases h
  | cls c => cases h
  | obj c ns ts => exact tyT_x hcs (t := .obj c ns ts) h r
  | err c ns ts => exact tyT_x hcs (t := .err c ns ts) h r
def tyOfT : T → Option Nat
  | .ty n => if Nat.blt n 16 = true then some n else none
  | .cls c => some (16 + c)
  | _ => none
theorem tyOfT_ok {t : T} {n : Nat} {v : V} (h : tyOfT t = some n) (r : Rp K H W t v) : ClsV v (tv K.K n) := by
  cases t with
  | ty m =>
    have h : (if Nat.blt m 16 = true then some m else none) = some n := h
    split at h
    · rename_i hm
      cases h
      cases r
      have : tv K.K n = .type (tyS n) := if_pos (Nat.le_of_ble_eq_true hm)
      rw [this]
      exact .ty _
    · cases h
  | cls c =>
    cases h
    cases r
    rw [tv_cls]
    exact .own _
  | _ => cases h
/-- of built-in types -/
def isiB (a b : Nat) : Option Bool := if Nat.blt a 7 && Nat.blt b 7 && !(Nat.beq b 0) then some (Nat.beq a b || (Nat.beq a 1 && Nat.beq b 2)) else none
abbrev IsTb := List (Nat × Nat × Bool)
def isiL (a b : Nat) : IsTb → Option Bool
  | [] => none
  | (x, y, r) :: l => if (Nat.beq a x && Nat.beq b y) = true then some r else isiL a b l
def isiTab (tb : IsTb) (a b : Nat) : Option Bool := match isiB a b with
  | some r => some r
  | none => isiL a b tb
def IsOk (K : PySem.W.Frag) (tb : IsTb) : Prop := ∀ p ∈ tb, PySem.W.kitOne K (tv K p.1) (tv K p.2.1) = some p.2.2
theorem isiB_kit {K : PySem.W.Frag} {a b : Nat} {r : Bool} (h : isiB a b = some r) : PySem.W.kitOne K (tv K a) (tv K b) = some r := by
  unfold isiB at h
  split at h
  · rename_i hh
    rw [Bool.and_eq_true, Bool.and_eq_true] at hh
    have ha : a < 7 := Nat.le_of_ble_eq_true hh.1.1
    have hb : b < 7 := Nat.le_of_ble_eq_true hh.1.2
    have hb0 : b ≠ 0 := fun z => by
      have := hh.2
      rw [z] at this
      cases this
    have ta : tv K a = .type (tyS a) := if_pos (by omega)
    have tb : tv K b = .type (tyS b) := if_pos (by omega)
    rw [ta, tb]
    have cases7 : ∀ n, n < 7 → n = 0 ∨ n = 1 ∨ n = 2 ∨ n = 3 ∨ n = 4 ∨ n = 5 ∨ n = 6 := fun n h => by omega
    rcases cases7 a ha with rfl | rfl | rfl | rfl | rfl | rfl | rfl <;> rcases cases7 b hb with rfl | rfl | rfl | rfl | rfl | rfl | rfl <;>
      first | exact absurd rfl hb0 | (cases h; exact kit_ty (by decide +kernel))
  · cases h
theorem isiL_kit {K : PySem.W.Frag} {a b : Nat} {r : Bool} : ∀ {tb : IsTb}, IsOk K tb → isiL a b tb = some r → PySem.W.kitOne K (tv K a) (tv K b) = some r
  | [], _, h => by cases h
  | (x, y, s) :: l, ok, h => by
    unfold isiL at h
    split at h
    · rename_i e
      cases h
      rw [Bool.and_eq_true] at e
      rw [Nat.eq_of_beq_eq_true e.1, Nat.eq_of_beq_eq_true e.2]
      exact ok (x, y, _) List.mem_cons_self
    · exact isiL_kit (fun p hp => ok p (List.mem_cons_of_mem _ hp)) h
theorem isiTab_kit {K : PySem.W.Frag} {tb : IsTb} {a b : Nat} {r : Bool} (ok : IsOk K tb) (h : isiTab tb a b = some r) : PySem.W.kitOne K (tv K a) (tv K b) = some r := by
  unfold isiTab at h
  split at h
  · rename_i e
    cases h
    exact isiB_kit e
  · exact isiL_kit ok h
def isiAny (tb : IsTb) (a : Nat) : List Nat → Option Bool
  | [] => some false
  | b :: bs => match isiTab tb a b with
    | some true => some true
    | some false => isiAny tb a bs
    | none => none
theorem isiAny_kit {K : PySem.W.Frag} {tb : IsTb} {a : Nat} (ok : IsOk K tb) : ∀ {bs : List Nat} {r : Bool}, isiAny tb a bs = some r → PySem.W.kitAny K (tv K a) (bs.map (tv K)) = some r
  | [], r, h => by cases h; rfl
  | b :: bs, r, h => by
    unfold isiAny at h
    split at h
    · rename_i e
      cases h
      exact kitAny_cons (isiTab_kit ok e) (fun z => by cases z) fun _ => rfl
    · rename_i e
      exact kitAny_cons (isiTab_kit ok e) (fun _ => isiAny_kit ok h) fun z => by cases z
    · cases h
def asTys : List T → Option (List Nat)
  | [] => some []
  | t :: ts => match tyOfT t with
    | some n => match asTys ts with
      | some ns => some (n :: ns)
      | none => none
    | none => none
theorem asTys_rp : ∀ {ts : List T} {ns : List Nat} {vs : List V}, asTys ts = some ns → RpL K H W ts vs → Paired ClsV vs (ns.map (tv K.K))
  | [], _, _, h, r => by cases h; cases r; exact .nil
  | t :: ts, is, _, h, r => by
    unfold asTys at h
    split at h
    · rename_i n e1
      split at h
      · rename_i js e
        cases h
        cases r with
        | cons r rl => exact .cons (tyOfT_ok e1 r) (asTys_rp e rl)
      · cases h
    · cases h
def gIsi (cs : IsC) (tb : IsTb) : GL := fun ts μ => match ts with
  | [t, c] => match tyM cs μ t with
    | some a => match c with
      | .tup us => match asTys us with
        | some ns => match isiAny tb a ns with
          | some b => .ok (.bl b) μ
          | none => .bad
        | none => .bad
      | c => match tyOfT c with
        | some n => match isiTab tb a n with
          | some b => .ok (.bl b) μ
          | none => .bad
        | none => .bad
    | none => .bad
  | _ => .bad
/-- isinstance(x, A) -/
theorem call_isiY : CallR X (.builtin "isinstance") (fun xs H Q => ∃ (x c : V) (t u : Value) (b : Bool), xs = [x, c] ∧ ClsV c u ∧ TyY X.K H x t ∧ PySem.W.kitOne X.K t u = some b ∧ Q (.bl b) H) := by
  intro pins s σ H xs us Q I r h
  obtain ⟨x, c, t, u, b, rfl, k, ty, e, q⟩ := h
  obtain ⟨u1, u2, rfl, r1, r2⟩ := vals2 r
  have e2 := k.eq r2
  subst e2
  obtain ⟨P, Z, p, hx⟩ := kit_ofY I r1 ty
  exact PySem.W.kia_one Z I.kIn p e hx fun tk => ⟨.bl b, H, I.tok tk, rfl, q⟩
/-- isinstance(x, (A, B)), the tuple of any kind -/
theorem call_isiTS : CallR X (.builtin "isinstance") (fun xs H Q => ∃ (x : V) (tp : Addr) (cs : List V) (us : List Value) (t : Value) (b : Bool), xs = [x, .ref tp] ∧ SqT X.K H tp cs ∧ Paired ClsV cs us ∧ TyY X.K H x t ∧ PySem.W.kitAny X.K t us = some b ∧ Q (.bl b) H) := by
  intro pins s σ H xs us Q I r h
  obtain ⟨x, tp, cs, ws, t, b, rfl, hT, hc, ty, e, q⟩ := h
  obtain ⟨u1, u2, rfl, r1, r2⟩ := vals2 r
  have z : u2 = Value.ref tp := r2
  subst z
  obtain ⟨P, Z, p, hx⟩ := kit_ofY I r1 ty
  obtain ⟨its, rv, ⟨⟨oc, od, dt, sl⟩, h1, h2, n, h3⟩, _⟩ := I.tuple hT
  have e3 := ClsV.all hc rv
  subst e3
  simp only at h2 h3
  subst h2 h3
  exact PySem.W.kia_tup Z I.kIn p h1 e hx fun tk => ⟨.bl b, H, I.tok tk, rfl, q⟩
theorem cIsi {cs : IsC} {tb : IsTb} (hcs : IsCok X.K cs) (ok : IsOk X.K tb) : JC X E (.builtin "isinstance") (gIsi cs tb) := JC.of (CallR.or call_isiY call_isiTS) fun xs H Q W μ ts k r q => by
  unfold gIsi at q
  split at q
  · split at q
    · rename_i a h1
      cases r with
      | cons r rl =>
        cases rl with
        | cons r2 rl =>
          cases rl
          split at q
          · split at q
            · rename_i ns h2
              split at q
              · rename_i b h3
                cases r2 with
                | tup h4 h5 => exact .inr ⟨_, _, _, _, _, b, rfl, h4, asTys_rp h2 h5, tyM_x (K := kwOf X) hcs k h1 r, isiAny_kit ok h3, Po.go (R := Rp (kwOf X)) q Fr.refl k (.bl _)⟩
              · exact q.elim
            · exact q.elim
          · split at q
            · rename_i n h2
              split at q
              · rename_i b h3
                exact .inl ⟨_, _, _, _, b, rfl, tyOfT_ok (K := kwOf X) h2 r2, tyM_x (K := kwOf X) hcs k h1 r, isiTab_kit ok h3, Po.go (R := Rp (kwOf X)) q Fr.refl k (.bl _)⟩
              · exact q.elim
            · exact q.elim
    · exact q.elim
  · exact q.elim
end

/-! ### subscripts, slices -/
section
variable {X : Cx} {E : XK} {K : KW} {E : XK} {H : Hp} {W : Wd} {a b : Expr} {ma mb : ME} {pos p2 : Pos}
def gIx : G2 := fun x y μ => match x, y with
  | .str cs, .int i => if Nat.ble cs.length 100000 = true then match atI cs i with
      | some c => .ok (.str [c]) μ
      | none => .bad
    else .bad
  | t, .int i => match asSeq μ t with
    | some ts => match atI ts i with
      | some u => .ok u μ
      | none => .bad
    | none => .bad
  | _, _ => .bad
theorem RpL.atI {ts : List T} {vs : List V} {i : Int} {u : T} (r : RpL K H W ts vs) (h : L2.atI ts i = some u) : ∃ v, L2.atI vs i = some v ∧ Rp K H W u v := by
  unfold L2.atI at h ⊢
  rw [r.length] at h
  cases e : ixN vs.length i with
  | none => rw [e] at h; cases h
  | some j =>
    rw [e] at h
    exact r.get h
theorem xIx : IxR X (rM (kwOf X) E gIx) := by
  intro value slice pins s σ H x y v u Q I rx ry ⟨W, μ, tx, ty, k, r1, r2, q⟩ hs
  refine ix_seq value slice pins s σ H x y v u Q I rx ry ?_ hs
  unfold gIx at q
  split at q
  · split at q
    · rename_i cs i hh
      split at q
      · rename_i c hc
        cases r1; cases r2
        exact .inr (.inr ⟨_, _, c, rfl, rfl, by show cs.toArray.size ≤ sizeLine; rw [List.size_toArray]; exact small_str (Nat.le_of_ble_eq_true hh), hc, Po.go (R := Rp (kwOf X)) q Fr.refl k (.str [c])⟩)
      · exact q.elim
    · exact q.elim
  · split at q
    · rename_i ts h1
      split at q
      · rename_i u2 h2
        cases r2
        obtain ⟨p, vs, rfl, z, l⟩ := asSeq_sq k r1 h1
        obtain ⟨w, e1, e2⟩ := l.atI h2
        have fin := Po.go (R := Rp (kwOf X)) q Fr.refl k e2
        rcases z with z | z
        · exact .inl ⟨_, _, _, _, rfl, rfl, z, e1, fin⟩
        · exact .inr (.inl ⟨_, _, _, _, rfl, rfl, z, e1, fin⟩)
      · exact q.elim
    · exact q.elim
  · exact q.elim
theorem je_ix (ha : JE X E a ma) (hb : JE X E b mb) (hs : PlainIx b := by intro _ _; rfl) : JE X E (.Subscript a b pos) (mOp gIx ma mb) := PE_imp (pe_ix xIx ha hb hs) (tOp_M fun _ _ _ _ h => h)
/-- the bounds of a slice -/
abbrev MO' := Rho → Mu → Out (Option Int)
def tMO (K : KW) (E : XK) (m : MO') : TO := fun σ H Q => ∃ W ρ μ, Ok K H W μ ∧ RpSt K H W σ ρ ∧ Po (α := Option Int) (β := Option Int) K E (fun _ _ a b => b = a) H W Q (m ρ μ)
abbrev JO (X : Cx) (E : XK) (e : Option Expr) (m : MO') : Prop := PO X e (tMO (kwOf X) E m)
theorem PO_imp {X : Cx} {e : Option Expr} {t t' : TO} (h : PO X e t) (hi : ∀ σ H Q, t' σ H Q → t σ H Q) : PO X e t' := ⟨fun pins s σ H Q I q => h.run pins s σ H Q I (hi σ H Q q)⟩
def mPN : MO' := fun _ μ => .ok none μ
def mPS (m : ME) : MO' := fun ρ μ => (m ρ μ).bind fun t μ1 => match t with
  | .int i => .ok (some i) μ1
  | _ => .bad
theorem jo_none : JO X E none mPN := PO_imp po_none fun σ H Q ⟨W, ρ, μ, k, st, q⟩ => Po.go (R := fun _ _ a b => b = a) q Fr.refl k rfl
theorem jo_some (h : JE X E a ma) : JO X E (some a) (mPS ma) := PO_imp (po_some h) fun σ H Q ⟨W, ρ, μ, k, st, q⟩ => ⟨W, ρ, μ, k, st, Po.bind (R := Rp (kwOf X)) (R' := fun _ _ a b => b = a) q fun t μ1 _ H1 W1 v f1 k1 r1 q1 => by
  split at q1
  · cases r1
    exact ⟨_, rfl, Po.go (R := fun _ _ a b => b = a) q1 Fr.refl k1 rfl⟩
  · exact q1.elim⟩
def cutT {α : Type} (xs : List α) (lo hi : Option Int) : List α := (xs.drop (HT.sIx xs.length 0 lo)).take (HT.sIx xs.length xs.length hi - HT.sIx xs.length 0 lo)
theorem RpL.cut {ts : List T} {vs : List V} (r : RpL K H W ts vs) (lo hi : Option Int) : RpL K H W (cutT ts lo hi) (cutV vs lo hi) := by
  unfold cutT cutV
  rw [r.length]
  exact (r.drop _).take _
def gSl (fin : List T → Mu → Out T) (x : T) (lo hi : Option Int) (μ : Mu) : Out T := match x with
  | .str cs => if Nat.ble cs.length 100000 = true then .ok (.str (cutT cs lo hi)) μ else .bad
  | .tup ts => .ok (.tup (cutT ts lo hi)) μ
  | t => match asLst μ t with
    | some ts => fin (cutT ts lo hi) μ
    | none => .bad
def mSl (fin : List T → Mu → Out T) (ma : ME) (ml mh : MO') : ME := fun ρ μ => (ma ρ μ).bind fun x μ1 => (ml ρ μ1).bind fun lo μ2 => (mh ρ μ2).bind fun hi μ3 => gSl fin x lo hi μ3
theorem cut_whole {α : Type} {xs : List α} {lo hi : Option Int} (h : HT.sIx xs.length 0 lo = 0 ∧ HT.sIx xs.length xs.length hi = xs.length) : cutT xs lo hi = xs := by
  unfold cutT
  rw [h.1, h.2]
  simp
theorem je_slice {fin : List T → Mu → Out T} {lo hi : Option Expr} {ml mh : MO'} (hf : Lays fin) (ha : JE X E a ma) (hl : JO X E lo ml) (hh : JO X E hi mh) : JE X E (.Subscript a (.Slice lo hi none p2) pos) (mSl fin ma ml mh) :=
  PE_imp (pe_slice (SlR.or sl_list (SlR.or sl_tupA sl_str)) ha hl hh) fun σ H Q ⟨W, ρ, μ, k, st, q⟩ => ⟨W, ρ, μ, k, st, Po.bind (R := Rp (kwOf X)) q fun x μ1 e0 H1 W1 v f1 k1 r1 q1 =>
    ⟨W1, ρ, μ1, k1, st.fr f1, Po.bind (R := fun _ _ a b => b = a) (R' := Rp (kwOf X)) q1 fun l μ2 _ H2 W2 l' f2 k2 e2 q2 => ⟨W2, ρ, μ2, k2, (st.fr f1).fr f2, Po.bind (R := fun _ _ a b => b = a) (R' := Rp (kwOf X)) q2 fun u μ3 _ H3 W3 u' f3 k3 e3 q3 => by
      subst e2 e3
      clear e0
      have r3 := (r1.fr f2).fr f3
      unfold gSl at q3
      split at q3
      · split at q3
        · rename_i cs hz
          cases r3
          refine .inr (.inr ⟨_, rfl, by show cs.toArray.size ≤ sizeLine; rw [List.size_toArray]; exact small_str (Nat.le_of_ble_eq_true hz), ?_⟩)
          have e : cutS ⟨cs.toArray⟩ l' u' = ⟨(cutT cs l' u').toArray⟩ := by
            unfold cutS cutT
            show (⟨_⟩ : Str) = _
            simp [Str.length]
          rw [e]
          exact Po.go (R := Rp (kwOf X)) q3 Fr.refl k3 (.str _)
        · exact q3.elim
      · rename_i ts
        cases r3 with
        | @tup _ a vs h1 h2 =>
          refine .inr (.inl ⟨a, vs, rfl, h1, fun z => ?_, fun _ => Po.tup k3 (h2.cut _ _) q3⟩)
          have z' : HT.sIx ts.length 0 l' = 0 ∧ HT.sIx ts.length ts.length u' = ts.length := by rw [h2.length]; exact z
          rw [cut_whole z'] at q3
          exact Po.go (R := Rp (kwOf X)) q3 Fr.refl k3 (.tup h1 h2)
      · split at q3
        · rename_i us h1
          obtain ⟨p, vs, rfl, z, l⟩ := asLst_sq k3 r3 h1
          exact .inl ⟨_, _, rfl, z, hf (kwOf X) E H3 W3 μ3 Q _ _ k3 (l.cut _ _) q3⟩
        · exact q3.elim⟩⟩⟩
/-- x[::-1] -/
def gRev (fin : List T → Mu → Out T) : G1 := fun x μ => match asLst μ x with
  | some ts => fin ts.reverse μ
  | none => .bad
theorem je_rev {fin : List T → Mu → Out T} {kk : Nat} {p1 p3 : Pos} (hf : Lays fin) (ha : JE X E a ma) : JE X E (.Subscript a (.Slice none none (some (.UnaryOp .USub (.Constant (.int 1) kk p1) p2)) p3) pos) (mUn (gRev fin) ma) :=
  PE_imp (pe_revL ha) fun σ H Q ⟨W, ρ, μ, k, st, q⟩ => ⟨W, ρ, μ, k, st, Po.bind (R := Rp (kwOf X)) q fun x μ1 _ H1 W1 v f1 k1 r1 q1 => by
    unfold gRev at q1
    split at q1
    · rename_i us h1
      obtain ⟨p, vs, rfl, z, l⟩ := asLst_sq k1 r1 h1
      exact ⟨_, _, rfl, z, hf (kwOf X) E H1 W1 μ1 Q _ _ k1 l.reverse q1⟩
    · exact q1.elim⟩
end

/-! ### methods of lists in the store, stores -/
section
variable {X : Cx} {E : XK} {o e i : Expr} {es : List Expr} {mo me mi : ME} {ma : MA} {apos cpos pos : Pos}
def isStL (μ : Mu) (t : T) : Bool := match t with
  | .mr i => match rdM μ i with
    | some (.lst _) => true
    | _ => false
  | _ => false
/-- xs.m(..): g the answer from the receiver's number, its items, the arguments -/
def mLm (g : Nat → List T → List T → Mu → Out T) (mo : ME) (ma : MA) : ME := fun ρ μ => (mo ρ μ).bind fun x μ1 => if isStL μ1 x = true then (ma ρ μ1).bind fun as μ2 => match x with
    | .mr i => match μ2[i]? with
      | some (.lst ts) => g i ts as μ2
      | _ => .bad
    | _ => .bad
  else .bad
theorem isStL_ty {K : KW} {H : Hp} {W : Wd} {μ : Mu} {t : T} {v : V} (k : Ok K H W μ) (r : Rp K H W t v) (h : isStL μ t = true) : tyV K "list" v H := by
  cases t with
  | mr i =>
    have h' : (match rdM μ i with
      | some (.lst _) => true
      | _ => false) = true := h
    cases hm : rdM μ i with
    | none => rw [hm] at h'; cases h'
    | some o =>
      rw [hm] at h'
      cases o with
      | lst ts =>
        obtain ⟨a, vs, rfl, e, _⟩ := asTr_trk (t := .mr i) (ts := ts) k r (by show (match rdM μ i with | some (.lst ts) => some ts | _ => none) = some ts; rw [hm])
        exact .inl ⟨rfl, vs, .inl (.inl e)⟩
      | _ => cases h'
  | _ => cases h
/-- what the rule of the method asks -/
def LmR (K : KW) (E : XK) (g : Nat → List T → List T → Mu → Out T) (r : V → List V → Hp → VK → Prop) : Prop :=
  ∀ (H : Hp) (W : Wd) (μ : Mu) (i : Nat) (a : Addr) (ts as : List T) (vs us : List V) (Q : VK), Ok K H W μ → W.e[i]? = some a → μ[i]? = some (.lst ts) → H a = some (.lst vs) → RpL K H W ts vs → RpL K H W as us → PoE K E H W Q (g i ts as μ) → r (.ref a) us H Q
theorem tLm_M {g : Nat → List T → List T → Mu → Out T} {r : V → List V → Hp → VK → Prop} (hr : LmR (kwOf X) E g r) : ∀ σ H Q, tM (kwOf X) E (mLm g mo ma) σ H Q → tBM X.K "list" r (tM (kwOf X) E mo) (tMA (kwOf X) E ma) σ H Q :=
  fun σ H Q ⟨W, ρ, μ, k, st, q⟩ => ⟨W, ρ, μ, k, st, Po.bind (R := Rp (kwOf X)) q fun x μ1 e0 H1 W1 v f1 k1 r1 q1 => by
    clear e0
    split at q1
    · rename_i hs
      refine ⟨isStL_ty k1 r1 hs, W1, ρ, μ1, k1, st.fr f1, Po.bind (R := RpL (kwOf X)) (R' := Rp (kwOf X)) q1 fun as μ2 _ H2 W2 us f2 k2 r2 q2 => ?_⟩
      split at q2
      · rename_i j
        split at q2
        · rename_i ts hm
          cases r1 with
          | mr h1 =>
            have h2 := f2.et _ _ h1
            obtain ⟨vs, e1, e2⟩ := k2.ob _ _ _ h2 hm
            exact hr H2 W2 μ2 j _ ts as vs us Q k2 h2 hm e1 e2 r2 q2
        · exact q2.elim
      · exact q2.elim
    · exact q1.elim⟩
theorem Po.write {K : KW} {E : XK} {H : Hp} {W : Wd} {μ : Mu} {i : Nat} {a : Addr} {ts us : List T} {vs ws : List V} {Q : VK} {t : T} {v : V} (k : Ok K H W μ) (h : W.e[i]? = some a) (hm : H a = some (.lst vs)) (r : RpL K H W us ws) (rt : Rp K H W t v) (q : PoE K E H W Q (.ok t (μ.set i (.lst us)))) : Q v (upd H a (.lst ws)) := by
  have f0 : Rf H W (upd H a (.lst ws)) W := (k.write (x := .dead) h (by rw [hm]; exact Wr.lst) (show NT (upd H a (.lst ws) a) by rw [upd_same]; exact NT.lst)).1.toRf
  obtain ⟨f, k'⟩ := k.write (x := .lst us) h (by rw [hm]; exact Wr.lst) ⟨ws, upd_same, r.rf f0⟩
  exact Po.go (R := Rp K) q f k' (rt.fr f)
def gApp (i : Nat) (ts as : List T) (μ : Mu) : Out T := match as with
  | [y] => if few (y :: ts) = true then .ok .non (μ.set i (.lst (ts ++ [y]))) else .bad
  | _ => .bad
theorem lm_append {K : KW} {E : XK} : LmR K E gApp rAppend := fun H W μ i a ts as vs us Q k hi hm hv r r2 q => by
  unfold gApp at q
  split at q
  · split at q
    · rename_i y hf
      cases r2 with
      | cons r2 rl =>
        cases rl
        have hl := few_le hf
        rw [List.length_cons, r.length] at hl
        exact ⟨a, vs, _, rfl, rfl, hv, hl, Po.write (ts := ts) k hi hv (r.append (.cons r2 .nil)) .non q⟩
    · exact q.elim
  · exact q.elim
def gExt (i : Nat) (ts as : List T) (μ : Mu) : Out T := match as with
  | [y] => match asTr μ y with
    | some us => if few (ts ++ us) = true then .ok .non (μ.set i (.lst (ts ++ us))) else .bad
    | none => .bad
  | _ => .bad
theorem lm_extend {K : KW} {E : XK} : LmR K E gExt rExtend := fun H W μ i a ts as vs us Q k hi hm hv r r2 q => by
  unfold gExt at q
  split at q
  · split at q
    · rename_i y zs hz
      split at q
      · rename_i hf
        cases r2 with
        | cons r2 rl =>
          cases rl
          obtain ⟨b, ws, rfl, e1, e2⟩ := asTr_trk k r2 hz
          have hl := few_le hf
          rw [List.length_append, r.length, e2.length] at hl
          exact ⟨a, b, vs, ws, rfl, rfl, hv, e1, hl, Po.write (ts := ts) k hi hv (r.append e2) .non q⟩
      · exact q.elim
    · exact q.elim
  · exact q.elim
theorem je_append (ho : JE X E o mo) (ha : JA X E [e] ma) (hbase : attributeBase o "append" X.env (eval o X.env) = eval o X.env := by rfl)
    (hfew : ((backTo cpos (starEach [e] X.env)).all (fun x => !x.1) && (backToKw cpos (keywordEach [] X.env)).all (fun x => x.1.isSome) && decide ([e].length + ([] : List Keyword).length + (if ([] : List Keyword).isEmpty then 0 else 1) < 30)) = true := by rfl)
    (hline : (apos.endLine == cpos.line) = true := by rfl) (hs : starEach [e] X.env = (false, eval e X.env) :: starEach [] X.env := by rfl) (hplain : (backTo cpos (starEach [] X.env)).any (·.1) = false := by rfl) :
    JE X E (.Call (.Attribute o "append" apos) [e] [] cpos) (mLm gApp mo ma) := PE_imp (pe_bm PySem.F.plainAttrs_list PySem.F.slot_list_append rfl mt_append ho ha hbase hfew hline hs hplain) (tLm_M lm_append)
theorem je_extend (ho : JE X E o mo) (ha : JA X E [e] ma) (hbase : attributeBase o "extend" X.env (eval o X.env) = eval o X.env := by rfl)
    (hfew : ((backTo cpos (starEach [e] X.env)).all (fun x => !x.1) && (backToKw cpos (keywordEach [] X.env)).all (fun x => x.1.isSome) && decide ([e].length + ([] : List Keyword).length + (if ([] : List Keyword).isEmpty then 0 else 1) < 30)) = true := by rfl)
    (hline : (apos.endLine == cpos.line) = true := by rfl) (hs : starEach [e] X.env = (false, eval e X.env) :: starEach [] X.env := by rfl) (hplain : (backTo cpos (starEach [] X.env)).any (·.1) = false := by rfl) :
    JE X E (.Call (.Attribute o "extend" apos) [e] [] cpos) (mLm gExt mo ma) := PE_imp (pe_bm PySem.F.plainAttrs_list PySem.F.slot_list_extend rfl mt_extend ho ha hbase hfew hline hs hplain) (tLm_M lm_extend)
/-- xs[i] = v -/
def gSt (mo mi : ME) : MG := fun v ρ μ => (mo ρ μ).bind fun x μ1 => (mi ρ μ1).bind fun y μ2 => match x, y with
  | .mr j, .int n => match μ2[j]? with
    | some (.lst ts) => match ixN ts.length n with
      | some l => .ok ρ (μ2.set j (.lst (ts.set l v)))
      | none => .bad
    | _ => .bad
  | _, _ => .bad
theorem jg_sub {vs : List Nat} (ho : JE X E o mo) (hi : JE X E i mi) (ha : ∀ v, assign (.Subscript o i pos) X.env v = (do
      let ov ← holding [v] (eval o X.env)
      let iv ← holding [v, ov] (eval i X.env)
      standAt pos
      holding [v, ov, iv] (setItem ov iv v)
      release [v, ov, iv] []) := by intro _; rfl) : JG X E vs (.Subscript o i pos) (gSt mo mi) := PG_imp (pg_sub ho hi set_list ha) fun v σ H Q ⟨W, ρ, μ, t, k, st, r, q⟩ => by
  refine ⟨W, ρ, μ, k, st, ?_⟩
  unfold gSt at q
  cases h1 : mo ρ μ with
  | bad => rw [h1] at q; exact q.elim
  | exc x m => rw [h1] at q; exact q
  | ok x μ1 =>
    rw [h1] at q
    intro H1 W1 vx f1 k1 r1
    refine ⟨W1, ρ, μ1, k1, st.fr f1, ?_⟩
    simp only [Out.bind_ok] at q
    cases h2 : mi ρ μ1 with
    | bad => rw [h2] at q; exact q.elim
    | exc x m => rw [h2] at q; exact fun H' W' c d f k r => q H' W' c d (f1.trans f) k r
    | ok y μ2 =>
      rw [h2] at q
      intro H2 W2 vy f2 k2 r2
      simp only [Out.bind_ok] at q
      split at q
      · rename_i j n
        split at q
        · rename_i ts hm
          split at q
          · rename_i l hl
            cases r2
            cases r1 with
            | mr e1 =>
              have e2 := f2.et _ _ e1
              obtain ⟨ws, e3, e4⟩ := k2.ob _ _ _ e2 hm
              have rt := (r.fr f1).fr f2
              have e5 := e4.set rt l
              refine ⟨_, ws, n, l, rfl, rfl, e3, by rw [← e4.length]; exact hl, ?_⟩
              have f0 : Rf H2 W2 (upd H2 _ (.lst (ws.set l v))) W2 := (k2.write (x := .dead) e2 (by rw [e3]; exact Wr.lst) (show NT (upd H2 _ (.lst (ws.set l v)) _) by rw [upd_same]; exact NT.lst)).1.toRf
              obtain ⟨f, k'⟩ := k2.write (x := .lst (ts.set l t)) e2 (by rw [e3]; exact Wr.lst) ⟨_, upd_same, e5.rf f0⟩
              exact q _ _ _ ((f1.trans f2).trans f) k' (((st.fr f1).fr f2).fr f) rfl
          · exact q.elim
        · exact q.elim
      · exact q.elim
end

instance : KpL gLen := ⟨fun ts μ => by unfold gLen; (repeat (first | exact Lk.refl | exact True.intro | exact KpL.kp _ _ | split))⟩
instance : KpL gAbs := ⟨fun ts μ => by unfold gAbs; (repeat (first | exact Lk.refl | exact True.intro | exact KpL.kp _ _ | split))⟩
instance : KpL gInt := ⟨fun ts μ => by unfold gInt; (repeat (first | exact Lk.refl | exact True.intro | exact KpL.kp _ _ | split))⟩
instance : KpL gMax := ⟨fun ts μ => by unfold gMax; (repeat (first | exact Lk.refl | exact True.intro | exact KpL.kp _ _ | split))⟩
instance : KpL gMin := ⟨fun ts μ => by unfold gMin; (repeat (first | exact Lk.refl | exact True.intro | exact KpL.kp _ _ | split))⟩
instance : KpL gAll := ⟨fun ts μ => by unfold gAll; (repeat (first | exact Lk.refl | exact True.intro | exact KpL.kp _ _ | split))⟩
instance : KpL gAny := ⟨fun ts μ => by unfold gAny; (repeat (first | exact Lk.refl | exact True.intro | exact KpL.kp _ _ | split))⟩
instance : KpL gTupOf := ⟨fun ts μ => by unfold gTupOf; (repeat (first | exact Lk.refl | exact True.intro | exact KpL.kp _ _ | split))⟩
instance {fin : List T → Mu → Out T} [KpL fin] : KpL (gLstOf fin) := ⟨fun ts μ => by unfold gLstOf; (repeat (first | exact Lk.refl | exact True.intro | exact KpL.kp _ _ | split))⟩
instance {cs : IsC} {tb : IsTb} : KpL (gIsi cs tb) := ⟨fun ts μ => by unfold gIsi; (repeat (first | exact Lk.refl | exact True.intro | exact KpL.kp _ _ | split))⟩
instance : Kp2 gIx := ⟨fun x y μ => by unfold gIx; (repeat (first | exact Lk.refl | exact True.intro | exact KpL.kp _ _ | split))⟩
instance : KpR mPN := ⟨fun _ _ => Lk.refl⟩
instance {m : ME} [hm : KpR m] : KpR (mPS m) := ⟨fun ρ μ => (hm.kp ρ μ).bind fun _ _ _ => by (repeat (first | exact Lk.refl | exact True.intro | exact KpL.kp _ _ | split))⟩
theorem gSl_kp {fin : List T → Mu → Out T} [KpL fin] {x : T} {lo hi : Option Int} {μ : Mu} : LkO μ (gSl fin x lo hi μ) := by unfold gSl; (repeat (first | exact Lk.refl | exact True.intro | exact KpL.kp _ _ | split))
instance {fin : List T → Mu → Out T} {ma : ME} {ml mh : MO'} [KpL fin] [ha : KpR ma] [hl : KpR ml] [hh : KpR mh] : KpR (mSl fin ma ml mh) := ⟨fun ρ μ => (ha.kp ρ μ).bind fun _ _ _ => (hl.kp _ _).bind fun _ _ _ => (hh.kp _ _).bind fun _ _ _ => gSl_kp⟩
instance {fin : List T → Mu → Out T} [KpL fin] : KpL (gRev fin) := ⟨fun x μ => by unfold gRev; (repeat (first | exact Lk.refl | exact True.intro | exact KpL.kp _ _ | split))⟩
/-- a method on a list of the store: the list's cell is no lock -/
def KpM (g : Nat → List T → List T → Mu → Out T) : Prop := ∀ i ts as μ, μ[i]? = some (.lst ts) → LkO μ (g i ts as μ)
class KpMc (g : Nat → List T → List T → Mu → Out T) : Prop where
  kp : KpM g
theorem Lk.setL {μ : Mu} {i : Nat} {ts : List T} {y : MO} (h : μ[i]? = some (.lst ts)) : Lk μ (μ.set i y) := Lk.set h fun _ z => nomatch z
instance : KpMc gApp := ⟨fun i ts as μ h => by unfold gApp; repeat (first | exact Lk.setL h | exact True.intro | split)⟩
instance : KpMc gExt := ⟨fun i ts as μ h => by unfold gExt; repeat (first | exact Lk.setL h | exact True.intro | split)⟩
instance {g : Nat → List T → List T → Mu → Out T} {mo : ME} {ma : MA} [hg : KpMc g] [ho : KpR mo] [ha : KpR ma] : KpR (mLm g mo ma) := ⟨fun ρ μ => (ho.kp ρ μ).bind fun x μ1 _ => by
  split
  · refine (ha.kp ρ μ1).bind fun as μ2 _ => ?_
    split
    · split
      · rename_i h
        exact hg.kp _ _ _ _ h
      · exact True.intro
    · exact True.intro
  · exact True.intro⟩
instance {mo mi : ME} [ho : KpR mo] [hi : KpR mi] : KpG (gSt mo mi) := ⟨fun v ρ μ => (ho.kp ρ μ).bind fun x μ1 _ => (hi.kp ρ μ1).bind fun y μ2 _ => by
  split
  · split
    · rename_i h
      split
      · exact Lk.setL h
      · exact True.intro
    · exact True.intro
  · exact True.intro⟩
end Mr

namespace Mr
open PySem PySem.Spec PyProof.Rows L2

/-! ### attributes -/
def lkN (f : Nat) : List Nat → List T → Option T
  | g :: r, x :: xs => if Nat.beq g f = true then some x else lkN f r xs
  | _, _ => none
def putNs (f : Nat) : List Nat → List Nat
  | [] => [f]
  | g :: r => if Nat.beq g f = true then g :: r else g :: putNs f r
def putXs {α : Type} (f : Nat) (t : α) : List Nat → List α → List α
  | g :: r, x :: xs => if Nat.beq g f = true then t :: xs else x :: putXs f t r xs
  | _, _ => [t]
theorem lkN_v {K : KW} {H : Hp} {W : Wd} {f : Nat} : ∀ {ns : List Nat} {ts : List T} {vs : List V} {t : T}, RpL K H W ts vs → lkN f ns ts = some t → ∃ v, ((ns.map nmS).zip vs).lookup (nmS f) = some v ∧ Rp K H W t v
  | [], ts, _, _, _, h => by cases ts <;> cases h
  | g :: r, [], _, _, _, h => by cases h
  | g :: r, x :: xs, _, t, .cons (v := v) (vs := vs) rx rl, h => by
    unfold lkN at h
    show ∃ w, List.lookup (nmS f) ((nmS g, v) :: (r.map nmS).zip vs) = some w ∧ _
    split at h
    · rename_i e
      cases h
      rw [Nat.eq_of_beq_eq_true e]
      exact ⟨v, by simp [List.lookup], rx⟩
    · rename_i e
      have ne : nmS f ≠ nmS g := fun z => e (by rw [nmS_inj z]; exact Nat.beq_refl g)
      have nb : (nmS f == nmS g) = false := beq_eq_false_iff_ne.mpr ne
      obtain ⟨w, h1, h2⟩ := lkN_v rl h
      refine ⟨w, ?_, h2⟩
      rw [List.lookup, nb]
      exact h1
theorem putF_zip {f : Nat} {v : V} : ∀ {ns : List Nat} {vs : List V}, ns.length = vs.length → putF (nmS f) v ((ns.map nmS).zip vs) = ((putNs f ns).map nmS).zip (putXs f v ns vs)
  | [], [], _ => rfl
  | [], _ :: _, h => by cases h
  | g :: r, [], h => by cases h
  | g :: r, x :: xs, h => by
    show (if nmS g = nmS f then (nmS g, v) :: (r.map nmS).zip xs else (nmS g, x) :: putF (nmS f) v ((r.map nmS).zip xs)) = _
    unfold putNs putXs
    by_cases e : Nat.beq g f = true
    · rw [if_pos e, if_pos e, if_pos (by rw [Nat.eq_of_beq_eq_true e])]
      rfl
    · rw [if_neg e, if_neg e, if_neg (fun z => e (by rw [nmS_inj z]; exact Nat.beq_refl f)), putF_zip (by simpa using h)]
      rfl
theorem put_len {f : Nat} {α : Type} {v : α} : ∀ {ns : List Nat} {vs : List α}, ns.length = vs.length → (putNs f ns).length = (putXs f v ns vs).length
  | [], [], _ => rfl
  | [], _ :: _, h => by cases h
  | g :: r, [], h => by cases h
  | g :: r, x :: xs, h => by
    unfold putNs putXs
    by_cases e : Nat.beq g f = true
    · rw [if_pos e, if_pos e]
      exact h
    · rw [if_neg e, if_neg e, List.length_cons, List.length_cons, put_len (by simpa using h)]
theorem RpL.put {K : KW} {H : Hp} {W : Wd} {f : Nat} {t : T} {v : V} (r : Rp K H W t v) : ∀ {ns : List Nat} {ts : List T} {vs : List V}, RpL K H W ts vs → RpL K H W (putXs f t ns ts) (putXs f v ns vs)
  | [], ts, vs, rl => by cases rl <;> exact .cons r .nil
  | g :: ns, [], _, .nil => .cons r .nil
  | g :: ns, x :: xs, _, .cons rx rl => by
    unfold putXs
    by_cases e : Nat.beq g f = true
    · rw [if_pos e, if_pos e]
      exact .cons r rl
    · rw [if_neg e, if_neg e]
      exact .cons rx (RpL.put r rl)
theorem notin_lookup {m : Nat} : ∀ {ns : List Nat} {vs : List V}, ns.elem m = false → ((ns.map nmS).zip vs).lookup (nmS m) = none
  | [], _, _ => rfl
  | g :: r, [], _ => rfl
  | g :: r, v :: vs, h => by
    show List.lookup (nmS m) ((nmS g, v) :: (r.map nmS).zip vs) = none
    have h2 : ¬ m = g ∧ r.elem m = false := by
      simp only [List.elem_eq_mem, decide_eq_false_iff_not, List.mem_cons, not_or] at h ⊢
      exact h
    have nb : (nmS m == nmS g) = false := beq_eq_false_iff_ne.mpr fun z => h2.1 (nmS_inj z)
    rw [List.lookup, nb]
    exact notin_lookup h2.2
/-- the class, the names, the values of an instance -/
def asObj (μ : Mu) : T → Option (Nat × List Nat × List T)
  | .obj c ns ts => some (c, ns, ts)
  | .mr i => match rdM μ i with
    | some (.obj c ns ts) => some (c, ns, ts)
    | _ => none
  | _ => none
theorem asObj_ins {K : KW} {H : Hp} {W : Wd} {μ : Mu} {t : T} {c : Nat} {ns : List Nat} {ts : List T} {v : V} (k : Ok K H W μ) (r : Rp K H W t v) (h : asObj μ t = some (c, ns, ts)) :
    ∃ a dx vs, v = .ref a ∧ H a = some (.ins (He.ga K.K (nmS c)) dx ((ns.map nmS).zip vs)) ∧ ns.length = vs.length ∧ RpL K H W ts vs := by
  cases t with
  | obj c' ns' ts' =>
    cases h
    cases r with
    | obj h1 h2 h3 h4 => exact ⟨_, _, _, rfl, h2, h3, h4⟩
  | mr i =>
    cases r with
    | @mr _ a h1 =>
      have h' : (match rdM μ i with
        | some (.obj c ns ts) => some (c, ns, ts)
        | _ => none) = some (c, ns, ts) := h
      cases hm : rdM μ i with
      | none => rw [hm] at h'; cases h'
      | some o =>
        rw [hm] at h'
        cases o with
        | obj c' ns' ts' =>
          cases h'
          obtain ⟨b, dx, vs, e1, e2, e3⟩ := k.rd h1 hm
          exact ⟨a, dx, vs, rfl, e1, e2, e3⟩
        | _ => cases h'
  | _ => cases h
/-- of which classes the attribute may be read -/
def FldOk (K : PySem.W.Frag) (cs : List Nat) (f : Nat) : Prop := ∀ c ∈ cs, Cls K (He.ga K (nmS c)) ∧ NoAttr K (He.ga K (nmS c)) (nmS f)
def gFld (cs : List Nat) (f : Nat) : G1 := fun x μ => match asObj μ x with
  | some (c, ns, ts) => if cs.elem c = true then match lkN f ns ts with
      | some t => .ok t μ
      | none => .bad
    else .bad
  | none => .bad
section
variable {X : Cx} {E : XK} {o e a : Expr} {es : List Expr} {mo me ma' : ME} {ma : MA} {fs : Str} {f : Nat} {cs : List Nat} {pos pos' tpos apos p : Pos}
theorem je_fld (hf : nmS f = fs) (hcs : FldOk X.K cs f) (ho : JE X E o mo) (hb : attributeBase o fs X.env (eval o X.env) = eval o X.env := by rfl) : JE X E (.Attribute o fs pos) (mUn (gFld cs f) mo) := by
  subst hf
  refine PE_imp (pe_fld ho hb) fun σ H Q ⟨W, ρ, μ, k, st, q⟩ => ⟨W, ρ, μ, k, st, Po.bind (R := Rp (kwOf X)) q fun x μ1 _ H1 W1 v f1 k1 r1 q1 => ?_⟩
  unfold gFld at q1
  split at q1
  · rename_i c ns ts h1
    split at q1
    · rename_i hc
      split at q1
      · rename_i t ht
        obtain ⟨a, dx, vs, rfl, e1, e2, e3⟩ := asObj_ins k1 r1 h1
        obtain ⟨w, l1, l2⟩ := lkN_v (f := f) e3 ht
        obtain ⟨c1, c2⟩ := hcs c (List.elem_iff.mp hc)
        exact ⟨a, _, dx, _, w, rfl, e1, c1, c2, l1, Po.go (R := Rp (kwOf X)) q1 Fr.refl k1 l2⟩
      · exact q1.elim
    · exact q1.elim
  · exact q1.elim
/-- o.f = e -/
def mStO (cs : List Nat) (f : Nat) (mo : ME) (me : ME) : MS := fun ρ μ => (me ρ μ).bind fun y μ1 => (mo ρ μ1).bind fun x μ2 => match x with
  | .mr i => match μ2[i]? with
    | some (.obj c ns ts) => if cs.elem c && Nat.blt ns.length 900 then .ok (.nx ρ) (μ2.set i (.obj c (putNs f ns) (putXs f y ns ts))) else .bad
    | _ => .bad
  | _ => .bad
theorem Ok.stO {K : KW} {H : Hp} {W : Wd} {μ : Mu} {i : Nat} {a dx : Addr} {c f : Nat} {ns : List Nat} {ts : List T} {vs : List V} {y : T} {v : V} (k : Ok K H W μ) (h : W.e[i]? = some a) (hm : H a = some (.ins (He.ga K.K (nmS c)) dx ((ns.map nmS).zip vs))) (hl : ns.length = vs.length)
    (r : RpL K H W ts vs) (ry : Rp K H W y v) : ∃ o, o = HO.ins (He.ga K.K (nmS c)) dx (putF (nmS f) v ((ns.map nmS).zip vs)) ∧ Fr H W (upd H a o) W ∧ Ok K (upd H a o) W (μ.set i (.obj c (putNs f ns) (putXs f y ns ts))) := by
  refine ⟨_, rfl, ?_⟩
  rw [putF_zip hl]
  have nt : NT (upd H a (.ins (He.ga K.K (nmS c)) dx (((putNs f ns).map nmS).zip (putXs f v ns vs))) a) := by rw [upd_same]; exact NT.of fun _ z => nomatch z
  have wr : Wr (H a) := by rw [hm]; exact Wr.ins
  have f0 := (k.write (x := .dead) h wr nt).1.toRf
  exact k.write (x := .obj c (putNs f ns) (putXs f y ns ts)) h wr ⟨dx, _, upd_same, put_len hl, (r.put ry).rf f0⟩
theorem js_stO (hf : nmS f = fs) (hcs : FldOk X.K cs f) (ho : JE X E o mo) (he : JE X E e me) (hs : swapsWith e (some (.Attribute o fs pos')) pos.line X.env = pure false := by rfl) : JS X E (.Assign [.Attribute o fs pos'] e pos) (mStO cs f mo me) := by
  subst hf
  refine PS_imp (ps_fld ho he hs) fun D σ H ⟨W, ρ, μ, k, st, q⟩ => ⟨W, ρ, μ, k, st, PoS.bind (R := Rp (kwOf X)) q fun y μ1 H1 W1 v f1 k1 r1 q1 => ⟨W1, ρ, μ1, k1, st.fr f1, PoS.bind (R := Rp (kwOf X)) q1 fun x μ2 H2 W2 u f2 k2 r2 q2 => ?_⟩⟩
  split at q2
  · rename_i i
    split at q2
    · rename_i c ns ts hm
      split at q2
      · rename_i hc
        rw [Bool.and_eq_true] at hc
        cases r2 with
        | @mr _ a h1 =>
          obtain ⟨dx, vs, e1, e2, e3⟩ := k2.ob _ _ _ h1 hm
          obtain ⟨c1, c2⟩ := hcs c (List.elem_iff.mp hc.1)
          obtain ⟨o', eo, f3, k3⟩ := k2.stO (f := f) h1 e1 e2 e3 (r1.fr f2)
          have hl : ns.length < 900 := Nat.le_of_ble_eq_true hc.2
          refine ⟨a, _, dx, _, rfl, e1, c1, c2, by rw [List.length_zip, List.length_map]; omega, ?_⟩
          rw [← eo]
          exact q2 _ _ _ f3 k3 (((st.fr f1).fr f2).fr f3)
      · exact q2.elim
    · exact q2.elim
  · exact q2.elim
/-- an operator on two values, as an augmented one -/
abbrev InM (X : Cx) (E : XK) (op : Operator) (g : G2) : Prop := InOp X op (rM (kwOf X) E g)
theorem inM_of {op : Operator} {g : G2} (h : OpR X (inplaceOp op) (rM (kwOf X) E g)) : InM X E op g := fun pins s σ H x y u v Q I r1 r2 q => h pins s σ H x y u v Q I r1 r2 q
/-- o.f op= e -/
def mAuO (cs : List Nat) (f : Nat) (g : G2) (mo : ME) (me : ME) : MS := fun ρ μ => (mo ρ μ).bind fun x μ1 => match x with
  | .mr i => match asObj μ1 (.mr i) with
    | some (c, ns, ts) => if cs.elem c = true then match lkN f ns ts with
        | some v => (me ρ μ1).bind fun y μ2 => (g v y μ2).bind fun z μ3 => match μ3[i]? with
          | some (.obj c' ns' ts') => if Nat.beq c' c && Nat.blt ns'.length 900 then .ok (.nx ρ) (μ3.set i (.obj c' (putNs f ns') (putXs f z ns' ts'))) else .bad
          | _ => .bad
        | none => .bad
      else .bad
    | none => .bad
  | _ => .bad
theorem js_auO {op : Operator} {g : G2} (hf : nmS f = fs) (hcs : FldOk X.K cs f) (ho : JE X E o mo) (he : JE X E e me) (hop : InM X E op g) : JS X E (.AugAssign (.Attribute o fs tpos) op e pos) (mAuO cs f g mo me) := by
  subst hf
  refine PS_imp (ps_fldaug ho he hop) fun D σ H ⟨W, ρ, μ, k, st, q⟩ => ⟨W, ρ, μ, k, st, PoS.bind (R := Rp (kwOf X)) q fun x μ1 H1 W1 u f1 k1 r1 q1 => ?_⟩
  split at q1
  · rename_i i
    split at q1
    · rename_i c ns ts h1
      split at q1
      · rename_i hc
        split at q1
        · rename_i t ht
          cases r1 with
          | @mr _ a h1' =>
            obtain ⟨a', dx, vs, ea, e1, e2, e3⟩ := asObj_ins k1 (.mr h1') h1
            cases ea
            obtain ⟨w, l1, l2⟩ := lkN_v (f := f) e3 ht
            obtain ⟨c1, c2⟩ := hcs c (List.elem_iff.mp hc)
            refine ⟨a, _, dx, _, w, rfl, e1, c1, c2, l1, W1, ρ, μ1, k1, st.fr f1, PoS.bind (R := Rp (kwOf X)) q1 fun y μ2 H2 W2 y' f2 k2 r2 q2 => ⟨W2, μ2, _, _, k2, l2.fr f2, r2, PoS.bind (R := Rp (kwOf X)) q2 fun z μ3 H3 W3 z' f3 k3 r3 q3 => ?_⟩⟩
            split at q3
            · rename_i c' ns' ts' hm
              split at q3
              · rename_i hc'
                rw [Bool.and_eq_true] at hc'
                have ec : c' = c := Nat.eq_of_beq_eq_true hc'.1
                subst ec
                have h3 := f3.et _ _ (f2.et _ _ h1')
                obtain ⟨dx', vs', g1, g2, g3⟩ := k3.ob _ _ _ h3 hm
                obtain ⟨o', eo, f4, k4⟩ := k3.stO (f := f) h3 g1 g2 g3 r3
                have hl : ns'.length < 900 := Nat.le_of_ble_eq_true hc'.2
                refine ⟨dx', _, g1, by rw [List.length_zip, List.length_map]; omega, ?_⟩
                rw [← eo]
                exact q3 _ _ _ f4 k4 ((((st.fr f1).fr f2).fr f3).fr f4)
              · exact q3.elim
            · exact q3.elim
        · exact q1.elim
      · exact q1.elim
    · exact q1.elim
  · exact q1.elim
/-- o.f as a target -/
def gAtt (cs : List Nat) (f : Nat) (mo : ME) : MG := fun v ρ μ => (mo ρ μ).bind fun x μ1 => match x with
  | .mr i => match μ1[i]? with
    | some (.obj c ns ts) => if cs.elem c && Nat.blt ns.length 900 then .ok ρ (μ1.set i (.obj c (putNs f ns) (putXs f v ns ts))) else .bad
    | _ => .bad
  | _ => .bad
end

/-! ### calls of methods, instances made -/
/-- what binds n values written, the defaults tds behind them -/
structure Bnd (P : Program) (w : World) (K : PySem.W.Frag) (mg : Str → Option Value) (base : Heap) (k : Nat) (f : Addr) (n : Nat) (tds : List T) (g : GL) : Prop where
  ex : ∃ (fd : FuncData) (ps : List Str) (dvs : List V) (ds : List Value), DefM P w K mg base k f fd ps g ∧ Ar ps.length g ∧ Binds K fd ps ds ∧ Vals dvs ds ∧ (∀ H W, RpL ⟨K, w⟩ H W tds dvs) ∧ PySem.W.keepIn K (.ref f) = true
/-- the class c has the method m, worth g -/
structure Cnd (P : Program) (w : World) (K : PySem.W.Frag) (mg : Str → Option Value) (base : Heap) (k : Nat) (m : Nat) (n : Nat) (p : Nat × GL × List T) : Prop where
  cl : Cls K (He.ga K (nmS p.1))
  ex : ∃ f, Meth K (He.ga K (nmS p.1)) (nmS m) f ∧ Bnd P w K mg base k f n p.2.2 p.2.1
def fndC (c : Nat) : List (Nat × GL × List T) → Option (GL × List T)
  | [] => none
  | (d, g) :: l => if Nat.beq d c = true then some g else fndC c l
theorem fndC_mem {c : Nat} {g : GL × List T} : ∀ {l : List (Nat × GL × List T)}, fndC c l = some g → (c, g) ∈ l
  | [], h => by cases h
  | (d, g') :: l, h => by
    unfold fndC at h
    split at h
    · rename_i e
      cases h
      rw [Nat.eq_of_beq_eq_true e]
      exact List.mem_cons_self
    · exact List.mem_cons_of_mem _ (fndC_mem h)
/-- o.m(e, ..): tab tells of each class what its method is worth -/
def mMeth (tab : List (Nat × GL × List T)) (m : Nat) (mo : ME) (ma : MA) : ME := fun ρ μ => (mo ρ μ).bind fun x μ1 => match asObj μ1 x with
  | some (c, ns, _) => if ns.elem m = true then .bad else match fndC c tab with
    | some g => (ma ρ μ1).bind fun ts μ2 => g.1 ((x :: ts) ++ g.2) μ2
    | none => .bad
  | none => .bad
section
variable {X : Cx} {E : XK} {o e a : Expr} {es : List Expr} {mo me : ME} {ma : MA} {ms : Str} {m k : Nat} {tab : List (Nat × GL × List T)} {pos apos p : Pos} {t : TA}
/-- what is asked of a method's call -/
def tMethD (X : Cx) (E : XK) (ms : Str) (to : TE) (t : TA) : TE := fun σ H Q => to σ H fun x H1 => ∃ (a C dx : Addr) (fs : List (Str × V)) (f : Addr) (fd : FuncData) (ps : List Str) (k : Nat) (sp : Sp) (dvs : List V) (ds : List Value),
  x = .ref a ∧ H1 a = some (.ins C dx fs) ∧ fs.lookup ms = none ∧ Cls X.K C ∧ Meth X.K C ms f ∧ FnG X.prog X.w X.K X.mg X.base (L2.CX X.prog X.w) k f fd ps sp ∧ Room k X.A ∧ Binds X.K fd ps ds ∧ Vals dvs ds ∧ t σ H1 fun vs H2 => sp (x :: (vs ++ dvs)) H2 Q E
theorem pe_methD {pl : Sem Bool} {to : TE} (he : PE X o to) (tk : TkE X E) (hG : X.A.guards = some []) (ha : PA X (e :: es) t)
    (hst : starEach (e :: es) X.env = (false, eval e X.env) :: starEach es X.env := by rfl) (hpl : (backTo pos (starEach es X.env)).any (·.1) = false := by rfl)
    (ht : eval (.Call (.Attribute o ms apos) (e :: es) [] pos) X.env = (do
      let ov ← eval o X.env
      standAt apos.atName
      let (f, first) ← holding [ov] (getMethod ov ms pl)
      callWith pos f first (backTo pos (starEach (e :: es) X.env)) (backToKw pos (keywordEach [] X.env))) := by rfl) :
    PE X (.Call (.Attribute o ms apos) (e :: es) [] pos) (tMethD X E ms to t) := by
  refine ⟨fun pins s σ H Q I h => ?_⟩
  refine PySem.W.methodCall_KW (pl := pl) (thn (he.run pins s σ H _ I h) fun u s1 ⟨x, H1, I1, rx, a, C, dx, fs, f, fd, ps, k, sp, dvs, ds, ex, ea, l, c, hm, F, hr, hb, hd, q⟩ => ?_) ht
  subst ex
  obtain rfl : u = Value.ref a := rx
  refine getmeth_ok I1 ea c hm l ?_
  refine PySem.W.callWith_K (first := [.ref a]) (h₀ := X.base) I.ok.mod.kin hm.kp (thn (ha.run pos pins s1 σ H1 _ I1 q) fun us s2 ⟨vs, H2, I2, r, q2⟩ => ⟨I2.kIn, ?_⟩) hst hpl
  exact run_G (us := .ref a :: us) (vs := .ref a :: vs) F hG hr hb hd (passE tk) I2 (.cons rfl r) q2
theorem pe_methD0 {pl : Sem Bool} {to : TE} (he : PE X o to) (tk : TkE X E) (hG : X.A.guards = some [])
    (ht : eval (.Call (.Attribute o ms apos) [] [] pos) X.env = (do
      let ov ← eval o X.env
      standAt apos.atName
      let (f, first) ← holding [ov] (getMethod ov ms pl)
      callWith pos f first (backTo pos (starEach [] X.env)) (backToKw pos (keywordEach [] X.env))) := by rfl) :
    PE X (.Call (.Attribute o ms apos) [] [] pos) (tMethD X E ms to tNil) := by
  refine ⟨fun pins s σ H Q I h => ?_⟩
  refine PySem.W.methodCall_KW (pl := pl) (thn (he.run pins s σ H _ I h) fun u s1 ⟨x, H1, I1, rx, a, C, dx, fs, f, fd, ps, k, sp, dvs, ds, ex, ea, l, c, hm, F, hr, hb, hd, q⟩ => ?_) ht
  subst ex
  obtain rfl : u = Value.ref a := rx
  refine getmeth_ok I1 ea c hm l ?_
  exact PySem.W.callWith_K0 (first := [.ref a]) I1.kIn hm.kp (run_G (us := [.ref a]) (vs := [.ref a]) F hG hr hb hd (passE tk) I1 (.cons rfl .nil) q)
theorem tMeth_M {n : Nat} {ma : MA} (hr : Room k X.A) (ht : ∀ p ∈ tab, Cnd X.prog X.w X.K X.mg X.base k m n p) : ∀ σ H Q, tM (kwOf X) E (mMeth tab m mo ma) σ H Q → tMethD X E (nmS m) (tM (kwOf X) E mo) (tMA (kwOf X) E ma) σ H Q := fun σ H Q ⟨W, ρ, μ, k0, st, q⟩ =>
  ⟨W, ρ, μ, k0, st, Po.bind (R := Rp (kwOf X)) q fun x μ1 _ H1 W1 v f1 k1 r1 q1 => by
    split at q1
    · rename_i c ns ts h1
      split at q1
      · exact q1.elim
      · rename_i hn
        split at q1
        · rename_i g hg
          obtain ⟨a, dx, vs, rfl, e1, e2, e3⟩ := asObj_ins k1 r1 h1
          have hc := ht (c, g) (fndC_mem hg)
          obtain ⟨f, hm, ⟨⟨fd, ps, dvs, ds, F, har, hb, hd, hT, _⟩⟩⟩ := hc.ex
          refine ⟨a, _, dx, _, f, fd, ps, k, _, dvs, ds, rfl, e1, notin_lookup (by simpa using hn), hc.cl, hm, F, hr, hb, hd, W1, ρ, μ1, k1, st.fr f1, Po.bind (R := RpL (kwOf X)) (R' := Rp (kwOf X)) q1 fun as μ2 _ H2 W2 us f2 k2 r2 q2 => ?_⟩
          exact Po.spM (har _ _) k2 (.cons (r1.fr f2) (r2.append (hT H2 W2))) q2
        · exact q1.elim
    · exact q1.elim⟩
theorem je_meth {n : Nat} (hm : nmS m = ms) (tk : TkE X E) (hG : X.A.guards = some []) (hr : Room k X.A) (ho : JE X E o mo) (ht : ∀ p ∈ tab, Cnd X.prog X.w X.K X.mg X.base k m n p) (ha : JA X E (e :: es) ma) {pl : Sem Bool}
    (hst : starEach (e :: es) X.env = (false, eval e X.env) :: starEach es X.env := by rfl) (hpl : (backTo pos (starEach es X.env)).any (·.1) = false := by rfl)
    (hev : eval (.Call (.Attribute o ms apos) (e :: es) [] pos) X.env = (do
      let ov ← eval o X.env
      standAt apos.atName
      let (f, first) ← holding [ov] (getMethod ov ms pl)
      callWith pos f first (backTo pos (starEach (e :: es) X.env)) (backToKw pos (keywordEach [] X.env))) := by rfl) : JE X E (.Call (.Attribute o ms apos) (e :: es) [] pos) (mMeth tab m mo ma) := by
  subst hm
  exact PE_imp (pe_methD ho tk hG ha hst hpl hev) (tMeth_M hr ht)
theorem je_meth0 {n : Nat} (hm : nmS m = ms) (tk : TkE X E) (hG : X.A.guards = some []) (hr : Room k X.A) (ho : JE X E o mo) (ht : ∀ p ∈ tab, Cnd X.prog X.w X.K X.mg X.base k m n p) {pl : Sem Bool}
    (hev : eval (.Call (.Attribute o ms apos) [] [] pos) X.env = (do
      let ov ← eval o X.env
      standAt apos.atName
      let (f, first) ← holding [ov] (getMethod ov ms pl)
      callWith pos f first (backTo pos (starEach [] X.env)) (backToKw pos (keywordEach [] X.env))) := by rfl) : JE X E (.Call (.Attribute o ms apos) [] [] pos) (mMeth tab m mo mNil) := by
  subst hm
  refine PE_imp (pe_methD0 ho tk hG hev) fun σ H Q h => ?_
  obtain ⟨W, ρ, μ, k0, st, q⟩ := tMeth_M hr ht σ H Q h
  refine ⟨W, ρ, μ, k0, st, Po.weak (fun x H1 q1 => ?_) (fun _ _ _ z => z) q⟩
  obtain ⟨a, C, dx, fs, f, fd, ps, k, sp, dvs, ds, h1, h2, h3, h4, h5, h6, h7, h8, h9, W1, ρ1, μ1, k1, st1, q2⟩ := q1
  exact ⟨a, C, dx, fs, f, fd, ps, k, sp, dvs, ds, h1, h2, h3, h4, h5, h6, h7, h8, h9, Po.go (R := RpL (kwOf X)) q2 Fr.refl k1 .nil⟩
end
end Mr

namespace Mr
open PySem PySem.Spec PyProof.Rows L2

/-! ### instances made -/
theorem guards_make {A : Around} {C : Addr} {us : List Value} {kw : List (Str × Value)} (h : A.guards = some []) : (A.under (.builtin "type.__call__" ⟨.ref C :: us, kw⟩)).guards = some [] := by
  have hg : (Code.builtin "type.__call__" ⟨.ref C :: us, kw⟩).guards = [] := by
    unfold Code.guards
    rw [if_neg (by simp only [Code.isGuard]; decide +kernel)]
  show pushGuards (Code.builtin "type.__call__" ⟨.ref C :: us, kw⟩).guards A.guards = some []
  rw [hg]
  exact h
/-- where locks do not matter -/
def LkC (E : XK) : Prop := ∀ c d H, LkE (E c d) H → E c d H
theorem lkC_lkX {E : XK} : LkC (lkX E) := fun _ _ _ h => LkE.flat h
theorem lkC_EN : LkC EN := fun _ _ H h => by
  induction h with
  | of h => exact h
  | step _ _ _ ih => exact ih (Classical.choice ⟨{ cls := .none, data := .plain }⟩)
section
variable {X : Cx} {E : XK} {k : Nat} {f C : Addr} {fd : FuncData} {ps : List Str} {sp : Sp} {dvs : List V} {ds : List Value} {x : Str} {p pos : Pos} {e : Expr} {es : List Expr} {t : TA} {te : TE}
theorem pe_lks (h : PE X e te) : PE X e (fun σ H Q => te σ H fun v => LkE (Q v)) := ⟨fun pins s σ H Q I hw => thn (h.run pins s σ H _ I hw) fun v s1 ⟨x, H1, I1, r, q⟩ => by
  obtain ⟨H2, I2, q2⟩ := q.run I1
  exact ⟨x, H2, I2, r, q2⟩⟩
theorem run_makeG {pins : List (Addr × Obj)} {σ : L2.St} {H : Hp} {s : Shared} {Q : VK} {us : List Value} {vs : List V} (M : Mk X.K C f) (F : FnG X.prog X.w X.K X.mg X.base (L2.CX X.prog X.w) k f fd ps sp) (hG : X.A.guards = some []) (hr : Room (k + 1) X.A) (hb : Binds X.K fd ps ds) (hd : Vals dvs ds)
    (tk : TkE X E) (I : Inv X pins σ H s) (r : Vals vs us)
    (h : ∀ x dx, H x = none → H dx = none → dx ≠ x → sp (.ref x :: (vs ++ dvs)) (upd (upd H dx (.own x)) x (.ins C dx [])) (fun v H2 => v = .non ∧ Q (.ref x) H2) E) :
    wpAny (model X.prog X.w) X.A (call (.ref C) us) (EP X pins σ Q) X.xe s := by
  have hq := h (s.heap.objs.size + 1) s.heap.objs.size (I.hok.fresh (Nat.le_succ _)) (I.hok.fresh (Nat.le_refl _)) (Nat.ne_of_lt (Nat.lt_succ_self _))
  have I2 := Inv.made (C := C) I
  have rr : Vals (V.ref (s.heap.objs.size + 1) :: (vs ++ dvs)) (Value.ref (s.heap.objs.size + 1) :: (us ++ ds)) := Paired.cons rfl (Vals.append r hd)
  have lens : (Value.ref (s.heap.objs.size + 1) :: us ++ ds).length = ps.length := rr.length.symm.trans (F.len _ _ _ _ hq)
  have go := F.run (X.A.under (.builtin "type.__call__" ⟨.ref C :: us, []⟩)) X.stack _ _ ⟨Value.ref (s.heap.objs.size + 1) :: us, []⟩ (Value.ref (s.heap.objs.size + 1) :: (us ++ ds)) _ _ E (guards_make hG) (hr.make C us []) (I2.env0.make C us []) (hb _ (Value.ref (s.heap.objs.size + 1) :: us) I2.kIn lens) rr hq
  apply wpAny_call
  apply make_map (f := f) I.kIn M.makes M.init (beq_iff_eq.mp M.fn)
  apply codeAny_mono go
  intro res s' hq'
  rcases res with e | (_ | _ | _ | u)
  all_goals first
    | exact passE tk pins σ _ _ e s' I2 hq'
    | exact False.elim hq'
    | (obtain ⟨v, H', I3, rv, ev, q3⟩ := I2.after hq'
       subst ev
       exact ⟨rv, ⟨V.ref (s.heap.objs.size + 1), H', I3, rfl, q3⟩⟩)
theorem pe_makeG (M : Mk X.K C f) (F : FnG X.prog X.w X.K X.mg X.base (L2.CX X.prog X.w) k f fd ps sp) (hG : X.A.guards = some []) (hr : Room (k + 1) X.A) (hg : Gl X x) (hm : X.mg x = some (.ref C)) (hb : Binds X.K fd ps ds) (hd : Vals dvs ds) (tk : TkE X E)
    (ha : PA X (e :: es) t) (hdb : (x == ("__debug__" : Str)) = false := by decide) (he : starEach (e :: es) X.env = (false, eval e X.env) :: starEach es X.env := by rfl) (hpl : (backTo pos (starEach es X.env)).any (·.1) = false := by rfl) :
    PE X (.Call (.Name x p) (e :: es) [] pos) (tMake C sp dvs E t) := by
  constructor
  intro pins s σ H Q I h
  apply wpAny_Call_Name_kw (ld_glob I hg hm ?_ hdb)
  apply PySem.W.callWith_K (h₀ := X.base) I.ok.mod.kin M.kp ?_ he hpl
  apply thn (ha.run pos pins s σ H _ I h)
  intro us s1 ⟨vs, H1, I1, r, q⟩
  exact And.intro I1.kIn (run_makeG M F hG hr hb hd tk I1 r q)
theorem pe_makeG0 (M : Mk X.K C f) (F : FnG X.prog X.w X.K X.mg X.base (L2.CX X.prog X.w) k f fd ps sp) (hG : X.A.guards = some []) (hr : Room (k + 1) X.A) (hg : Gl X x) (hm : X.mg x = some (.ref C)) (hb : Binds X.K fd ps ds) (hd : Vals dvs ds) (tk : TkE X E)
    (hdb : (x == ("__debug__" : Str)) = false := by decide) : PE X (.Call (.Name x p) [] [] pos) (tMake C sp dvs E tNil) := by
  constructor
  intro pins s σ H Q I h
  apply wpAny_Call_Name_kw (ld_glob I hg hm ?_ hdb)
  exact PySem.W.callWith_K0 I.kIn M.kp (run_makeG (us := []) M F hG hr hb hd tk I .nil h)
end
/-- a new instance of the class c, g its __init__ -/
def makeO (c : Nat) (g : GL) (ts : List T) (μ : Mu) : Out T := (g (.mr μ.length :: ts) (μ ++ [.obj c [] []])).bind fun r μ2 => match r with
  | .non => .ok (.mr μ.length) μ2
  | _ => .bad
/-- .. that nobody changes from then on -/
def makeP (c : Nat) (g : GL) (ts : List T) (μ : Mu) : Out T := pureO μ (makeO c g ts (μ.map MO.lck))
/-- an instance's place in the store -/
theorem Ok.mkObj {K : KW} {H : Hp} {W : Wd} {μ : Mu} {x dx : Addr} {c : Nat} (k : Ok K H W μ) (hx : H x = none) (hd : H dx = none) (hn : dx ≠ x) :
    Fr H W (upd (upd H dx (.own x)) x (.ins (He.ga K.K (nmS c)) dx [])) (W.psh x) ∧ Ok K (upd (upd H dx (.own x)) x (.ins (He.ga K.K (nmS c)) dx [])) (W.psh x) (μ ++ [.obj c [] []]) := by
  have f1 : Fr H W (upd H dx (.own x)) W := fr_new hd rfl (fun a h => (k.gk a h).1) (fun a h => (k.fk a h).1.1) (fun _ h => h) fun _ _ h => h
  have k1 : Ok K (upd H dx (.own x)) W μ := ⟨k.len, k.nd, k.nf, fun a h => ⟨by rw [(f1.fz a h).2]; exact (k.fk a h).1, (k.fk a h).2⟩, fun a h => by rw [f1.gz a h]; exact k.gk a h, fun i a o h1 h2 =>
    (k.ob i a o h1 h2).fr f1 (upd_ne fun z => k.known (List.mem_of_getElem? h1) (by rw [z]; exact hd))⟩
  have hx1 : upd H dx (.own x) x = none := by rw [upd_ne (fun z => hn z.symm)]; exact hx
  have f2 : Fr (upd H dx (.own x)) W (upd (upd H dx (.own x)) x (.ins (He.ga K.K (nmS c)) dx [])) (W.psh x) := fr_new hx1 rfl (fun a h => (k1.gk a h).1) (fun a h => (k1.fk a h).1.1) (fun _ h => h) fun i a h => by
    show (W.e ++ [x])[i]? = some a
    rw [List.getElem?_append_left (List.getElem?_eq_some_iff.mp h).1]; exact h
  have hnp : x ∉ W.e := fun z => k1.known z hx1
  refine ⟨f1.trans f2, by show (W.e ++ [x]).length = _; simp [k.len], ?_, fun a ha => ?_, fun a h => ?_, fun a h => ?_, fun i a o h1 h2 => ?_⟩
  · refine List.nodup_append.mpr ⟨k.nd, by simp, fun a ha b hb => ?_⟩
    rintro rfl
    have : a = x := by simpa using hb
    exact hnp (this ▸ ha)
  · rcases List.mem_append.mp ha with ha | ha
    · exact k.nf a ha
    · have : a = x := by simpa using ha
      subst this
      exact ⟨fun h => (k.fk a h).1.1 hx, fun h => (k.gk a h).1 hx⟩
  · rw [(f2.fz a h).2]; exact k1.fk a h
  · rw [f2.gz a h]; exact k1.gk a h
  · have h1 : (W.e ++ [x])[i]? = some a := h1
    by_cases hi : i < W.e.length
    · rw [List.getElem?_append_left hi] at h1
      rw [List.getElem?_append_left (by rw [← k.len]; exact hi)] at h2
      have hne : a ≠ x := fun z => hnp (z ▸ List.mem_of_getElem? h1)
      exact (k1.ob i a o h1 h2).fr f2 (upd_ne hne)
    · rw [List.getElem?_append_right (by omega)] at h1
      rw [List.getElem?_append_right (by have := k.len; omega), ← k.len] at h2
      cases hz : i - W.e.length with
      | zero =>
        rw [hz] at h1 h2
        cases h1; cases h2
        exact ⟨dx, [], upd_same, rfl, .nil⟩
      | succ n =>
        rw [hz] at h1
        simp at h1
/-- the class c can be made, g its __init__ -/
structure MkC (P : Program) (w : World) (K : PySem.W.Frag) (mg : Str → Option Value) (base : Heap) (k c n : Nat) (tds : List T) (g : GL) : Prop where
  glo : mg (nmS c) = some (.ref (He.ga K (nmS c)))
  ex : ∃ f, Mk K (He.ga K (nmS c)) f ∧ Bnd P w K mg base k f n tds g
def mMk (mk : Nat → GL → List T → Mu → Out T) (c : Nat) (g : GL) (tds : List T) (ma : MA) : ME := fun ρ μ => (ma ρ μ).bind fun ts μ1 => mk c g (ts ++ tds) μ1
section
variable {X : Cx} {E : XK} {k c n : Nat} {g : GL} {tds : List T} {x : Str} {p pos : Pos} {e : Expr} {es : List Expr} {ma : MA}
theorem make_core {H : Hp} {W : Wd} {μ : Mu} {ts : List T} {vs dvs : List V} {ps : List Str} {Q : VK} (har : Ar ps.length g) (k0 : Ok (kwOf X) H W μ) (r : RpL (kwOf X) H W ts vs) (hT : ∀ H W, RpL (kwOf X) H W tds dvs) (q : PoE (kwOf X) E H W Q (makeO c g (ts ++ tds) μ)) :
    ∀ x dx, H x = none → H dx = none → dx ≠ x → spM (kwOf X) ps.length g (.ref x :: (vs ++ dvs)) (upd (upd H dx (.own x)) x (.ins (He.ga X.K (nmS c)) dx [])) (fun v H2 => v = .non ∧ Q (.ref x) H2) E := fun x dx hx hd hn => by
  obtain ⟨f1, k1⟩ := k0.mkObj (c := c) hx hd hn
  have hmr : (W.psh x).e[μ.length]? = some x := by
    show (W.e ++ [x])[μ.length]? = some x
    rw [← k0.len, List.getElem?_append_right (Nat.le_refl _), Nat.sub_self] <;> rfl
  refine Po.spM (m := g) (har _ _) k1 (.cons (.mr hmr) ((r.fr f1).append (hT _ _))) ?_
  have q : PoE (kwOf X) E H W Q ((g (.mr μ.length :: (ts ++ tds)) (μ ++ [.obj c [] []])).bind fun r μ2 => match r with
    | .non => .ok (.mr μ.length) μ2
    | _ => .bad) := q
  cases eg : g (.mr μ.length :: (ts ++ tds)) (μ ++ [.obj c [] []]) with
  | bad => rw [eg] at q; exact q.elim
  | exc y m => rw [eg] at q; exact fun H' W' cl d f k r => q H' W' cl d (f1.trans f) k r
  | ok t m =>
    rw [eg] at q
    cases t with
    | non =>
      intro H' W' v f k r
      cases r
      exact ⟨rfl, q H' W' _ (f1.trans f) k (.mr (f.et _ _ hmr))⟩
    | _ => exact q.elim
theorem tMk_M {ps : List Str} {dvs : List V} (har : Ar ps.length g) (hT : ∀ H W, RpL (kwOf X) H W tds dvs) : ∀ σ H Q, tM (kwOf X) E (mMk makeO c g tds ma) σ H Q → tMake (He.ga X.K (nmS c)) (spM (kwOf X) ps.length g) dvs E (tMA (kwOf X) E ma) σ H Q := fun σ H Q ⟨W, ρ, μ, k, st, q⟩ =>
  ⟨W, ρ, μ, k, st, Po.bind (R := RpL (kwOf X)) (R' := Rp (kwOf X)) q fun ts μ1 _ H1 W1 vs f1 k1 r1 q1 => make_core har k1 r1 hT q1⟩
theorem je_mk (hx : nmS c = x) (tk : TkE X E) (hG : X.A.guards = some []) (hr : Room (k + 1) X.A) (hg : Gl X x) (hM : MkC X.prog X.w X.K X.mg X.base k c n tds g) (ha : JA X E (e :: es) ma) (hdb : (x == ("__debug__" : Str)) = false := by decide)
    (he : starEach (e :: es) X.env = (false, eval e X.env) :: starEach es X.env := by rfl) (hpl : (backTo pos (starEach es X.env)).any (·.1) = false := by rfl) : JE X E (.Call (.Name x p) (e :: es) [] pos) (mMk makeO c g tds ma) := by
  subst hx
  obtain ⟨f, M, ⟨⟨fd, ps, dvs, ds, F, har, hb, hd, hT, _⟩⟩⟩ := hM.ex
  exact PE_imp (pe_makeG M F hG hr hg hM.glo hb hd tk ha hdb he hpl) (tMk_M har hT)
theorem je_mk0 (hx : nmS c = x) (tk : TkE X E) (hG : X.A.guards = some []) (hr : Room (k + 1) X.A) (hg : Gl X x) (hM : MkC X.prog X.w X.K X.mg X.base k c n tds g) (hdb : (x == ("__debug__" : Str)) = false := by decide) : JE X E (.Call (.Name x p) [] [] pos) (mMk makeO c g tds mNil) := by
  subst hx
  obtain ⟨f, M, ⟨⟨fd, ps, dvs, ds, F, har, hb, hd, hT, _⟩⟩⟩ := hM.ex
  refine PE_imp (pe_makeG0 M F hG hr hg hM.glo hb hd tk hdb) fun σ H Q h => ?_
  obtain ⟨W, ρ, μ, k, st, q⟩ := h
  exact make_core (vs := []) har k .nil hT q
/-- the frozen ones -/
theorem makeO_kp [hk : KpL g] {ts : List T} {μ : Mu} : LkO μ (makeO c g ts μ) := by
  unfold makeO
  have h := hk.kp (.mr μ.length :: ts) (μ ++ [.obj c [] []])
  cases e : g (.mr μ.length :: ts) (μ ++ [.obj c [] []]) with
  | bad => exact True.intro
  | exc x m => rw [e] at h; exact Lk.trans Lk.app h
  | ok t m =>
    rw [e] at h
    cases t with
    | non => exact Lk.trans Lk.app h
    | _ => exact True.intro
theorem PoE.pure {K : KW} {H : Hp} {W : Wd} {Q : VK} {μ : Mu} {o : Out T} (k0 : Ok K H W μ) (hE : LkC E) (lk : LkO (μ.map MO.lck) o) (q : PoE K E H W Q (pureO μ o)) : PoE K E H W (fun v => LkE (Q v)) o := by
  cases o with
  | bad => exact q.elim
  | ok t μ' =>
    intro H' W' v f k' r'
    refine pure_end k0 f k' lk fun H2 dl rf fr k2 => ?_
    unfold pureO at q
    dsimp only at q
    split at q
    · rename_i hl
      have hl : μ'.length = μ.length := Nat.eq_of_beq_eq_true hl
      refine q H2 _ v fr k2 ?_
      have z : { (W'.cut H2 μ.length) with e := W'.e } = W'.cut H2 μ.length := by
        unfold Wd.cut
        rw [List.take_of_length_le (by rw [k'.len]; omega)]
      rw [← z]
      exact r'.rf rf
    · split at q
      · rename_i u hu
        exact q H2 _ v fr k2 (frzT_ok k' dl rf 64 hu r')
      · exact q.elim
  | exc x μ' =>
    intro H' W' c d f k' r'
    refine hE c d H' (pure_end k0 f k' lk fun H2 dl rf fr k2 => ?_)
    unfold pureO at q
    dsimp only at q
    split at q
    · rename_i us hu
      obtain ⟨rc, dd, vs, rd, rF, rx, rl, rr⟩ := r'
      exact q H2 _ c d fr k2 ⟨rc, dd, vs, rd, .inl rF, (rf.fz dd rF).2.trans rx, rl, rpL_mapO (fun _ _ _ h r => frzT_ok k' dl rf 64 h r) hu rr⟩
    · exact q.elim
theorem tMkP_M [hk : KpL g] {ps : List Str} {dvs : List V} (hE : LkC E) (har : Ar ps.length g) (hT : ∀ H W, RpL (kwOf X) H W tds dvs) : ∀ σ H Q, tM (kwOf X) E (mMk makeP c g tds ma) σ H Q → tMake (He.ga X.K (nmS c)) (spM (kwOf X) ps.length g) dvs E (tMA (kwOf X) E ma) σ H fun v => LkE (Q v) := fun σ H Q ⟨W, ρ, μ, k, st, q⟩ =>
  ⟨W, ρ, μ, k, st, Po.bind (R := RpL (kwOf X)) (R' := Rp (kwOf X)) q fun ts μ1 _ H1 W1 vs f1 k1 r1 q1 => make_core har k1.lckAll r1 hT (PoE.pure k1 hE makeO_kp q1)⟩
theorem je_mkP [hk : KpL g] (hE : LkC E) (hx : nmS c = x) (tk : TkE X E) (hG : X.A.guards = some []) (hr : Room (k + 1) X.A) (hg : Gl X x) (hM : MkC X.prog X.w X.K X.mg X.base k c n tds g) (ha : JA X E (e :: es) ma) (hdb : (x == ("__debug__" : Str)) = false := by decide)
    (he : starEach (e :: es) X.env = (false, eval e X.env) :: starEach es X.env := by rfl) (hpl : (backTo pos (starEach es X.env)).any (·.1) = false := by rfl) : JE X E (.Call (.Name x p) (e :: es) [] pos) (mMk makeP c g tds ma) := by
  subst hx
  obtain ⟨f, M, ⟨⟨fd, ps, dvs, ds, F, har, hb, hd, hT, _⟩⟩⟩ := hM.ex
  exact PE_imp (pe_lks (pe_makeG M F hG hr hg hM.glo hb hd tk ha hdb he hpl)) (tMkP_M hE har hT)
end
/-! what is locked stays -/
instance {cs : List Nat} {f : Nat} : KpL (gFld cs f) := ⟨fun x μ => by unfold gFld; (repeat (first | exact Lk.refl | exact True.intro | split))⟩
theorem Lk.setO {μ : Mu} {i c : Nat} {ns : List Nat} {ts : List T} {y : MO} (h : μ[i]? = some (.obj c ns ts)) : Lk μ (μ.set i y) := Lk.set h fun _ z => nomatch z
instance {cs : List Nat} {f : Nat} {mo me : ME} [ho : KpR mo] [he : KpR me] : KpR (mStO cs f mo me) := ⟨fun ρ μ => (he.kp ρ μ).bind fun y μ1 _ => (ho.kp ρ μ1).bind fun x μ2 _ => by
  split
  · split
    · rename_i h
      split
      · exact Lk.setO h
      · exact True.intro
    · exact True.intro
  · exact True.intro⟩
instance {cs : List Nat} {f : Nat} {mo : ME} [ho : KpR mo] : KpG (gAtt cs f mo) := ⟨fun v ρ μ => (ho.kp ρ μ).bind fun x μ1 _ => by
  split
  · split
    · rename_i h
      split
      · exact Lk.setO h
      · exact True.intro
    · exact True.intro
  · exact True.intro⟩
instance {cs : List Nat} {f : Nat} {g : G2} {mo me : ME} [hg : Kp2 g] [ho : KpR mo] [he : KpR me] : KpR (mAuO cs f g mo me) := ⟨fun ρ μ => (ho.kp ρ μ).bind fun x μ1 _ => by
  split
  · split
    · split
      · split
        · refine (he.kp ρ μ1).bind fun y μ2 _ => (hg.kp _ _ _).bind fun z μ3 _ => ?_
          split
          · rename_i h
            split
            · exact Lk.setO h
            · exact True.intro
          · exact True.intro
        · exact True.intro
      · exact True.intro
    · exact True.intro
  · exact True.intro⟩
class KpTab (tab : List (Nat × GL × List T)) : Prop where
  kp : ∀ p ∈ tab, KpL p.2.1
instance : KpTab [] := ⟨fun p h => nomatch h⟩
instance {c : Nat} {g : GL} {tds : List T} {l : List (Nat × GL × List T)} [hg : KpL g] [hl : KpTab l] : KpTab ((c, g, tds) :: l) := ⟨fun p h => by
  rcases List.mem_cons.mp h with e | e
  · rw [e]; exact hg
  · exact hl.kp p e⟩
instance {tab : List (Nat × GL × List T)} {m : Nat} {mo : ME} {ma : MA} [ht : KpTab tab] [ho : KpR mo] [ha : KpR ma] : KpR (mMeth tab m mo ma) := ⟨fun ρ μ => (ho.kp ρ μ).bind fun x μ1 _ => by
  split
  · split
    · exact True.intro
    · split
      · rename_i g hg
        exact (ha.kp ρ μ1).bind fun ts μ2 _ => (ht.kp _ (fndC_mem hg)).kp _ _
      · exact True.intro
  · exact True.intro⟩
instance {c : Nat} {g : GL} {tds : List T} {ma : MA} [hg : KpL g] [ha : KpR ma] : KpR (mMk makeO c g tds ma) := ⟨fun ρ μ => (ha.kp ρ μ).bind fun _ _ _ => makeO_kp⟩
theorem pureO_kp {μ : Mu} {o : Out T} : LkO μ (pureO μ o) := by
  unfold pureO
  (repeat (first | exact Lk.refl | exact True.intro | split))
instance {c : Nat} {g : GL} {tds : List T} {ma : MA} [ha : KpR ma] : KpR (mMk makeP c g tds ma) := ⟨fun ρ μ => (ha.kp ρ μ).bind fun _ _ _ => pureO_kp⟩
end Mr

namespace Mr
open PySem PySem.Spec PyProof.Rows L2

/-! ### an attribute as a target -/
section
variable {X : Cx} {E : XK} {o : Expr} {mo : ME} {fs : Str} {f : Nat} {cs vs : List Nat} {pos p : Pos}
theorem pg_att {to : TE} (ho : PE X o to) (ha : ∀ v, assign (.Attribute o fs pos) X.env v = (do
      let ov ← holding [v] (eval o X.env)
      standAt pos.atName
      holding [v, ov] (setAttr ov fs v)
      release [v, ov] []) := by intro _; rfl) :
    PG X (.Attribute o fs pos) (fun v σ H Q => to σ H fun x H1 => ∃ (a C dx : Addr) (fz : List (Str × V)), x = .ref a ∧ H1 a = some (.ins C dx fz) ∧ Cls X.K C ∧ NoAttr X.K C fs ∧ fz.length < 1000 ∧ Q σ (upd H1 a (.ins C dx (putF fs v fz)))) := by
  refine ⟨fun pins s σ H v u Q I r h => ?_⟩
  rw [ha]
  apply wpAny_bind
  apply wpAny_holding
  apply thn (ho.run pins s σ H _ I h)
  intro ov s1 ⟨x, H1, I1, r1, a, C, dx, fz, ex, ea, c, n, hl, q⟩
  subst ex
  obtain rfl : ov = Value.ref a := r1
  exact wpAny_bind (wpAny_standAt (wpAny_bind (wpAny_holding (setattr_ok I1 ea c n hl r fun s2 I2 => wpAny_release ⟨σ, _, I2, q⟩))))
theorem jg_att (hf : nmS f = fs) (hcs : FldOk X.K cs f) (ho : JE X E o mo) (ha : ∀ v, assign (.Attribute o fs pos) X.env v = (do
      let ov ← holding [v] (eval o X.env)
      standAt pos.atName
      holding [v, ov] (setAttr ov fs v)
      release [v, ov] []) := by intro _; rfl) : JG X E vs (.Attribute o fs pos) (gAtt cs f mo) := by
  subst hf
  refine PG_imp (pg_att ho ha) fun v σ H Q ⟨W, ρ, μ, t, k, st, r, q⟩ => ⟨W, ρ, μ, k, st, ?_⟩
  unfold gAtt at q
  cases h1 : mo ρ μ with
  | bad => rw [h1] at q; exact q.elim
  | exc x m => rw [h1] at q; exact q
  | ok x μ1 =>
    rw [h1] at q
    intro H1 W1 vx f1 k1 r1
    simp only [Out.bind_ok] at q
    split at q
    · rename_i i
      split at q
      · rename_i c ns ts hm
        split at q
        · rename_i hc
          rw [Bool.and_eq_true] at hc
          cases r1 with
          | @mr _ a h1 =>
            obtain ⟨dx, us, e1, e2, e3⟩ := k1.ob _ _ _ h1 hm
            obtain ⟨c1, c2⟩ := hcs c (List.elem_iff.mp hc.1)
            obtain ⟨o', eo, f3, k3⟩ := k1.stO (f := f) h1 e1 e2 e3 (r.fr f1)
            have hl : ns.length < 900 := Nat.le_of_ble_eq_true hc.2
            refine ⟨a, _, dx, _, rfl, e1, c1, c2, by rw [List.length_zip, List.length_map]; omega, ?_⟩
            rw [← eo]
            exact q _ _ _ (f1.trans f3) k3 ((st.fr f1).fr f3) rfl
        · exact q.elim
      · exact q.elim
    · exact q.elim
/-- a constant of the module -/
theorem je_glo {x : Str} {t : T} {u : Value} {v : V} (hg : Gl X x) (hm : X.mg x = some u) (r : RelV v u) (rt : ∀ H W, Rp (kwOf X) H W t v) (hdb : (x == ("__debug__" : Str)) = false := by decide) : JE X E (.Name x p) (mC t) := je_c (pe_glob hg hm r hdb) rt
theorem je_gint {x : Str} {i : Int} (hg : Gl X x) (hm : ∃ t, X.mg x = some (.int i t)) (hdb : (x == ("__debug__" : Str)) = false := by decide) : JE X E (.Name x p) (mC (.int i)) := by
  obtain ⟨t, e⟩ := hm
  exact je_glo (v := .int i) hg e ⟨t, rfl⟩ (fun _ _ => .int i) hdb
theorem je_gstr {x : Str} {z : Str} (cs : List Nat) (hz : z = ⟨cs.toArray⟩) (hg : Gl X x) (hm : ∃ t, X.mg x = some (.str z t)) (hdb : (x == ("__debug__" : Str)) = false := by decide) : JE X E (.Name x p) (mC (.str cs)) := by
  subst hz
  obtain ⟨t, e⟩ := hm
  exact je_glo (v := .str _) hg e ⟨t, rfl⟩ (fun _ _ => .str cs) hdb
/-- a class of the text -/
theorem je_gcls {x : Str} {c : Nat} (hx : nmS c = x) (hg : Gl X x) (hm : X.mg x = some (.ref (He.ga X.K x))) (hdb : (x == ("__debug__" : Str)) = false := by decide) : JE X E (.Name x p) (mC (.cls c)) := by
  subst hx
  exact je_glo (v := .ref _) hg hm rfl (fun _ _ => .cls c) hdb
/-- a tuple of the module, by what is known of it -/
def gloT (K : PySem.W.Frag) (x : Str) (vs : List V) : Prop := ∃ (a : Addr) (o : Obj) (its : Array Value) (n : Nat), PySem.W.nsIn K mainGlobals x = some (some (.ref a)) ∧ K.lookup a = some o ∧ o.cls = .type "tuple" ∧ o.data = .seq its n ∧ its.size ≤ sizeLine ∧ Vals vs its.toList
theorem je_gtup {x : Str} {ts : List T} {vs : List V} {a : Addr} (hg : Gl X x) (hm : X.mg x = some (.ref a)) (hT : ∃ (o : Obj) (its : Array Value) (n : Nat), X.K.lookup a = some o ∧ o.cls = .type "tuple" ∧ o.data = .seq its n ∧ its.size ≤ sizeLine ∧ Vals vs its.toList) (rt : ∀ H W, RpL (kwOf X) H W ts vs) (hdb : (x == ("__debug__" : Str)) = false := by decide) : JE X E (.Name x p) (mC (.tup ts)) :=
  je_glo (v := .ref a) hg hm rfl (fun H W => .tup (.inr hT) (rt H W)) hdb
end

/-! ### defs of the text by their names; methods -/
/-- the def at `at_`, its defaults dvs -/
structure DefK (P : Program) (w : World) (K : PySem.W.Frag) (mg : Str → Option Value) (base : Heap) (k : Nat) (at_ : Str × Option Str) (nm qual : Str) (st : Stmt) (dvs : List V) (ps : List Str) (g : GL) : Prop where
  ex : ∃ fd, FunD K nm qual (defArgs st) (defBody st) (defScope st) dvs [] (He.fAd K at_) fd ∧ DefM P w K mg base k (He.fAd K at_) fd ps g
  ar : Ar ps.length g
theorem spM_ar {K : KW} {n : Nat} {g : GL} {vs : List V} {H : Hp} {Q : VK} {E : XK} (h : spM K n (arO n g) vs H Q E) : spM K n g vs H Q E := by
  obtain ⟨h1, W, μ, ts, k, r, q⟩ := h
  refine ⟨h1, W, μ, ts, k, r, ?_⟩
  unfold arO at q
  rw [if_pos (r.length.trans h1)] at q
  exact q
section
variable {P : Program} {w : World} {K : PySem.W.Frag} {mg : Str → Option Value} {base : Heap} {k : Nat} {at_ : Str × Option Str} {nm qual : Str} {st : Stmt} {dvs : List V} {N ps : List Str} {fd : FuncData} {mb : MS}
/-- the context of the def's body -/
abbrev cxD (P : Program) (w : World) (K : PySem.W.Frag) (mg : Str → Option Value) (base : Heap) (N : List Str) (at_ : Str × Option Str) (qual : Str) (st : Stmt) (cdv : Value) (A : Around) (outer : List Env) (s : Shared) (H : Hp) (E : XK) : Cx := cxOf (L2.CX P w) P w K mg base N qual (defScope st) (He.fAd K at_) cdv A outer s H E
abbrev BodyD (P : Program) (w : World) (K : PySem.W.Frag) (mg : Str → Option Value) (base : Heap) (N : List Str) (k : Nat) (at_ : Str × Option Str) (qual : Str) (st : Stmt) (mb : MS) : Prop :=
  ∀ (cdv : Value) (A : Around) (outer : List Env) (s : Shared) (H : Hp) (E : XK), (A.deeper (envOfC qual (defScope st) s.heap.objs.size (He.fAd K at_) cdv)).guards = some [] → Room k (A.deeper (envOfC qual (defScope st) s.heap.objs.size (He.fAd K at_) cdv)) → cdv = .ref (He.codeOf K at_) →
    TkE (cxD P w K mg base N at_ qual st cdv A outer s H (lkX E)) (lkX E) → JSs (cxD P w K mg base N at_ qual st cdv A outer s H (lkX E)) (lkX E) (defBody st) mb
theorem tkD {cdv : Value} {A : Around} {outer : List Env} {s : Shared} {H : Hp} {E : XK} : TkE (cxD P w K mg base N at_ qual st cdv A outer s H E) E := takes_of (X := cxD P w K mg base N at_ qual st cdv A outer s H E) rfl rfl rfl rfl
theorem code_at (hlk : ∃ oc od osl fd', K.lookup (He.fAd K at_) = some ⟨oc, od, .func fd', osl⟩ ∧ fd'.code = fd.code) (hcd : PySem.W.codeIn K fd.code qual = true) : fd.code = .ref (He.codeOf K at_) := by
  obtain ⟨oc, od, osl, fd', lk, e⟩ := hlk
  obtain ⟨c, hc⟩ := He.codeIn_ref hcd
  rw [He.codeOf_eq (p := at_) lk (e.trans hc)]
  exact hc
theorem body_of {g : GL} (F : FunD K nm qual (defArgs st) (defBody st) (defScope st) dvs [] (He.fAd K at_) fd) (S : FnScope N ps (defScope st)) (hbody : BodyD P w K mg base N k at_ qual st mb)
    (hend : ∀ {vs : List V} {H : Hp} {Q : VK} {E : XK}, spM ⟨K, w⟩ ps.length g vs H Q E → tMS ⟨K, w⟩ (lkX E) mb (endD Q) (L2.start N vs) H) : DefM P w K mg base (k + 1) (He.fAd K at_) fd ps (arO ps.length g) := by
  refine FnG.of F S spM_len fun cdv A outer s H vs Q E hG hr hlk hcd hsp => ⟨tMS ⟨K, w⟩ (lkX E) mb, hbody cdv A outer s H E hG hr ?_ tkD, hend (spM_ar hsp)⟩
  obtain ⟨oc, od, osl, fd', lk, e⟩ := hlk
  obtain ⟨c, hc⟩ := He.codeIn_ref hcd
  rw [He.codeOf_eq (p := at_) lk (e.trans hc)]
  exact hc
theorem defP [KpR mb] (F : ∃ fd, FunD K nm qual (defArgs st) (defBody st) (defScope st) dvs [] (He.fAd K at_) fd) (S : FnScope N ps (defScope st)) (n : Nat) (hn : N.length = n) (hbody : BodyD P w K mg base N k at_ qual st mb) :
    DefK P w K mg base (k + 1) at_ nm qual st dvs ps (arO ps.length (fnP n mb)) := by
  obtain ⟨fd, F⟩ := F
  exact ⟨⟨fd, F, body_of F S hbody fun h => body_P hn h⟩, arO_ar _ _⟩
theorem defK (F : ∃ fd, FunD K nm qual (defArgs st) (defBody st) (defScope st) dvs [] (He.fAd K at_) fd) (S : FnScope N ps (defScope st)) (n : Nat) (hn : N.length = n) (hbody : BodyD P w K mg base N k at_ qual st mb) :
    DefK P w K mg base (k + 1) at_ nm qual st dvs ps (arO ps.length (fnK n mb)) := by
  obtain ⟨fd, F⟩ := F
  exact ⟨⟨fd, F, body_of F S hbody fun h => body_K hn h⟩, arO_ar _ _⟩
/-- a def that is worth nothing yet -/
theorem def0 (F : ∃ fd, FunD K nm qual (defArgs st) (defBody st) (defScope st) dvs [] (He.fAd K at_) fd) (k : Nat) : DefK P w K mg base k at_ nm qual st dvs ps (fun _ _ => .bad) := by
  obtain ⟨fd, F⟩ := F
  refine ⟨⟨fd, F, ⟨spM_len, fun A outer s H args us vs Q E _ _ _ _ _ h => ?_⟩⟩, fun ts μ h => absurd rfl h⟩
  obtain ⟨_, W, μ, ts, _, _, q⟩ := h
  exact q.elim
/-- .. of a given function object -/
theorem defKf (F : FunD K nm qual (defArgs st) (defBody st) (defScope st) dvs [] (He.fAd K at_) fd) (S : FnScope N ps (defScope st)) (n : Nat) (hn : N.length = n) (hbody : BodyD P w K mg base N k at_ qual st mb) :
    DefM P w K mg base (k + 1) (He.fAd K at_) fd ps (arO ps.length (fnK n mb)) := body_of F S hbody fun h => body_K hn h
/-- how a def without defaults binds as many values as it has parameters -/
abbrev BindF (nm qual : Str) (st : Stmt) (ps : List Str) : Prop := ∀ (kV doc pm : Value) (an : Option Addr) (cdv ct : Value) (us : List Value), us.length = ps.length → bindArgs (PySem.W.fnOf nm qual (defArgs st) (defBody st) (defScope st) .none kV doc pm an cdv ct) ⟨us, []⟩ = pure (ps.zip us)
/-- .. n values, the defaults behind the first j -/
abbrev BindD (nm qual : Str) (st : Stmt) (ps : List Str) (l n j : Nat) : Prop := ∀ (T : Addr) (kV doc pm : Value) (an : Option Addr) (cdv ct : Value) (us its : List Value), us.length = n → its.length = l →
  ∃ k, bindArgs (PySem.W.fnOf nm qual (defArgs st) (defBody st) (defScope st) (.ref T) kV doc pm an cdv ct) ⟨us, []⟩ = seqItems? (.ref T) >>= k ∧ k (some its.toArray) = pure (ps.zip (us ++ its.drop j))
theorem FunD.bindsN' (F : FunD K nm qual (defArgs st) (defBody st) (defScope st) [] [] (He.fAd K at_) fd) (hb : BindF nm qual st ps) : Binds K fd ps [] := by
  obtain ⟨oc, od, dV, kV, doc, pm, an, cdv, ct, osl, rfl, lk, hcd, hD, hK⟩ := F.ex
  rcases hD with ⟨_, rfl⟩ | ⟨e, _⟩
  · exact Binds.all fun us hl => hb kV doc pm an cdv ct us hl
  · exact absurd rfl e
theorem bnd0 {g : GL} (D : DefK P w K mg base k at_ nm qual st [] ps g) (hb : BindF nm qual st ps) : Bnd P w K mg base k (He.fAd K at_) ps.length [] g := by
  obtain ⟨fd, F, G⟩ := D.ex
  exact ⟨fd, ps, [], [], G, D.ar, Mr.FunD.bindsN' F hb, .nil, fun _ _ => .nil, F.kp⟩
theorem bndD {g : GL} {tds : List T} (D : DefK P w K mg base k at_ nm qual st dvs ps g) (n j : Nat) (hd : dvs ≠ []) (hn : n + (dvs.length - j) = ps.length) (hb : BindD nm qual st ps dvs.length n j) (hT : ∀ H W, RpL ⟨K, w⟩ H W tds (dvs.drop j)) : Bnd P w K mg base k (He.fAd K at_) n tds g := by
  obtain ⟨fd, F, G⟩ := D.ex
  obtain ⟨ds, h1, h2⟩ := F.binds1 n j hd hn hb
  exact ⟨fd, ps, _, ds, G, D.ar, h2, h1, hT, F.kp⟩
end
section
variable {X : Cx} {E : XK} {k n : Nat} {at_ : Str × Option Str} {nm qual : Str} {st : Stmt} {dvs : List V} {ps : List Str} {g : GL} {tds : List T} {x : Str} {f : Addr} {p pos : Pos} {e : Expr} {es : List Expr} {ma : MA}
theorem je_callD (tk : TkE X E) (hG : X.A.guards = some []) (hr : Room k X.A) (hg : Gl X x) (hm : X.mg x = some (.ref f)) (B : Bnd X.prog X.w X.K X.mg X.base k f n tds g) (ha : JA X E (e :: es) ma) (hdb : (x == ("__debug__" : Str)) = false := by decide)
    (he : starEach (e :: es) X.env = (false, eval e X.env) :: starEach es X.env := by rfl) (hpl : (backTo pos (starEach es X.env)).any (·.1) = false := by rfl) : JE X E (.Call (.Name x p) (e :: es) [] pos) (mCall g tds ma) := by
  obtain ⟨fd, ps, dvs, ds, G, har, hb, hd, hT, hk⟩ := B.ex
  exact je_call G har tk hG hr hg hm hk hb hd hT ha hdb he hpl
theorem je_callD0 (tk : TkE X E) (hG : X.A.guards = some []) (hr : Room k X.A) (hg : Gl X x) (hm : X.mg x = some (.ref f)) (B : Bnd X.prog X.w X.K X.mg X.base k f n tds g) (hdb : (x == ("__debug__" : Str)) = false := by decide) : JE X E (.Call (.Name x p) [] [] pos) (mCall g tds mNil) := by
  obtain ⟨fd, ps, dvs, ds, G, har, hb, hd, hT, hk⟩ := B.ex
  exact je_call0 G har tk hG hr hg hm hk hb hd hT hdb
abbrev BindKF (nm qual : Str) (st : Stmt) (ps : List Str) (n : Nat) (ks : List Str) (ix : List Nat) : Prop := ∀ (kV doc pm : Value) (an : Option Addr) (cdv ct : Value) (us ws : List Value), us.length = n → ws.length = ks.length →
  bindArgs (PySem.W.fnOf nm qual (defArgs st) (defBody st) (defScope st) .none kV doc pm an cdv ct) ⟨us, ks.zip ws⟩ = pure (ps.zip (pickL ix (us ++ ws)))
theorem je_callDK {n : Nat} {ks : List Str} {ix : List Nat} {kws : List Keyword} {mk : MA} (tk : TkE X E) (hG : X.A.guards = some []) (hr : Room k X.A) (hg : Gl X x) (hm : X.mg x = some (.ref (He.fAd X.K at_))) (D : DefK X.prog X.w X.K X.mg X.base k at_ nm qual st [] ps g) (hb : BindKF nm qual st ps n ks ix) (ha : JA X E (e :: es) ma) (hkw : JK X E kws mk)
    (hall : (backToKw pos (keywordEach kws X.env)).all (·.1.isSome) = true := by rfl) (hks : (backToKw pos (keywordEach kws X.env)).filterMap (·.1) = ks := by rfl) (hdb : (x == ("__debug__" : Str)) = false := by decide)
    (he : starEach (e :: es) X.env = (false, eval e X.env) :: starEach es X.env := by rfl) (hpl : ((backTo pos (starEach (e :: es) X.env)).any (·.1) || (backToKw pos (keywordEach kws X.env)).any (·.1.isNone)) = false := by rfl) :
    JE X E (.Call (.Name x p) (e :: es) kws pos) (mCallK n ks.length ix g ma mk) := by
  obtain ⟨fd, F, G⟩ := D.ex
  exact je_callK G D.ar tk hG hr hg hm F.kp (kbn_ix F n ks ix hb) ha hkw hall hks hdb he hpl
theorem je_callDK0 {ks : List Str} {ix : List Nat} {kws : List Keyword} {mk : MA} (tk : TkE X E) (hG : X.A.guards = some []) (hr : Room k X.A) (hg : Gl X x) (hm : X.mg x = some (.ref (He.fAd X.K at_))) (D : DefK X.prog X.w X.K X.mg X.base k at_ nm qual st [] ps g) (hb : BindKF nm qual st ps 0 ks ix) (hkw : JK X E kws mk)
    (hall : (backToKw pos (keywordEach kws X.env)).all (·.1.isSome) = true := by rfl) (hks : (backToKw pos (keywordEach kws X.env)).filterMap (·.1) = ks := by rfl) (hdb : (x == ("__debug__" : Str)) = false := by decide)
    (hpl : ((backTo pos (starEach [] X.env)).any (·.1) || (backToKw pos (keywordEach kws X.env)).any (·.1.isNone)) = false := by rfl) :
    JE X E (.Call (.Name x p) [] kws pos) (mCallK 0 ks.length ix g mNil mk) := by
  obtain ⟨fd, F, G⟩ := D.ex
  exact je_callK0 G D.ar tk hG hr hg hm F.kp (kbn_ix F 0 ks ix hb) hkw hall hks hdb hpl
end
theorem unitsOf {A : Around} {k : Nat} (hr : Room k A) : A.units + 80 < cLine := by
  have := hr.un
  omega
theorem unitsOf64 {A : Around} {k : Nat} (hr : Room k A) : A.units + 64 < cLine := by
  have := hr.un
  omega
/-- name = [..], the name taken by a block within -/
theorem sw_cell {elt : Expr} {gs : List Comprehension} {scope : Scope} {pos py : Pos} {y : Str} {l : Nat} {env : Env} (hk : env.scope.kind = .function) (hy : env.scope.names.lookup y = some .cell) : swapsWith (.ListComp elt gs scope pos) (some (.Name y py)) l env = pure false := by
  have ky : env.kindOf y = some .cell := hy
  unfold swapsWith
  simp only [ky]
  have e : ((some NameKind.cell : Option NameKind) == some NameKind.local) = false := by decide
  rw [e, Bool.and_false, Bool.false_and, Bool.false_and] <;> rfl
end Mr

namespace Mr
open PySem PySem.Spec PyProof.Rows L2

/-! ### enumerate over a tuple -/
theorem meets_enum1 {v : Value} {o : Obj} {H : Heap → Prop} (B : Begins v o H) :
    Meets (Builtin.«enumerate.__new__» ⟨[.type "enumerate", v], []⟩) (fun _ R s => H s.heap ∧
      R (.ok (.ret (.ref (s.heap.push o).objs.size))) { s with heap := (s.heap.push o).push { cls := .type "enumerate", data := .fields #[.none, .bool false, .ref s.heap.objs.size, rawInt 0, .none, .none] } }) :=
  .of_wp fun prog w A R s h => by
    obtain ⟨hp, g, d, tk, os⟩ := s
    obtain ⟨h1, h⟩ := h
    have hsub := sub_enumerate
    have begin_ : ∀ {A' : Around} {E : Value → Shared → Prop} {Q : Value → Shared → Prop}, Q (.ref hp.objs.size) ⟨hp.push o, g, d, tk, os⟩ → wpAny (model prog w) A' (pyIter v) Q E ⟨hp, g, d, tk, os⟩ :=
      fun q => B.iter prog w _ _ ⟨hp, g, d, tk, os⟩ _ h1 q
    wp_walk using begin_
    first
      | exact ⟨_, rfl, h⟩
      | (refine wpAny_stack_any fun st => wpAny_pure ?_
         split
         · rename_i c _ _ _ _ _
           cases (c == Value.type "enumerate")
           · wp_walk using begin_
             exact ⟨_, rfl, h⟩
           · wp_walk using begin_
             exact ⟨_, rfl, h⟩
         · wp_walk using begin_
           exact ⟨_, rfl, h⟩)
theorem enum_begins1 {prog : Program} {w : World} {A : Around} {E : Value → Shared → Prop} {s : Shared} {v : Value} {o : Obj} {H : Heap → Prop} {Q : Value → Shared → Prop} (B : Begins v o H) (h1 : H s.heap)
    (h : ∀ h', IsEnum h' (s.heap.objs.size + 1) s.heap.objs.size 0 .none → h'.get? s.heap.objs.size = some o → (∀ b o, s.heap.get? b = some o → h'.get? b = some o) → Q (.ref (s.heap.objs.size + 1)) { s with heap := h' }) :
    wpAny (model prog w) A (call (.type "enumerate") [v]) Q E s := by
  refine callType_new F.called_enumerate (by decide) (F.typeCall_enumerate_1 _) (F.newCall_enumerate_1 _) (fun obj => F.args_object_init_2 obj _) F.entry_enumerate_new (meets_enum1 B) ⟨h1, ?_⟩
  have hz : (s.heap.push o).objs.size = s.heap.objs.size + 1 := Heap.size_push ..
  have he : IsEnum ((s.heap.push o).push { cls := .type "enumerate", data := .fields #[.none, .bool false, .ref s.heap.objs.size, rawInt 0, .none, .none] }) (s.heap.objs.size + 1) s.heap.objs.size 0 .none := by
    have q := Heap.get?_push_size (s.heap.push o) (o := { cls := .type "enumerate", data := .fields #[.none, .bool false, .ref s.heap.objs.size, rawInt 0, .none, .none] }) rfl
    rw [hz] at q
    exact q
  show _ ∧ _
  rw [hz]
  exact ⟨⟨_, he, rfl⟩, h _ he (Heap.get?_push_of_some _ (Heap.get?_push_size _ B.free)) fun b o x => Heap.get?_push_of_some _ (Heap.get?_push_of_some _ x)⟩
/-- the tuple at a, each item in a new pair -/
def IteT (K : PySem.W.Frag) (a : Addr) : It :=
  ⟨fun i H => ∃ (xs : List V) (x : V), SqT K H a xs ∧ xs[i]? = some x, fun i H v H' => ∃ T x, v = .ref T ∧ H T = none ∧ H' = upd H T (.tup [.int (i : Nat), x]) ∧ ∀ xs, SqT K H a xs → xs[i]? = some x, fun i H => ∃ xs : List V, SqT K H a xs ∧ xs.length ≤ i⟩
theorem turn_enumT {P : Program} {w : World} {K : PySem.W.Frag} {elts : List Expr} {kk : Nat} {tpos : Pos} (a e it : Addr) :
    Turn P w K (.Tuple elts kk tpos) (IteT K a) [e, it] e (fun i h => (∃ old, IsEnum h e it ((i : Nat) : Int) old) ∧ h.IsTupleIter it a i ∧ e ≠ it ∧ a ≠ it ∧ e ≠ a) where
  mem := by simp
  obj := fun i h st b hb => by
    obtain ⟨⟨old, he⟩, ⟨o, ho, hc, hd⟩, _⟩ := st
    rcases List.mem_cons.mp hb with z | hb
    · rw [z]; exact ⟨_, he, fun v q => nomatch q⟩
    · have z : b = it := by simpa using hb
      rw [z]
      exact ⟨o, ho, fun v q => by rw [hd] at q; cases q⟩
  keep := fun i h h' st k => let ⟨⟨old, he⟩, hi, hne⟩ := st; ⟨⟨old, k e (by simp) _ he⟩, hi.at fun o q => k it (by simp) o q, hne⟩
  item := by
    intro X hP hw hK hc i pins s σ H E I hf st hg
    subst hP hw hK
    obtain ⟨⟨old, he⟩, hit, hne, hat, hea⟩ := st
    obtain ⟨xs, x, hq, hx⟩ := hg
    obtain ⟨its, rv, p, hz⟩ := I.tuple hq
    obtain ⟨u, hu, ru⟩ := rv.get hx
    have p : s.heap.IsTuple a its.toArray := p
    have hel : e < s.heap.objs.size := Heap.lt_size he
    have hil : it < s.heap.objs.size := by obtain ⟨_, q, _⟩ := hit; exact Heap.lt_size q
    have hi : i < its.toArray.size := by simpa using (List.getElem?_eq_some_iff.mp hu).1
    refine wpAny_pyNext_enum_itemD (Draws.tuple (prog := X.prog) (w := X.w) (A := X.A.in1) (show X.A.in1.handled = none from I.ok.hd hc) it a hat its.toArray) he ⟨hit, p⟩ hi hne (by simp [hne, hea]) fun y h' tk hy ho hst hT hsz hk => ?_
    have ey : y = u := by
      have z : its[i]? = some y := by simpa using hy
      rw [hu] at z
      exact (Option.some.inj z).symm
    subst ey
    refine ⟨_, rfl, wpAny_letOwnedTupleGo_enum (s := { s with heap := h', toks := tk + 1 }) ho fun h'' he' sb => ?_⟩
    have hT2 : h''.get? s.heap.objs.size = some { cls := .type "tuple", data := .seq #[.int i tk, y] } := (sb.2 _ (Nat.ne_of_gt hel)).trans hT
    have new : ObjOk X.prog X.w (upd H s.heap.objs.size (.tup [.int (i : Nat), x])) h'' s.heap.objs.size (.tup [.int (i : Nat), x]) :=
      ⟨by show 2 ≤ sizeLine; decide, [.int i tk, y], .cons ⟨_, rfl⟩ (.cons ru .nil), ⟨_, hT2, rfl, _, rfl⟩⟩
    have I1 : Inv X pins σ (upd H s.heap.objs.size (.tup [.int (i : Nat), x])) { s with heap := h'', toks := tk + 1 } :=
      I.turnedNew (ch := [e, it]) (fun b ob hb q => (sb.2 b (fun z => hb (by simp [z]))).trans (hk b ob (fun z => hb (by simp [z])) (fun z => hb (by simp [z])) q)) hf (Nat.le_refl _) new
    refine ⟨.ref s.heap.objs.size, _, I1, rfl, ⟨_, x, rfl, I.hok.fresh (Nat.le_refl _), rfl, fun ys hy => by rw [I.tuple_inj hy hq]; exact hx⟩, ⟨⟨y, ?_⟩, hst.1.at fun o q => (sb.2 it (Ne.symm hne)).trans q, hne, hat, hea⟩, fun b hb => ?_⟩
    · have e1 : ((i + 1 : Nat) : Int) = (i : Int) + 1 := by omega
      rw [e1]
      exact he'
    · have hb' : b < s.heap.objs.size := by
        rcases List.mem_cons.mp hb with z | hb
        · rw [z]; exact hel
        · have z : b = it := by simpa using hb
          rw [z]; exact hil
      rw [upd_ne (Nat.ne_of_lt hb')]
      exact (hf b hb).1
  done := by
    intro X hP hw hK hc i pins s σ H E I hf st hg
    subst hP hw hK
    obtain ⟨⟨old, he⟩, hit, hne, hat, hea⟩ := st
    obtain ⟨xs, hq, hx⟩ := hg
    obtain ⟨its, rv, p, hz⟩ := I.tuple hq
    have p : s.heap.IsTuple a its.toArray := p
    obtain ⟨f0, f1, f2, f3, f4, f5⟩ := hf it (by simp)
    have hl := rv.length
    have hge : its[i]? = none := List.getElem?_eq_none_iff.mpr (by omega)
    have hT : s.TypeIs (.ref e) "enumerate" := ⟨_, he, rfl⟩
    unfold pyNext
    refine wpAny_bind (wpAny_attempt (wpAny_callSpecial?_slot (name := Str.ofString "__next__") hT F.slot_enumerate_next (wpAny_call_entry F.slot_enumerate_next hT F.entry_enumerate_next ?_ (F.args_enumerate_next_1 _))))
    show wpAny _ _ (field (.ref e) 2 >>= _) _ _ _
    refine wpAny_bind (wpAny_field he rfl (x := .ref it) rfl ?_)
    refine wpAny_bind (wpAny_nextOf_tuple_end (I.ok.hd hc) hit p (by simpa using hge) fun h' x he' hx' => ?_)
    obtain ⟨o, ho, hcl⟩ := hx'
    refine wpAny_bind (wpAny_isInstance (T := "StopIteration") (b := true) ⟨o, ho, hcl⟩ isSubtype_stop ?_)
    exact wpAny_pure ⟨rfl, I.turned (t' := s.toks) (fun b o hb q => he' b o hb q) f0 f1 f3 f4 f5⟩
  self := fun A i s Q E st h => let ⟨⟨_, he⟩, _⟩ := st; wpAny_pyIter_enum he h
def iEnumT (K : PySem.W.Frag) (ta : TA) : TI := fun σ H R => ta σ H fun vs H1 => ∃ a xs, vs = [.ref a] ∧ SqT K H1 a xs ∧ R (IteT K a) H1
theorem pi_enumT {X : Cx} {e : Expr} {ta : TA} {p pos tpos : Pos} {elts : List Expr} {kk : Nat} (hg : Gl X "enumerate") (hm : X.mg "enumerate" = none) (ha : PA X [e] ta) (hs : starEach [e] X.env = [(false, eval e X.env)] := by rfl) :
    PI X (.Tuple elts kk tpos) (.Call (.Name "enumerate" p) [e] [] pos) (iEnumT X.K ta) := by
  refine ⟨fun pins s σ H R I h => ?_⟩
  refine Call_ (ld_blt I hg hm boot_enumerate (PyProof.Rows.callWith_type1 (thn (ha.run pos pins s σ H _ I h) fun us s1 ⟨vs, H1, I1, r1, a, xs, ex, hq, q⟩ => ?_) hs rfl))
  subst ex
  cases r1 with
  | cons r rr =>
    cases rr
    cases r
    obtain ⟨its, rv, p', hz⟩ := I1.tuple hq
    have p' : s1.heap.IsTuple a its.toArray := p'
    refine enum_begins1 (begins_tuple a its.toArray) p' fun h' he hit hk => wpAny_pyIter_enum he ?_
    have I2 : Inv X pins σ H1 { s1 with heap := h' } := I1.kept (t' := s1.toks) hk
    have hal : a < s1.heap.objs.size := by obtain ⟨_, q, _⟩ := p'; exact Heap.lt_size q
    have hti : h'.IsTupleIter s1.heap.objs.size a 0 := ⟨_, hit, rfl, by simp⟩
    have hen : ∃ old, IsEnum h' (s1.heap.objs.size + 1) s1.heap.objs.size ((0 : Nat) : Int) old := ⟨.none, he⟩
    have n1 : s1.heap.objs.size + 1 ≠ s1.heap.objs.size := Nat.succ_ne_self _
    have n2 : a ≠ s1.heap.objs.size := Nat.ne_of_lt hal
    have n3 : s1.heap.objs.size + 1 ≠ a := Nat.ne_of_gt (Nat.lt_succ_of_lt hal)
    refine ⟨s1.heap.objs.size + 1, [s1.heap.objs.size + 1, s1.heap.objs.size], _, _, H1, rfl, I2, turn_enumT a (s1.heap.objs.size + 1) s1.heap.objs.size, ⟨hen, hti, n1, n2, n3⟩, fun b hb => ?_, q⟩
    have hle : s1.heap.objs.size ≤ b := by
      rcases List.mem_cons.mp hb with z | hb
      · rw [z]; exact Nat.le_succ _
      · have z : b = s1.heap.objs.size := by simpa using hb
        rw [z]; exact Nat.le_refl _
    exact I1.fpOk hle (I1.hok.fresh hle)

/-! ### lists and tuples as they are walked -/
/-- a is a list that stands behind p -/
def LsAt (K : KW) (p : Wk) (en : Bool) (a : Addr) (H : Hp) (W : Wd) : Prop := ∀ H1 W1 μ ts, Rf H W H1 W1 → Ok K H1 W1 μ → Its p μ ts → ∃ us vs, ts = enB en us ∧ SqL K.K H1 a vs ∧ RpL K H1 W1 us vs
theorem ls_lst {K : KW} {H : Hp} {W : Wd} {a : Addr} {ts : List T} {vs : List V} (en : Bool) (h : LF H W a vs) (r : RpL K H W ts vs) : LsAt K (.fz (enB en ts)) en a H W := fun H1 W1 μ us f k e => ⟨ts, vs, e.symm, (lf_rf f h).sq, r.rf f⟩
theorem ls_kls {K : KW} {H : Hp} {W : Wd} {a : Addr} {ts : List T} {vs : List V} (en : Bool) (h : KF K H a vs) (r : RpL K H W ts vs) : LsAt K (.fz (enB en ts)) en a H W := fun H1 W1 μ us f k e => ⟨ts, vs, e.symm, (kf_rf f h).sq, r.rf f⟩
theorem ls_mr {K : KW} {H : Hp} {W : Wd} {a : Addr} {i : Nat} (en : Bool) (h : W.e[i]? = some a) : LsAt K (.st i en) en a H W := fun H1 W1 μ us f k e => by
  obtain ⟨o, xs, l1, l2, l3⟩ := e
  obtain ⟨b, r⟩ := RpOb.un (k.ob i a _ (f.et i a h) l1)
  have r : RpOb K H1 W1 a b o.un := r
  rw [l2] at r
  obtain ⟨vs, h1, r1⟩ := r
  exact ⟨xs, vs, l3, .inl (.inl h1), r1⟩
theorem yl_ite {K : KW} {p : Wk} {a : Addr} {H : Hp} {W : Wd} (h : LsAt K p true a H W) : Yl K (Ite K.K a) p H W := fun H1 W1 μ ts f k it => by
  obtain ⟨us, vs, rfl, h1, r1⟩ := h H1 W1 μ ts f k it
  have hl : (enT 0 us).length = us.length := enT_len 0 us
  refine ⟨fun i hi => ?_, ⟨vs, h1, by show vs.length ≤ (enT 0 us).length; rw [hl, r1.length]; exact Nat.le_refl _⟩, fun i x H2 t y ht => ?_⟩
  · have hi : i < us.length := by rw [← hl]; exact hi
    obtain ⟨v, hv, _⟩ := r1.get (List.getElem?_eq_getElem hi)
    exact ⟨vs, v, h1, hv⟩
  · obtain ⟨q, v, rfl, hq, rfl, y⟩ := y
    obtain ⟨u, hu, rfl⟩ := enT_get (n := 0) ht
    obtain ⟨w, hw, rw_⟩ := r1.get hu
    have e1 := y vs h1
    rw [hw] at e1
    cases e1
    obtain ⟨f', k'⟩ := k.frozen (o := .tup _) hq
    refine ⟨_, f', k', .tup (.inl (.inl upd_same)) (.cons ?_ (.cons (rw_.fr f') .nil))⟩
    rw [Nat.zero_add]
    exact .int _
theorem yl_iteT {K : KW} {a : Addr} {ts0 : List T} {vs : List V} {H : Hp} {W : Wd} (h : SqT K.K H a vs) (r : RpL K H W ts0 vs) : Yl K (IteT K.K a) (.fz (enT 0 ts0)) H W := fun H1 W1 μ ts f k e => by
  cases e
  have h1 := sqT_rf f h
  have r1 := r.rf f
  have hl : (enT 0 ts0).length = ts0.length := enT_len 0 ts0
  refine ⟨fun i hi => ?_, ⟨vs, h1, by rw [hl, r1.length]; exact Nat.le_refl _⟩, fun i x H2 t y ht => ?_⟩
  · rw [hl] at hi
    obtain ⟨v, hv, _⟩ := r1.get (List.getElem?_eq_getElem hi)
    exact ⟨vs, v, h1, hv⟩
  · obtain ⟨q, v, rfl, hq, rfl, y⟩ := y
    obtain ⟨u, hu, rfl⟩ := enT_get (n := 0) ht
    obtain ⟨w, hw, rw_⟩ := r1.get hu
    have e1 := y vs h1
    rw [hw] at e1
    cases e1
    obtain ⟨f', k'⟩ := k.frozen (o := .tup _) hq
    refine ⟨_, f', k', .tup (.inl (.inl upd_same)) (.cons ?_ (.cons (rw_.fr f') .nil))⟩
    rw [Nat.zero_add]
    exact .int _
def itE (ts : List T) (μ : Mu) : Out Wk := match ts with
  | [.lst us] => .ok (.fz (enT 0 us)) μ
  | [.kls us] => .ok (.fz (enT 0 us)) μ
  | [.tup us] => .ok (.fz (enT 0 us)) μ
  | [.mr i] => match rdM μ i with
    | some (.lst _) => .ok (.st i true) μ
    | _ => .bad
  | _ => .bad
instance : KpL itE := ⟨fun ts μ => by unfold itE; (repeat (first | exact Lk.refl | exact True.intro | split))⟩
theorem ji_enum {X : Cx} {E : XK} {e : Expr} {mm : MA} {elts : List Expr} {kk : Nat} {p pos tpos : Pos} (hg : Gl X "enumerate") (hm : X.mg "enumerate" = none) (ha : JA X E [e] mm) (hs : starEach [e] X.env = [(false, eval e X.env)] := by rfl) :
    JI X E (.Tuple elts kk tpos) (.Call (.Name "enumerate" p) [e] [] pos) (mIt mm itE) := PI_imp (PI_or (pi_enum hg hm ha hs) (pi_enumT hg hm ha hs)) fun σ H R ⟨W, ρ, μ, k, st, q⟩ => by
  have q : PoI (kwOf X) E H W R ((mm ρ μ).bind itE) := q
  cases hmm : mm ρ μ with
  | bad => rw [hmm] at q; exact q.elim
  | exc x m => rw [hmm] at q; exact .inl ⟨W, ρ, μ, k, st, by rw [hmm]; exact q⟩
  | ok ts μ1 =>
    rw [hmm] at q
    have q' : PoI (kwOf X) E H W R (itE ts μ1) := q
    unfold itE at q'
    split at q'
    · rename_i us
      refine .inl ⟨W, ρ, μ, k, st, ?_⟩
      rw [hmm]
      intro H1 W1 vs f1 k1 r1
      cases r1 with
      | cons r1 rl =>
        cases rl
        cases r1 with
        | lst h1 h2 => exact ⟨_, _, rfl, h1.sq, q' H1 W1 _ f1 k1 (yl_ite (ls_lst true h1 h2))⟩
    · rename_i us
      refine .inl ⟨W, ρ, μ, k, st, ?_⟩
      rw [hmm]
      intro H1 W1 vs f1 k1 r1
      cases r1 with
      | cons r1 rl =>
        cases rl
        cases r1 with
        | kls h1 h2 => exact ⟨_, _, rfl, h1.sq, q' H1 W1 _ f1 k1 (yl_ite (ls_kls true h1 h2))⟩
    · rename_i us
      refine .inr ⟨W, ρ, μ, k, st, ?_⟩
      rw [hmm]
      intro H1 W1 vs f1 k1 r1
      cases r1 with
      | cons r1 rl =>
        cases rl
        cases r1 with
        | tup h1 h2 => exact ⟨_, _, rfl, h1, q' H1 W1 _ f1 k1 (yl_iteT h1 h2)⟩
    · rename_i i
      split at q'
      · rename_i us hrd
        refine .inl ⟨W, ρ, μ, k, st, ?_⟩
        rw [hmm]
        intro H1 W1 vs f1 k1 r1
        cases r1 with
        | cons r1 rl =>
          cases rl
          cases r1 with
          | @mr _ a h1 =>
            obtain ⟨b, vs, z1, z2⟩ := k1.rd h1 hrd
            exact ⟨a, vs, rfl, .inl (.inl z1), q' H1 W1 _ f1 k1 (yl_ite (ls_mr true h1))⟩
      · exact q'.elim
    · exact q'.elim
/-! ### the signs of a text -/
def sgT (x : List Nat) : List T := x.map fun c => T.str [c]
theorem yl_its {K : KW} {x : List Nat} {H : Hp} {W : Wd} : Yl K (L2.Its ⟨x.toArray⟩) (.fz (sgT x)) H W := fun H1 W1 μ ts f k e => by
  cases e
  have hl : (sgT x).length = x.length := List.length_map _
  refine ⟨fun i hi => ?_, ?_, fun i y H2 t hy ht => ?_⟩
  · show i < x.toArray.size
    rw [hl] at hi
    simpa using hi
  · show x.toArray.size ≤ (sgT x).length
    rw [hl]
    simp
  · obtain ⟨rfl, c, hc, rfl⟩ := hy
    have hc : x[i]? = some c := by simpa using hc
    unfold sgT at ht
    rw [List.getElem?_map, hc] at ht
    cases ht
    exact ⟨W1, Fr.refl, k, .str [c]⟩
def itS2 (t : T) (μ : Mu) : Out Wk := match t with
  | .str x => .ok (.fz (sgT x)) μ
  | t => itS t μ
instance : KpL itS2 := ⟨fun t μ => by unfold itS2; (repeat (first | exact Lk.refl | exact True.intro | exact KpL.kp _ _ | split))⟩
def mItS2 (m : ME) : MI := fun ρ μ => (m ρ μ).bind itS2
instance {m : ME} [hm : KpR m] : KpR (mItS2 m) := ⟨fun ρ μ => (hm.kp ρ μ).bind fun _ _ _ => KpL.kp _ _⟩
theorem ji_seq2 {X : Cx} {E : XK} {tg a : Expr} {ma : ME} (h : JE X E a ma) : JI X E tg a (mItS2 ma) := PI_imp (PI_or (pi_str h) (ji_seq h)) fun σ H R ⟨W, ρ, μ, k, st, q⟩ => by
  have q : PoI (kwOf X) E H W R ((ma ρ μ).bind itS2) := q
  cases hm : ma ρ μ with
  | bad => rw [hm] at q; exact q.elim
  | exc x m => rw [hm] at q; exact .inl ⟨W, ρ, μ, k, st, by rw [hm]; exact q⟩
  | ok t μ1 =>
    rw [hm] at q
    have q' : PoI (kwOf X) E H W R (itS2 t μ1) := q
    unfold itS2 at q'
    split at q'
    · rename_i x
      refine .inl ⟨W, ρ, μ, k, st, ?_⟩
      rw [hm]
      intro H1 W1 v f1 k1 r1
      cases r1
      exact ⟨_, rfl, q' H1 W1 _ f1 k1 yl_its⟩
    · refine .inr ⟨W, ρ, μ, k, st, ?_⟩
      show PoI (kwOf X) E H W R ((ma ρ μ).bind itS)
      rw [hm]
      exact q'
end Mr

namespace Mr
open PySem PySem.Spec PyProof.Rows L2

/-! ### an own exception whose __init__ says super().__init__(a, ..); self.a = a; .. -/
inductive NamesOf : List Str → List Expr → Prop
  | nil : NamesOf [] []
  | cons {f : Str} {p : Pos} {fs : List Str} {es : List Expr} : NamesOf fs es → NamesOf (f :: fs) (.Name f p :: es)
inductive StoresOf : List Str → List Stmt → Prop
  | nil : StoresOf [] []
  | cons {f : Str} {p1 p2 p3 p4 : Pos} {fs : List Str} {ss : List Stmt} : StoresOf fs ss → StoresOf (f :: fs) (.Assign [.Attribute (.Name "self" p1) f p2] (.Name f p3) p4 :: ss)
/-- the call's own equation -/
def SupCall (p0 p1 p2 p3 : Pos) (args : List Expr) : Prop := ∀ env : Env, ∃ pl : Sem Bool, eval (.Call (.Attribute (.Call (.Name "super" p0) [] [] p1) "__init__" p2) args [] p3) env = (do
  let ov ← attributeBase (.Call (.Name "super" p0) [] [] p1) "__init__" env (eval (.Call (.Name "super" p0) [] [] p1) env)
  standAt p2.atName
  let (f, first) ← holding [ov] (getMethod ov "__init__" pl)
  callWith p3 f first (backTo p3 (starEach args env)) [])
def InitBody (fs : List Str) (b : List Stmt) : Prop := ∃ p0 p1 p2 p3 p4 args ss, b = .Expr (.Call (.Attribute (.Call (.Name "super" p0) [] [] p1) "__init__" p2) args [] p3) p4 :: ss ∧ NamesOf fs args ∧ StoresOf fs ss ∧ SupCall p0 p1 p2 p3 args
structure InitScope (fs : List Str) (sc : Scope) : Prop where
  kind : sc.kind = .function
  co : sc.isCoroutine = false
  gen : sc.isGenerator = false
  nc : ∀ y ∈ sc.names, y.2 ≠ .cell
  sup : sc.names.lookup ("super" : Str) = some .globalImplicit
  cls : sc.names.lookup ("__class__" : Str) = some .free
  loc : ∀ f ∈ ("self" : Str) :: fs, sc.names.lookup f = some .local ∧ (f == ("__debug__" : Str)) = false
/-- what is known of the class at C and its __init__, whose parameters behind self are fs -/
structure ExS (P : Program) (K : PySem.W.Frag) (C : Addr) (fs : List Str) : Prop where
  o : OexC K C
  noat : ∀ f ∈ fs, PySem.W.findIn K (.ref C) f = some none
  nd : (("self" : Str) :: fs).Nodup
  few : fs.length ≤ 800
  ne : fs ≠ []
  ini : ∃ (fI cc cda : Addr) (oc : Value) (od : Option Addr) (osl : Array (Option Value)) (qual : Str) (params : Arguments) (body : List Stmt) (scope : Scope) (kV doc pm : Value) (an : Option Addr) (ct : Value),
    PySem.W.findIn K (.ref C) "__init__" = some (some (.ref fI)) ∧ PySem.W.typeIn K (.ref fI) = some (.type "function") ∧
    K.lookup fI = some ⟨oc, od, .func (PySem.W.ksFn "__init__" qual params body scope .none kV doc pm an (.ref cda) ct cc), osl⟩ ∧ PySem.W.codeIn K (.ref cda) qual = true ∧
    (∃ (ocl : Value) (ocd : Option Addr) (vs : Array Value) (ocs : Array (Option Value)) (file : Str) (tf : Tok), K.lookup cda = some ⟨ocl, ocd, .fields vs, ocs⟩ ∧ vs[2]? = some (.str file tf) ∧ ((P.main.file : Str) == file) = true) ∧
    (∃ (l : Value) (ld : Option Addr) (ls : Array (Option Value)), K.lookup cc = some ⟨l, ld, .cell (some (.ref C)), ls⟩) ∧
    InitBody fs body ∧ InitScope fs scope ∧ (∃ ar, (params.posonlyargs ++ params.args).head? = some ar ∧ ar.arg = "self") ∧
    (∀ us : List Value, us.length = fs.length + 1 → bindArgs (PySem.W.ksFn "__init__" qual params body scope .none kV doc pm an (.ref cda) ct cc) ⟨us, []⟩ = pure ((("self" : Str) :: fs).zip us))
  top : (P.main.scope.names.lookup ("super" : Str)).isSome = false
  any : PySem.W.nsIn K PySem.cStatics "thirdparty.any" = some none
  sub : PySem.W.mroIn K C (.ref C) = some true
  sup : PySem.W.ks_superIn K C C "__init__" = some (some (.builtin "ValueError.__init__"))
  ve : PySem.W.subIn K (.ref C) (.type "ValueError") = some true

abbrev excD (C t : Addr) (d : Option Addr) : Obj := { cls := .ref C, dict := d, data := .fields #[.ref t, .none, .none, .none, .bool false, .none] }
section
open Builtin Builtin.ObjectAttr PySem.HandSPX
variable {prog : Program} {w : World} {A : Around} {E : Value → Shared → Prop} {h : Heap} {g : Array GenState} {d : Drawn} {t : Nat} {os : OsState}
/-- the names, loaded one behind another -/
theorem names_load {env : Env} {m : Str → Option Value} {s : Shared} {pos : Pos} {M : Model} (hk : env.scope.kind = .function) : ∀ {fs : List Str} {es : List Expr} {us : List Value} {Q : List Value → Shared → Prop}, NamesOf fs es →
    (∀ f ∈ fs, env.kindOf f = some .local ∧ (f == ("__debug__" : Str)) = false) → s.heap.Ns env.locals m → fs.map m = us.map some → Q us s → wpAny M A (spliced (backTo pos (starEach es env))) Q E s
  | _, _, us, Q, .nil, _, _, hm, hq => by
    cases us with
    | nil => exact Calls.spliced_nil hq
    | cons u us => cases hm
  | _, _, us, Q, .cons (f := f) (p := p) (fs := fs) (es := es) r, hl, hn, hm, hq => by
    cases us with
    | nil => cases hm
    | cons u us =>
      have e1 : m f = some u := (List.cons.inj hm).1
      have e2 : fs.map m = us.map some := (List.cons.inj hm).2
      obtain ⟨l1, l2⟩ := hl f List.mem_cons_self
      show wpAny M A (spliced ((false, _) :: backTo pos (starEach es env))) Q E s
      refine Calls.spliced_cons ?_
      refine wpAny_Name (wpAny_loadName_local hk l1 hn e1 ?_) l2
      exact names_load hk r (fun f hf => hl f (List.mem_cons_of_mem _ hf)) hn e2 hq
/-- one store behind another: at x an exception with its dict (none as yet | at dx, holding m0) -/
def AtX (h : Heap) (x C t1 : Addr) : Option (Addr × (Str → Option Value)) → Prop
  | none => h.get? x = some (excD C t1 none)
  | some (dx, m0) => h.get? x = some (excD C t1 (some dx)) ∧ h.Ns1 dx m0
def baseM : Option (Addr × (Str → Option Value)) → (Str → Option Value)
  | none => fun _ => none
  | some p => p.2
def putM (m0 : Str → Option Value) (f : Str) (u : Value) : Str → Option Value := fun y => if y = f then some u else m0 y
theorem store_one {K : PySem.W.Frag} {C x t1 : Addr} {f : Str} {u : Value} {od : Option (Addr × (Str → Option Value))} {nl : List Str} {Q : Unit → Shared → Prop} (T : OexC K C) (X : K.In h) (hno : PySem.W.findIn K (.ref C) f = some none)
    (ha : AtX h x C t1 od) (hw : ∀ p, od = some p → Within p.2 nl ∧ nl.length ≤ 1000)
    (hq : ∀ h' tk dx, (∀ b o, b ≠ x → (∀ p, od = some p → b ≠ p.1) → h.get? b = some o → h'.get? b = some o) → (od = none → h.objs.size ≤ dx) → (∀ p, od = some p → dx = p.1) → dx ≠ x → AtX h' x C t1 (some (dx, putM (baseM od) f u)) → Q () ⟨h', g, d, tk, os⟩) :
    wpAny (model prog w) A (setAttr (.ref x) f u) Q E ⟨h, g, d, t, os⟩ := by
  obtain ⟨nm, q, N, bs, bm, sn, sub, ab, col, dd, k0, k1, k2, k3, k5, hC, hbm⟩ := T.cls
  have hcl : PySem.W.clsIn K C = some { name := nm, bases := bs, mro := .ref C :: bm, ns := N, qualname := q, hasDict := true, slotNames := sn, subclasses := sub, abstract := ab, collection := col, hasDel := false } := by unfold PySem.W.clsIn; rw [hC] <;> rfl
  cases od with
  | none =>
    refine PySem.W.set_plain X (ox := excD C t1 none) (od := none) ⟨ha, rfl, rfl, trivial⟩ T.sa ?_
    refine PySem.HandSPX.exc_osa X ha hcl (show PySem.HandSPX.refsVE (.ref C :: bm) = true from hbm) rfl hno (fun h' tk' dx k dn dne hx hn => ?_)
    exact hq h' tk' dx (fun b o hb _ e => k b o hb e) (fun _ => dn) (fun p e => nomatch e) dne ⟨hx, hn⟩
  | some p =>
    obtain ⟨dx, m0⟩ := p
    obtain ⟨hx, hns⟩ := ha
    obtain ⟨hw1, hw2⟩ := hw _ rfl
    obtain ⟨oD, esD, epD, hoD, hdD, _⟩ := hns.count hw1
    have dne : dx ≠ x := fun z => by
      rw [z, hx] at hoD
      cases hoD
      cases hdD
    refine PySem.W.set_plain X (ox := excD C t1 (some dx)) (od := some oD) ⟨hx, rfl, rfl, hoD⟩ T.sa ?_
    refine PySem.OEX.osa_old X hx hns hw1 hw2 hcl (show PySem.HandSPX.refsVE (.ref C :: bm) = true from hbm) rfl hno (fun h' tk' k hn => ?_)
    exact hq h' tk' dx (fun b o _ hb e => k b o (hb _ rfl) e) (fun z => nomatch z) (fun p e => by cases e; rfl) dne ⟨k x _ dne.symm hx, hn⟩
def foldM (m0 : Str → Option Value) : List Str → List Value → (Str → Option Value)
  | f :: fs, u :: us => foldM (putM m0 f u) fs us
  | _, _ => m0
/-- what the stores leave -/
def Left (B h' : Heap) (x C t1 : Addr) (od od' : Option (Addr × (Str → Option Value))) (fs : List Str) (us : List Value) : Prop :=
  B.StaysIn h' ∧ AtX h' x C t1 od' ∧ ((fs = [] ∧ od' = od) ∨ ∃ dx, od' = some (dx, foldM (baseM od) fs us) ∧ B.get? dx = none ∧ dx ≠ x)
theorem stores_run {K : PySem.W.Frag} {C x t1 L : Addr} {env : Env} {B : Heap} {m : Str → Option Value} {Q : Flow → Shared → Prop} (T : OexC K C) (KB : K.In B) (hxB : B.get? x = none) (hN : B.Ns L m) (hL : env.locals = L) (hk : env.scope.kind = .function)
    (hself : env.kindOf "self" = some .local) (mself : m "self" = some (.ref x)) : ∀ {fs : List Str} {ss : List Stmt} {us : List Value} {h : Heap} {t : Nat} {od : Option (Addr × (Str → Option Value))} {nl : List Str}, StoresOf fs ss →
    (∀ f ∈ fs, env.kindOf f = some .local ∧ (f == ("__debug__" : Str)) = false) → (∀ f ∈ fs, PySem.W.findIn K (.ref C) f = some none) → fs.map m = us.map some → B.StaysIn h → AtX h x C t1 od → (∀ p, od = some p → B.get? p.1 = none) →
    (∀ p, od = some p → Within p.2 nl) → nl.length + fs.length ≤ 1000 →
    (∀ h' tk od', Left B h' x C t1 od od' fs us → Q .next ⟨h', g, d, tk, os⟩) → wpAny (model prog w) A (execs ss env) Q E ⟨h, g, d, t, os⟩
  | _, _, us, h, t, od, nl, .nil, _, _, hm, hB, ha, hd, hw, hl, hq => by
    exact wpAny_execs_nil (hq h t od ⟨hB, ha, .inl ⟨rfl, rfl⟩⟩)
  | _, _, us, h, t, od, nl, .cons (f := f) (p1 := p1) (p2 := p2) (p3 := p3) (p4 := p4) (fs := fs) (ss := ss) r, hloc, hno, hm, hB, ha, hd, hw, hl, hq => by
    cases us with
    | nil => cases hm
    | cons u us =>
      have e1 : m f = some u := (List.cons.inj hm).1
      have e2 : fs.map m = us.map some := (List.cons.inj hm).2
      obtain ⟨l1, l2⟩ := hloc f List.mem_cons_self
      have hN' : h.Ns env.locals m := by rw [hL]; exact hN.keeps hB
      refine wpAny_execs_cons (plainObj_wpAny_Assign_Attribute (wpAny_Name (wpAny_loadName_local hk l1 hN' e1 ?_) l2))
      refine wpAny_Name (wpAny_loadName_local hk hself hN' mself ?_)
      refine store_one (nl := nl) (od := od) (t1 := t1) T (fun b o e => hB b o (KB b o e)) (hno f List.mem_cons_self) ha (fun p e => ⟨hw p e, by omega⟩) fun h' tk dx k1 k2 k3 k4 k5 => ?_
      have dxB : B.get? dx = none := by
        cases od with
        | none =>
          have hs := k2 rfl
          cases z : B.get? dx with
          | none => rfl
          | some o =>
            have y := Heap.lt_size (hB _ _ z)
            exact absurd y (Nat.not_lt.mpr hs)
        | some p =>
          rw [k3 p rfl]
          exact hd p rfl
      have hB' : B.StaysIn h' := fun b o e => k1 b o (fun z => by rw [z, hxB] at e; cases e) (fun p ep z => by rw [z, hd p ep] at e; cases e) (hB b o e)
      show wpAny (model prog w) A (execs ss env) Q E _
      refine stores_run (od := some (dx, putM (baseM od) f u)) (nl := f :: nl) T KB hxB hN hL hk hself mself r (fun f hf => hloc f (List.mem_cons_of_mem _ hf)) (fun f hf => hno f (List.mem_cons_of_mem _ hf)) e2 hB' k5 (fun p e => by cases e; exact dxB) (fun p e => by
        cases e
        cases od with
        | none => exact Within.cons f u (show PySem.Within (fun _ => none) nl from fun y hy => absurd rfl hy)
        | some p => exact Within.cons f u (hw p rfl)) (by simp only [List.length_cons] at hl ⊢; omega) fun h2 tk2 od2 z => hq h2 tk2 od2 ⟨z.1, z.2.1, .inr ?_⟩
      rcases z.2.2 with ⟨z1, z2⟩ | ⟨dx2, z1, z2, z3⟩
      · subst z1
        have hus : us = [] := by
          cases us with
          | nil => rfl
          | cons a b => cases e2
        subst hus
        refine ⟨dx, ?_, dxB, k4⟩
        rw [z2]
        cases od <;> rfl
      · refine ⟨dx2, ?_, z2, z3⟩
        rw [z1]
        cases od <;> rfl
theorem zip_lookup {fs : List Str} : ∀ {us : List Value}, fs.Nodup → us.length = fs.length → fs.map (fun y => (fs.zip us).lookup y) = us.map some := by
  induction fs with
  | nil =>
    intro us _ hl
    cases us with
    | nil => rfl
    | cons u us => cases hl
  | cons f fs ih =>
    intro us nd hl
    cases us with
    | nil => cases hl
    | cons u us =>
      obtain ⟨n1, n2⟩ := List.nodup_cons.mp nd
      have e := ih n2 (show us.length = fs.length by simpa using hl)
      show List.lookup f ((f, u) :: fs.zip us) :: fs.map (fun y => List.lookup y ((f, u) :: fs.zip us)) = some u :: us.map some
      rw [← e]
      congr 1
      · simp [List.lookup]
      · refine List.map_congr_left fun y hy => ?_
        have ne : (y == f) = false := beq_eq_false_iff_ne.mpr fun z => n1 (z ▸ hy)
        rw [List.lookup, ne]
theorem lookup_rev {fs : List Str} {us : List Value} (nd : fs.Nodup) (y : Str) : (fs.zip us).reverse.lookup y = (fs.zip us).lookup y := by
  have key : ∀ (l : List (Str × Value)), (l.map (·.1)).Nodup → l.reverse.lookup y = l.lookup y := by
    intro l
    induction l with
    | nil => intro _; rfl
    | cons p l ih =>
      intro hn
      obtain ⟨n1, n2⟩ := List.nodup_cons.mp hn
      rw [List.reverse_cons]
      obtain ⟨k, v⟩ := p
      by_cases hy : y = k
      · subst hy
        have h1 : l.reverse.lookup y = none := by
          rw [ih n2]
          cases z : l.lookup y with
          | none => rfl
          | some v' => exact absurd (List.mem_map.mpr ⟨(y, v'), PySem.mem_of_lookup z, rfl⟩) n1
        rw [List.lookup_append, h1]
        simp [List.lookup]
      · have ne : (y == k) = false := beq_eq_false_iff_ne.mpr hy
        rw [List.lookup_append, ih n2, List.lookup, ne]
        simp [List.lookup, ne]
  refine key _ ?_
  have e : (fs.zip us).map (·.1) = fs.take us.length := by
    clear key nd
    induction fs generalizing us with
    | nil => simp
    | cons f fs ih =>
      cases us with
      | nil => rfl
      | cons u us => simp only [List.zip_cons_cons, List.map_cons, List.length_cons, List.take_succ_cons, ih]
  rw [e]
  exact nd.sublist (List.take_sublist _ _)
theorem names_plain {env : Env} {pos : Pos} : ∀ {fs : List Str} {es : List Expr}, NamesOf fs es → (backTo pos (starEach es env)).any (·.1) = false
  | _, _, .nil => rfl
  | _, _, .cons (f := f) (p := p) (fs := fs) (es := es) r => by
    show (false || (backTo pos (starEach es env)).any (·.1)) = false
    rw [names_plain r, Bool.false_or]
theorem names_args {env : Env} {m : Str → Option Value} {s : Shared} {pos : Pos} {M : Model} {u : Addr} {fs : List Str} {es : List Expr} {us : List Value} {Q : Args → Shared → Prop} (hk : env.scope.kind = .function) (r : NamesOf fs es) (hne : fs ≠ [])
    (hl : ∀ f ∈ fs, env.kindOf f = some .local ∧ (f == ("__debug__" : Str)) = false) (hn : s.heap.Ns env.locals m) (hm : fs.map m = us.map some) (hq : Q ⟨us, []⟩ s) : wpAny M A (evalArgs (.ref u) true (backTo pos (starEach es env)) []) Q E s := by
  have h := names_load (M := M) (A := A) (E := E) (pos := pos) (Q := fun vs s' => Q ⟨vs, []⟩ s') hk r hl hn hm hq
  cases r with
  | nil => exact absurd rfl hne
  | cons r => exact Calls.evalArgs_plain h
/-- the built-in __init__ bound to x -/
theorem mw_call {K : PySem.W.Frag} {C x t0 u : Addr} {us : List Value} {Q : Value → Shared → Prop} (T : OexC K C) (X : K.In h) (hu : h.get? u = some (PySem.W.kxs_mw "ValueError.__init__" x)) (hx : h.get? x = some (excD C t0 none)) (hz : us.length ≤ sizeLine)
    (hq : ∀ h' t1, (∀ b o, b ≠ x → h.get? b = some o → h'.get? b = some o) → h'.get? x = some (excD C t1 none) → Q .none ⟨h', g, d, t, os⟩) : wpAny (model prog w) A (call (.ref u) us) Q E ⟨h, g, d, t, os⟩ := by
  obtain ⟨nm, q, N, bs, bm, sn, sub, ab, col, dd, k0, k1, k2, k3, k5, hC, hbm⟩ := T.cls
  refine wpAny_call (codeAny_of_tree ?_)
  show wpAny _ A.in1 (callAny (.ref u) ⟨us, []⟩) _ _ _
  simp only [callAny]
  refine wpAny_bind (wpAny_load hu ?_)
  simp only [PySem.W.kxs_mw, show (Value.type "method-wrapper" == Value.type "method" || Value.type "method-wrapper" == Value.type "builtin_function_or_method" || Value.type "method-wrapper" == Value.type "method-wrapper") = true by decide, if_true]
  refine PySem.W.KFB.if_so (by decide) ?_
  refine wpAny_bind (PySem.W.check_bound_init F.excBase_ValueError.toExcCallFacts (X _ _ hC) hx rfl ?_)
  refine wpAny_bind (wpAny_pure (wpAny_pure ?_))
  refine ⟨plainId_quiet F.excBase_ValueError.init.plain _, codeAny_builtin F.excBase_ValueError.initEntry ?_⟩
  exact PySem.W.exc_init_tree (cls := .ref C) (t0 := t0) (dv := none) (c2 := .none) (c3 := .none) (b4 := .bool false) hx hz fun h' k e' _ => hq h' _ k e'
/-- __init__ called at a fresh exception -/
theorem init_run {K : PySem.W.Frag} {mg : Str → Option Value} {base : Heap} {C x t0 fI : Addr} {fs : List Str} {us : List Value} {R : Result → Shared → Prop} (S : ExS prog K C fs) (M : L2.Mod K mg base) (hb : base.StaysIn h) (hxb : base.get? x = none) (hm : mg "super" = none)
    (hi : PySem.W.findIn K (.ref C) "__init__" = some (some (.ref fI))) (hx : h.get? x = some (PySem.HandSPX.excO C t0)) (hu : us.length = fs.length) (hroom : A.depth < recursionLimit)
    (hq : ∀ h' tk t1 od', (∀ b o, b ≠ x → h.get? b = some o → h'.get? b = some o) → AtX h' x C t1 od' → ((fs = [] ∧ od' = none) ∨ ∃ dx, od' = some (dx, foldM (fun _ => none) fs us) ∧ h.get? dx = none ∧ dx ≠ x) → R (.ok (.ret .none)) ⟨h', g, d, tk, os⟩) :
    codeAny (model prog w) A (.call (.ref fI) ⟨.ref x :: us, []⟩) R ⟨h, g, d, t, os⟩ := by
  obtain ⟨fI', cc, cda, oc, odI, osl, qual, params, body, scope, kV, doc, pm, an, ct, e1, e2, lk, hcd, ⟨ocl, ocd, vs, ocs, file, tf, lc, hv2, hfile⟩, ⟨cl, cld, cls', lcc⟩, hbody, SC, ⟨ar, har, harn⟩, hbind⟩ := S.ini
  have ef : fI' = fI := by
    rw [e1] at hi
    cases hi
    rfl
  subst ef
  have X : K.In h := fun b o e => hb b o (M.kin b o e)
  obtain ⟨nm, q, N, bs, bm, sn, sub, ab, col, dd, k0, k1, k2, k3, k5, hC, hbm⟩ := S.o.cls
  have hcl : PySem.W.clsIn K C = some { name := nm, bases := bs, mro := .ref C :: bm, ns := N, qualname := q, hasDict := true, slotNames := sn, subclasses := sub, abstract := ab, collection := col, hasDel := false } := by unfold PySem.W.clsIn; rw [hC] <;> rfl
  have nd := S.nd
  have hl2 : (Value.ref x :: us).length = (("self" : Str) :: fs).length := by simp [hu]
  obtain ⟨p0, p1, p2, p3, p4, args, ss, rfl, hN, hS, hcall⟩ := hbody
  refine ks_codeAny_call_defAt (fd := PySem.W.ksFn "__init__" qual params (.Expr (.Call (.Attribute (.Call (.Name "super" p0) [] [] p1) "__init__" p2) args [] p3) p4 :: ss) scope .none kV doc pm an (.ref cda) ct cc) hroom (X _ _ lk) rfl (M.nolimit.keeps hb) (PySem.W.codeRec_of X hcd) rfl
    (BindsTo.of_eq (hbind (.ref x :: us) (by simp [hu]))) SC.nc (fun y hy => (SC.loc y.1 (List.of_mem_zip hy).1).1) (fun h₁ hns hk => ?_) SC.co SC.gen SC.kind
  have st1 : h.StaysIn h₁ := fun b o e => hk b o e
  have X1 : K.In h₁ := fun b o e => st1 b o (X b o e)
  have hx1 := st1 _ _ hx
  have hb1 : base.StaysIn h₁ := fun b o e => st1 b o (hb b o e)
  obtain ⟨mb, bl1, bl2⟩ := M.blt
  have hns' : h₁.Ns h.objs.size (fun y => ((("self" : Str) :: fs).zip (Value.ref x :: us)).lookup y) := by
    have e : (fun y => ((("self" : Str) :: fs).zip (Value.ref x :: us)).reverse.lookup y) = fun y => ((("self" : Str) :: fs).zip (Value.ref x :: us)).lookup y := funext fun y => lookup_rev nd y
    rw [← e]
    exact hns
  have selfL : ((("self" : Str) :: fs).zip (Value.ref x :: us)).lookup ("self" : Str) = some (.ref x) := by simp [List.lookup]
  generalize henv : callEnv (PySem.W.ksFn "__init__" qual params (.Expr (.Call (.Attribute (.Call (.Name "super" p0) [] [] p1) "__init__" p2) args [] p3) p4 :: ss) scope .none kV doc pm an (.ref cda) ct cc) h.objs.size fI' = env
  have ek : env.scope = scope := by rw [← henv] <;> rfl
  have eint : interactive env = false := by
    unfold interactive
    rw [ek, SC.kind] <;> rfl
  obtain ⟨pl, hpl⟩ := hcall env
  refine ks_wpAt_execs_cons (ks_wpAt_Expr_any (ks_wpAt_MethodCall (pl := pl) ?_ hpl) eint)
  subst henv
  refine ks_wpAt_super_base (f := fI') (cc := cda) (ar := ar) (vs := vs) (file := file) (tf := tf) SC.sup SC.cls (by decide) rfl (X1 _ _ lk) rfl har rfl (X1 _ _ lc) rfl hv2 hfile S.top ?_
  refine PySem.W.ks_loadName_global SC.kind SC.sup (Calls.loadGlobal_builtin (mg := mg) (mb := mb) (M.glob.keeps hb1) hm (bl1.keeps hb1) ((bl2 _ (by decide)).trans (by decide +kernel : bootBuiltins "super" = some (.type "super"))) ⟨rfl, ?_⟩)
  refine wpAny_loadName_free (c := cc) SC.kind SC.cls (by rfl) ⟨_, X1 _ _ lcc, rfl⟩ ?_
  rw [harn]
  refine wpAny_loadName_local (m := fun y => ((("self" : Str) :: fs).zip (Value.ref x :: us)).lookup y) SC.kind (SC.loc "self" List.mem_cons_self).1 hns' selfL ?_
  refine ks_wpAny_isType_cls (X1 _ _ hC) rfl ⟨rfl, ?_⟩
  refine ks_wpAny_call_super (X1 _ _ hC) rfl hx1 rfl (fun c z => by cases z) (PySem.W.looks_mroIn X1 S.sub) fun h2 e2' k2 => ?_
  have xC : x ≠ C := fun z => by
    rw [z, X _ _ hC] at hx
    cases hx
  have st2 : h.StaysIn h2 := fun b o e => k2 b o (st1 b o e)
  have X2 : K.In h2 := fun b o e => st2 b o (X b o e)
  have hx2 := st2 _ _ hx
  have I2 : PySem.W.InstAt h2 x (PySem.HandSPX.excO C t0) C none := ⟨hx2, rfl, rfl, trivial⟩
  have hsup := S.sup
  unfold PySem.W.ks_superIn at hsup
  rw [hcl] at hsup
  refine PySem.W.kxs_getMethod PySem.W.kxs_ValueError e2' (PySem.W.looks_opaque X2 S.any) (l₀ := .ref C :: bm) ((PySem.W.looks_clsIn X2 hcl).andThen .now) rfl X2 hsup (I2.type.andThen (PySem.W.looks_subIn X2 S.ve)) xC (by decide) ?_
  have kin : ∀ f ∈ ("self" : Str) :: fs, (callEnv (PySem.W.ksFn "__init__" qual params (.Expr (.Call (.Attribute (.Call (.Name "super" p0) [] [] p1) "__init__" p2) args [] p3) p4 :: ss) scope .none kV doc pm an (.ref cda) ct cc) h.objs.size fI').kindOf f = some .local ∧ (f == ("__debug__" : Str)) = false := fun f hf => SC.loc f hf
  have mm : fs.map (fun y => ((("self" : Str) :: fs).zip (Value.ref x :: us)).lookup y) = us.map some := (List.cons.inj (zip_lookup nd hl2)).2
  have k3 : ∀ b o, h2.get? b = some o → (h2.push (PySem.W.kxs_mw "ValueError.__init__" x)).get? b = some o := fun b o e => Heap.get?_push_of_some _ e
  have st3 : h.StaysIn (h2.push (PySem.W.kxs_mw "ValueError.__init__" x)) := fun b o e => k3 b o (st2 b o e)
  have ns3 : (h2.push (PySem.W.kxs_mw "ValueError.__init__" x)).Ns h.objs.size (fun y => ((("self" : Str) :: fs).zip (Value.ref x :: us)).lookup y) := hns'.keeps fun b o e => k3 b o (k2 b o e)
  show wpAny _ _ (callWith p3 (.ref h2.objs.size) [] _ []) _ _ _
  refine PySem.W.kxs_callWith (i := "ValueError.__init__") (x := x) (names_plain hN) (names_args (m := fun y => ((("self" : Str) :: fs).zip (Value.ref x :: us)).lookup y) SC.kind hN S.ne (fun f hf => kin f (List.mem_cons_of_mem _ hf)) ns3 mm ⟨Heap.get?_push_at rfl rfl, ?_⟩)
  have hz : us.length ≤ sizeLine := by
    have := S.few
    rw [sizeLine_eq]
    omega
  refine mw_call (t0 := t0) S.o (fun b o e => k3 b o (X2 b o e)) (Heap.get?_push_at rfl rfl) (k3 _ _ hx2) hz fun h4 t1 k4 e4 => ?_
  have st4 : ∀ b o, b ≠ x → h₁.get? b = some o → h4.get? b = some o := fun b o hb e => k4 b o hb (k3 b o (k2 b o e))
  obtain ⟨B, g1, g2⟩ := restrict h4 fun b => decide (b ≠ x)
  have gB : ∀ b, b ≠ x → B.get? b = h4.get? b := fun b hb => g1 b (decide_eq_true hb)
  have xB : B.get? x = none := g2 x (by simp)
  have sB : B.StaysIn h4 := fun b o e => by
    by_cases hbx : b = x
    · rw [hbx, xB] at e
      cases e
    · rw [← gB b hbx]
      exact e
  have xK : ∀ b o, K.lookup b = some o → b ≠ x := fun b o e z => by
    have y := M.kin b o e
    rw [z, hxb] at y
    cases y
  have KB : K.In B := fun b o e => by
    rw [gB b (xK b o e)]
    exact st4 b o (xK b o e) (X1 b o e)
  have Lx : h.objs.size ≠ x := fun z => by
    have y := Heap.lt_size hx
    rw [← z] at y
    exact Nat.lt_irrefl _ y
  have NB : B.Ns h.objs.size (fun y => ((("self" : Str) :: fs).zip (Value.ref x :: us)).lookup y) := by
    obtain ⟨o, es, ep, ho, r⟩ := hns'
    exact ⟨o, es, ep, (gB _ Lx).trans (st4 _ _ Lx ho), r⟩
  refine wpAt_of_wpAny (stores_run (B := B) (L := h.objs.size) (nl := []) (od := none) (t1 := t1) S.o KB xB NB rfl SC.kind (kin "self" List.mem_cons_self).1 selfL hS (fun f hf => kin f (List.mem_cons_of_mem _ hf)) S.noat mm sB e4 (fun p e => nomatch e) (fun p e => nomatch e) (by have := S.few; simp only [List.length_nil]; omega) fun h5 tk5 od5 hl5 => ?_)
  obtain ⟨sB5, ax5, r5⟩ := hl5
  refine hq h5 tk5 t1 od5 (fun b o hb e => sB5 b o ?_) ax5 ?_
  · rw [gB b hb]
    exact st4 b o hb (st1 b o e)
  · rcases r5 with ⟨z, _⟩ | ⟨dx, z1, z2, z3⟩
    · exact absurd z S.ne
    · refine .inr ⟨dx, z1, ?_, z3⟩
      cases q : h.get? dx with
      | none => rfl
      | some o =>
        have y := st4 dx o z3 (st1 dx o q)
        rw [← gB dx z3, z2] at y
        cases y
end
end Mr

namespace Mr
open PySem PySem.Spec PyProof.Rows L2

theorem foldM_lookup : ∀ {fs : List Str} {us : List Value} {m0 : Str → Option Value}, fs.Nodup → us.length = fs.length → ∀ y, foldM m0 fs us y = match (fs.zip us).lookup y with
    | some u => some u
    | none => m0 y
  | [], us, m0, _, hl, y => by
    cases us <;> rfl
  | f :: fs, [], m0, _, hl, y => by cases hl
  | f :: fs, u :: us, m0, nd, hl, y => by
    obtain ⟨n1, n2⟩ := List.nodup_cons.mp nd
    show foldM (putM m0 f u) fs us y = match List.lookup y ((f, u) :: fs.zip us) with
      | some u => some u
      | none => m0 y
    rw [foldM_lookup n2 (by simpa using hl) y]
    by_cases hy : y = f
    · subst hy
      have h1 : (fs.zip us).lookup y = none := by
        cases z : (fs.zip us).lookup y with
        | none => rfl
        | some v => exact absurd (List.of_mem_zip (PySem.mem_of_lookup z)).1 n1
      rw [h1]
      simp [List.lookup, putM]
    · have ne : (y == f) = false := beq_eq_false_iff_ne.mpr hy
      rw [List.lookup, ne]
      simp only
      cases (fs.zip us).lookup y with
      | some v => rfl
      | none => exact if_neg hy
theorem relO_zip {fs : List Str} : ∀ {vs : List V} {us : List Value}, Vals vs us → ∀ y, RelO ((fs.zip vs).lookup y) ((fs.zip us).lookup y) := by
  induction fs with
  | nil => intro vs us r y; exact True.intro
  | cons f fs ih =>
    intro vs us r y
    cases r with
    | nil => exact True.intro
    | @cons v u vs us rv rr =>
      show RelO (List.lookup y ((f, v) :: fs.zip vs)) (List.lookup y ((f, u) :: fs.zip us))
      by_cases hy : y = f
      · subst hy
        simp only [List.lookup, beq_self_eq_true]
        exact rv
      · have ne : (y == f) = false := beq_eq_false_iff_ne.mpr hy
        simp only [List.lookup, ne]
        exact ih rr y
section
variable {X : Cx} {pins : List (Addr × Obj)} {σ : L2.St} {H1 : Hp} {hp : Heap} {g : Array GenState} {dr : Drawn} {tk : Nat} {os : OsState} {E : Value → Shared → Prop} {C : Addr} {fs : List Str} {vs : List V} {us : List Value}
theorem exs_call {Q : Value → Shared → Prop} (S : ExS X.prog X.K C fs) (I1 : Inv X pins σ H1 ⟨hp, g, dr, tk, os⟩) (r1 : Vals vs us) (hl : vs.length = fs.length) (hms : X.mg "super" = none) (hr : Room 1 X.A)
    (hq : ∀ a dx t1 h' tk', (∀ b o, hp.get? b = some o → h'.get? b = some o) → hp.get? a = none → hp.get? dx = none → dx ≠ a → h'.get? a = some (excD C t1 (some dx)) → (∃ mA, h'.Ns1 dx mA ∧ ∀ f, RelO ((fs.zip vs).lookup f) (mA f)) → Q (.ref a) ⟨h', g, dr, tk', os⟩) :
    wpAny (model X.prog X.w) X.A (call (.ref C) us) Q E ⟨hp, g, dr, tk, os⟩ := by
  obtain ⟨nm, q, N, bs, bm, sn, sub, ab, col, dd, k0, k1, k2, k3, k5, hC, hbm⟩ := S.o.cls
  obtain ⟨fI, cc, cda, oc, odI, osl, qual, params, body, scope, kV, doc, pm, an, ct, e1, e2, rest⟩ := S.ini
  have hus : us.length = fs.length := (Paired.length r1).symm.trans hl
  have hz : us.length ≤ sizeLine := by
    have := S.few
    rw [sizeLine_eq]
    omega
  have hget : ((hp.push (PySem.W.kdv_tup us)).push (PySem.HandSPX.excO C hp.objs.size)).get? (hp.objs.size + 1) = some (PySem.HandSPX.excO C hp.objs.size) := by heap_get
  have kk : ∀ b o, hp.get? b = some o → ((hp.push (PySem.W.kdv_tup us)).push (PySem.HandSPX.excO C hp.objs.size)).get? b = some o := fun b o e => Heap.get?_push_of_some _ (Heap.get?_push_of_some _ e)
  have na : hp.get? (hp.objs.size + 1) = none := Heap.get?_none_of_le (Nat.le_succ _)
  have bk : X.base.StaysIn hp := I1.bk
  have nb : X.base.get? (hp.objs.size + 1) = none := by
    cases z : X.base.get? (hp.objs.size + 1) with
    | none => rfl
    | some o =>
      have y := bk _ _ z
      rw [na] at y
      cases y
  refine wpAny_call (PySem.HandSPX.call_own F.excBase_ValueError (fun Y => PySem.HandSPX.refsVE_contains Y bm hbm) (I1.kIn _ _ hC) (PySem.W.looks_findIn I1.kIn e1) (fun self => PySem.W.bind_fn I1.kIn self e2) hz ?_)
  refine init_run (t0 := hp.objs.size) S I1.ok.mod (fun b o e => kk b o (bk b o e)) nb hms e1 hget hus (hr.make C us []).depth fun h' tk' t1 od' k1 ax r => ?_
  rcases r with ⟨z, _⟩ | ⟨dx, z1, z2, z3⟩
  · exact absurd z S.ne
  · subst z1
    obtain ⟨ax1, ax2⟩ := ax
    refine ⟨rfl, hq (hp.objs.size + 1) dx t1 h' tk' (fun b o e => k1 b o (fun y => by rw [y, na] at e; cases e) (kk b o e)) na ?_ z3 ax1 ⟨_, ax2, fun f => ?_⟩⟩
    · cases y : hp.get? dx with
      | none => rfl
      | some o =>
        rw [kk _ _ y] at z2
        cases z2
    · rw [foldM_lookup (List.nodup_cons.mp S.nd).2 hus]
      have := relO_zip (fs := fs) r1 f
      cases e : (fs.zip us).lookup f with
      | some u => rw [e] at this; exact this
      | none => rw [e] at this; exact this
theorem errO_ok {P : Program} {w : World} {H : Hp} {h : Heap} {a C d : Addr} {oe : Obj} {vs : Array Value} (e : h.get? a = some oe) (z : Zc (.ref C) (some d) oe) (dd : oe.data = .fields vs) : ObjOk P w H h a (ErrO C d a) :=
  ⟨⟨oe, vs, e, z, dd⟩, ⟨oe, e⟩, fun _ _ ⟨o, v, q, r⟩ k => ⟨o, v, k o q, r⟩⟩
def tMkX (C : Addr) (fs : List Str) (ta : TA) : L2.St → Hp → XK → Prop := fun σ H Q => ta σ H fun vs H1 => vs.length = fs.length ∧ ∀ d, H1 d = none → Q (.ref C) (some d) (upd H1 d (.xd (fs.zip vs)))
variable {x : Str} {e : Expr} {es : List Expr} {ta : TA} {p pos : Pos}
theorem pmk_exs (S : ExS X.prog X.K C fs) (hms : X.mg "super" = none) (hr : Room 1 X.A) (hg : Gl X x) (hm : X.mg x = some (.ref C)) (ha : PA X (e :: es) ta)
    (hdb : (x == ("__debug__" : Str)) = false := by decide) (he : starEach (e :: es) X.env = (false, eval e X.env) :: starEach es X.env := by rfl) (hpl : (backTo pos (starEach es X.env)).any (·.1) = false := by rfl) :
    PMk X (.Call (.Name x p) (e :: es) [] pos) (tMkX C fs ta) := by
  intro pins s σ H Q I h
  refine wpAny_Call_Name_kw (ld_glob I hg hm ?_ hdb)
  refine PySem.W.callWith_K (h₀ := X.base) I.ok.mod.kin S.o.kC (thn (ha.run pos pins s σ H _ I h) fun us s1 ⟨vs, H1, I1, r1, hz, q1⟩ => ⟨I1.kIn, ?_⟩) he hpl
  show wpAny _ _ (call (.ref C) us) _ _ _
  obtain ⟨hp, g, dr, tk, os⟩ := s1
  refine exs_call S I1 r1 hz hms hr fun a dx t1 h' tk' k na nd dne ho hns => ?_
  obtain ⟨G, g1, g2⟩ := restrict h' fun b => decide (b ≠ a)
  have gk : ∀ b, b ≠ a → G.get? b = h'.get? b := fun b hb => g1 b (decide_eq_true hb)
  have ga : G.get? a = none := g2 a (by simp)
  have gs : ∀ b o, G.get? b = some o → h'.get? b = some o := fun b o z => by
    by_cases hb : b = a
    · rw [hb, ga] at z
      cases z
    · exact (gk b hb).symm.trans z
  have hnd : H1 dx = none := I1.hok.gone nd
  have hna : H1 a = none := I1.hok.gone na
  obtain ⟨mA, hn, rel⟩ := hns
  have J : Inv X pins σ (upd H1 dx (.xd (fs.zip vs))) ⟨G, g, dr, tk', os⟩ := I1.laidN (t' := tk') (a := dx) (o := .xd (fs.zip vs)) (h' := G) (fun b o z => (gk b (fun y => by rw [y, na] at z; cases z)).trans (k b o z)) nd hnd ⟨mA, hn.at fun o y => (gk dx dne).trans y, rel⟩
  exact ⟨a, _, _, ⟨G, g, dr, tk', os⟩, _, .ref C, some dx, rfl, J, gs, ga, ho, ⟨rfl, rfl⟩, rfl, rfl, by rw [upd_ne dne.symm]; exact hna, rfl, I1.bare, raises_own S.o.exC S.o.tyC, q1 dx hnd⟩
/-- .. as a value -/
theorem pe_exs (S : ExS X.prog X.K C fs) (hms : X.mg "super" = none) (hr : Room 1 X.A) (hg : Gl X x) (hm : X.mg x = some (.ref C)) (ha : PA X (e :: es) ta)
    (hdb : (x == ("__debug__" : Str)) = false := by decide) (he : starEach (e :: es) X.env = (false, eval e X.env) :: starEach es X.env := by rfl) (hpl : (backTo pos (starEach es X.env)).any (·.1) = false := by rfl) :
    PE X (.Call (.Name x p) (e :: es) [] pos) (fun σ H Q => ta σ H fun vs H1 => vs.length = fs.length ∧ ∀ d a, H1 d = none → H1 a = none → d ≠ a → Q (.ref a) (upd (upd H1 d (.xd (fs.zip vs))) a (ErrO C d a))) := by
  refine ⟨fun pins s σ H Q I h => ?_⟩
  refine wpAny_Call_Name_kw (ld_glob I hg hm ?_ hdb)
  refine PySem.W.callWith_K (h₀ := X.base) I.ok.mod.kin S.o.kC (thn (ha.run pos pins s σ H _ I h) fun us s1 ⟨vs, H1, I1, r1, hz, q1⟩ => ⟨I1.kIn, ?_⟩) he hpl
  show wpAny _ _ (call (.ref C) us) _ _ _
  obtain ⟨hp, g, dr, tk, os⟩ := s1
  refine exs_call S I1 r1 hz hms hr fun a dx t1 h' tk' k na nd dne ho hns => ?_
  have hnd : H1 dx = none := I1.hok.gone nd
  have hna : H1 a = none := I1.hok.gone na
  obtain ⟨mA, hn, rel⟩ := hns
  obtain ⟨G, g1, g2⟩ := restrict h' fun b => decide (b ≠ a)
  have gk : ∀ b, b ≠ a → G.get? b = h'.get? b := fun b hb => g1 b (decide_eq_true hb)
  have ga : G.get? a = none := g2 a (by simp)
  have J : Inv X pins σ (upd H1 dx (.xd (fs.zip vs))) ⟨G, g, dr, tk', os⟩ := I1.laidN (t' := tk') (a := dx) (o := .xd (fs.zip vs)) (h' := G) (fun b o z => (gk b (fun y => by rw [y, na] at z; cases z)).trans (k b o z)) nd hnd ⟨mA, hn.at fun o y => (gk dx dne).trans y, rel⟩
  have J2 := J.laidN (t' := tk') (a := a) (o := ErrO C dx a) (h' := h') (fun b o z => by
    by_cases hb : b = a
    · rw [hb, ga] at z
      cases z
    · exact (gk b hb).symm.trans z) ga (by rw [upd_ne dne.symm]; exact hna) (errO_ok ho ⟨rfl, rfl⟩ rfl)
  exact ⟨.ref a, _, J2, rfl, q1 dx a hnd hna dne⟩
end
end Mr

namespace Mr
open PySem PySem.Spec PyProof.Rows L2

section
variable {X : Cx} {pins : List (Addr × Obj)} {σ : L2.St} {H : Hp} {s : Shared}
/-- an object that is new since the entry is tracked from now on -/
theorem inv_track {a : Addr} {o : HO} (I : Inv X pins σ H s) (ha : H a = none) (h0 : X.s_0.heap.get? a = none) (new : ObjOk X.prog X.w (upd H a o) s.heap a o) (np : ∀ p ∈ X.pn ++ pins, p.1 ≠ a) (nL : a ≠ X.env.locals)
    (nc : ∀ x c, X.env.cells.lookup x = some c → c ≠ a) : Inv X pins σ (upd H a o) s := by
  have n0 : ∀ b u, X.s_0.heap.get? b = some u → b ≠ a := fun b u e z => by
    rw [z, h0] at e
    cases e
  have nh : ∀ b u, H b = some u → b ≠ a := fun b u e z => by
    rw [z, ha] at e
    cases e
  refine ⟨I.ok, I.os, I.bare, ⟨I.base.keep, I.base.slot, fun b u e n hx => by rw [upd_ne (n0 b u e)]; exact I.base.free b u e n hx, I.base.there, fun b xs e => ?_, fun b u v e => ?_, fun b ps e => ?_⟩, I.loc, I.cell, by rw [upd_ne nL.symm]; exact I.free, fun x c e => by rw [upd_ne (nc x c e)]; exact I.freeC x c e, fun p hp => ?_, fun b u e => ?_, I.len⟩
  · have z := I.base.tups b xs e
    rw [upd_ne (nh b _ z)]
    exact z
  · have z := I.base.frzs b u v e
    rw [upd_ne (nh b _ z)]
    exact z
  · obtain ⟨m, z⟩ := I.base.tbls b ps e
    exact ⟨m, by rw [upd_ne (nh b _ z)]; exact z⟩
  · obtain ⟨e, n, r⟩ := I.pin p hp
    exact ⟨e, by rw [upd_ne (np p hp)]; exact n, r⟩
  · by_cases hb : b = a
    · subst hb
      rw [upd_same] at e
      cases e
      exact new
    · rw [upd_ne hb] at e
      exact (I.hok b u e).stay (fun c v _ q => q) (fun c q => by rw [upd_ne (nh c _ q)]; exact q) fun c xs q => by rw [upd_ne (nh c _ q)]; exact q
theorem inv_keepPin {a : Addr} {oe : Obj} {pn' : List (Addr × Obj)} (I : Inv (X.suite a ((a, oe) :: (X.pn ++ pins))) pn' σ H s) (ok : X.Ok) : Inv X ((a, oe) :: pins) σ H s :=
  ⟨ok, I.os, I.bare, I.base, I.loc, I.cell, I.free, I.freeC, fun p hp => I.pin p (by
    refine List.mem_append_left _ ?_
    rcases List.mem_append.mp hp with h | h
    · exact List.mem_cons_of_mem _ (List.mem_append_left _ h)
    · rcases List.mem_cons.mp h with h | h
      · rw [h]; exact List.mem_cons_self
      · exact List.mem_cons_of_mem _ (List.mem_append_right _ h)), I.hok, I.len⟩
theorem inv_dropPin {q : Addr × Obj} (I : Inv X (q :: pins) σ H s) : Inv X pins σ H s :=
  ⟨I.ok, I.os, I.bare, I.base, I.loc, I.cell, I.free, I.freeC, fun p hp => I.pin p (by
    rcases List.mem_append.mp hp with h | h
    · exact List.mem_append_left _ h
    · exact List.mem_append_right _ (List.mem_cons_of_mem _ h)), I.hok, I.len⟩
end
/-- what 'except x as n: y = n' wishes: slot i is n's, slot j y's; the exception is kept -/
def wKeep (K : PySem.W.Frag) (c : Value) (i j : Nat) (Wout : WX) (D : Ends) : WX := fun cls d σ H =>
  ∃ b, PySem.W.exmOne K cls c = some b ∧ (b = true → ∃ C dd, cls = .ref C ∧ d = some dd ∧ ∀ a, H a = none → D.nx (((σ.set i (some (.ref a))).set j (some (.ref a))).set i none) (upd H a (ErrO C dd a))) ∧ (b = false → Wout cls d σ H)
section
variable {X : Cx} {x n y : Str} {c : Value} {i j : Nat} {body : List Stmt} {np pos pos' py pn' sp : Pos} {tb : WX → TS} {Wout : WX}
theorem ps_try_keep (hs : X.stack = X.env :: X.outer) (hf : X.env.frame = some X.env.locals) (hex : X.ex = []) (hN : X.N.Nodup) (hi : X.N[i]? = some n) (hln : X.env.kindOf n = some .local) (hj : X.N[j]? = some y) (hly : X.env.kindOf y = some .local) (hc : Names X x c) (tk : Takes X Wout)
    (hdn : (n == ("__debug__" : Str)) = false) (hcn : (n == ("__classdict__" : Str)) = false)
    (hb : ∀ (W : WX) (pn : List (Addr × Obj)) (xe : Value → Shared → Prop), Takes (X.tr pn xe) W → PassesOwn (model X.prog X.w) X.A X.env xe → PSs (X.tr pn xe) body (tb W))
    (hsw : ∀ A : Unit, swapsWith (.Name n pn') (some (.Name y py)) sp.line X.env = pure false := by intro _; rfl) :
    PS X (.Try body [.ExceptHandler (some (.Name x np)) (some n) [.Assign [.Name y py] (.Name n pn') sp] pos'] [] [] pos) (fun D σ H => tb (wKeep X.K c i j Wout D) D σ H) := by
  refine ⟨fun pins s σ H D I h => ?_⟩
  have ok := I.ok
  have hfr : X.A.frames = some (X.env :: X.outer) := by rw [ok.frames, hs]
  have hloc : Loc X.env.scope n := .inl hln
  have hvn : Vis X.env.scope n := .inl hln
  refine wpAny_Try_except ?_
  refine wpAny_mono ((hb (wKeep X.K c i j Wout D) (X.pn ++ pins) (fun e s₁ => wpAny (model X.prog X.w) X.A (noteFrame e X.env) (fun _ s₂ => wpAny (model X.prog X.w) X.A (setFlight e none) (fun _ s₃ =>
    wpAny (model X.prog X.w) X.A (handleBy e X.env [.ExceptHandler (some (.Name x np)) (some n) [.Assign [.Name y py] (.Name n pn') sp] pos']) (SP X pins D) X.xe s₃) X.xe s₂) X.xe s₁) (fun u s' xx => ?_) PassesOwn.looking).run [] s σ H D (I.toTry _) h) (fun f s1 hsp => ?_) (fun e s1 he => he)
  · -- the catch
    obtain ⟨a, B, sI, pins', σ', H', cls, d, rfl, J', nb, up, sky, na, os, ag, b, hb1, hyes, hno⟩ := xx
    have J : Inv X pins σ' H' sI := J'.ofTry ok
    have sky' : Sky B (X.env :: X.outer) a (Zc cls d) X.env.locals s'.heap := by rw [← hs]; exact sky
    show wpAny (model X.prog X.w) X.A (noteFrame (.ref a) X.env) _ _ _
    refine Sky.land Zc.steady hfr hf sky' fun h3 fl3 up3 => ?_
    have J3 : Inv X pins σ' H' { s' with heap := h3 } := J.landed nb fl3.1 (up.trans up3) os ag
    obtain ⟨oe3, vs3, he3, hz3, hd3⟩ := fl3.there
    have notFr : ∀ {h : Heap} {o : Obj} {vs : Array Value}, h.FunFrames B (X.env :: X.outer) → h.get? a = some o → o.data = .fields vs → a ∉ frs (X.env :: X.outer) := fun {h o vs} ff e dd hm => by
      obtain ⟨_, o', e', hnf⟩ := ff.mem hm
      rw [e] at e'; cases e'
      exact hnf _ dd
    have nfr := notFr fl3.2.2.1 he3 hd3
    have nL : a ≠ X.env.locals := fun z => nfr (List.mem_filterMap.mpr ⟨X.env, List.mem_cons_self, by rw [hf, z]⟩)
    have nF : a ∉ X.fs := fun hm => by
      obtain ⟨e, he, q⟩ := List.mem_filterMap.mp hm
      exact nfr (List.mem_filterMap.mpr ⟨e, List.mem_cons_of_mem _ he, q⟩)
    have a0 : X.s_0.heap.get? a = none := by
      cases z : X.s_0.heap.get? a with
      | none => rfl
      | some o =>
        obtain ⟨o', q⟩ := J.base.there a o z (by rw [hex]; exact fun z => nomatch z)
        have y := nb a o' q (by rw [hs]; exact nfr)
        have y2 := fl3.2.1
        rw [y] at y2
        cases y2
    have S3 := J3.suite he3 hd3 na nL nF
    refine wpAny_handleBy_cons (codeAny_handlers_test ?_) (by intro q; cases q)
    have LT : PySem.W.Looks (model X.prog X.w) h3 (typeOf (.ref a)) cls := fun A Q E s k q => wpAny_typeOf_ref (k _ _ he3) (by rw [hz3.1]; exact q)
    have LM := PySem.W.exm_one (M := model X.prog X.w) (J3.kIn) LT hb1
    have test : ∀ {Q : Value → Shared → Prop} {E : Value → Shared → Prop}, Q c { s' with heap := h3 } → wpAny (model X.prog X.w) (X.A.mark (some (.ref a))) (eval (.Name x np) X.env) Q E { s' with heap := h3 } := fun {Q E} q => by
      obtain ⟨hg, hdbg, hm | ⟨hm, hv, hnn⟩⟩ := hc
      · exact ld_glob (X := X.suite a ((a, oe3) :: (X.pn ++ pins))) S3 hg hm q hdbg
      · exact ld_blt (X := X.suite a ((a, oe3) :: (X.pn ++ pins))) S3 hg hm hv q hnn hdbg
    refine test (LM.here ?_)
    cases b with
    | true =>
      obtain ⟨C, dd, ec, ed, hyes2⟩ := hyes rfl
      subst ec ed
      refine codeAny_handlers_suite_as ?_
      refine HandSPX.lands_againZ fl3 fun h4 fl4 up4 => ?_
      have J4 : Inv X pins σ' H' { s' with heap := h4 } := J.landed nb fl4.1 ((up.trans up3).trans up4) os ag
      obtain ⟨oe4, vs4, he4, hz4, hd4⟩ := fl4.there
      have S4 := J4.suite he4 hd4 na nL nF
      refine store_ok (X := X.suite a ((a, oe4) :: (X.pn ++ pins))) (v := .ref a) S4 hN hi hloc rfl (fun s5 S5 => ?_) (.inr hln)
      have hset : PSs (X.suite a ((a, oe4) :: (X.pn ++ pins))) [.Assign [.Name y py] (.Name n pn') sp] (tAsg (tVar i) (gName j)) :=
        pss_one (ps_set (X := X.suite a ((a, oe4) :: (X.pn ++ pins))) (i := j) hN hj (.inl hly) (pe_var (X := X.suite a ((a, oe4) :: (X.pn ++ pins))) (i := i) hi hvn hdn hcn) (hsw ()) (hf := .inr hly))
      have hil : i < σ'.length := by
        rw [J4.len]
        exact (List.getElem?_eq_some_iff.mp hi).1
      refine wpAny_mono (hset.run [] s5 _ H' { nx := fun σ6 H6 => σ6 = (σ'.set i (some (.ref a))).set j (some (.ref a)) ∧ H6 = H', rt := fun _ _ => False } S5 ⟨.ref a, List.getElem?_set_self hil, rfl, rfl⟩) (fun f s6 hsp => ?_) (fun _ _ z => False.elim z)
      cases f with
      | next =>
        obtain ⟨σ6, H6, S6, q6, q7⟩ := hsp
        subst q6 q7
        refine gone_ok (inv_keepPin S6 ok) hN hi hln fun s7 J7 => ?_
        have g7 := (J7.pin (a, oe4) (List.mem_append_right _ List.mem_cons_self)).1
        have J8 := inv_track (a := a) (o := ErrO C dd a) (inv_dropPin J7) na a0 (errO_ok g7 hz4 hd4) (fun p hp z => by
          obtain ⟨q, _⟩ := J.pin p hp
          have y := nb p.1 p.2 q (by rw [z, hs]; exact nfr)
          rw [z, fl3.2.1] at y
          cases y) nL (fun x' c' e z => by
          obtain ⟨w', o', q, q2⟩ := J7.cell x' c' e
          rw [z, g7] at q
          cases q
          rw [hd4] at q2
          cases q2)
        exact ⟨_, _, J8, hyes2 a na⟩
      | brk =>
        obtain ⟨σ6, H6, S6, q6⟩ := hsp
        exact False.elim q6
      | cont =>
        obtain ⟨σ6, H6, S6, q6⟩ := hsp
        exact False.elim q6
      | ret u =>
        obtain ⟨v6, σ6, H6, S6, r6, q6⟩ := hsp
        exact False.elim q6
    | false =>
      show wpAny _ X.A (handleBy (.ref a) X.env []) _ _ _
      refine wpAny_handleBy_nil ?_
      obtain ⟨k1, k2, k3, oe, vs, T, oT, ts', he, hz, hd, h1, hr⟩ := id fl3
      unfold PySem.passOn
      refine wpAny_bind (wpAny_field he hd h1 ?_)
      rw [if_neg (show ¬ ((Value.ref T == Value.none) = true) from by simp)]
      have fin : wpAny (model X.prog X.w) X.A (setFlight (.ref a) X.env.frame) (fun _ s4 => wpAny (model X.prog X.w) X.A (throw (.ref a) : Sem Flow) (SP X pins D) X.xe s4) X.xe { s' with heap := h3 } := by
        rw [hf]
        refine HandSPX.setFlight_upZ fl3 fun h4 hh4 up4 => wpAny_throw (tk _ _ ?_)
        exact ⟨a, B, sI, pins, σ', H', cls, d, rfl, J, nb, (up.trans up3).trans up4, .inr (.inr (by rw [hs]; exact hh4)), na, os, ag, hno rfl⟩
      first
        | exact wpAny_bind (wpAny_pure (wpAny_bind fin))
        | exact wpAny_bind fin
  · cases f with
    | next =>
      obtain ⟨σ', H', J', q⟩ := hsp
      exact wpAny_execs_nil ⟨σ', H', J'.ofTry ok, q⟩
    | brk =>
      obtain ⟨σ', H', J', q⟩ := hsp
      exact ⟨σ', H', J'.ofTry ok, q⟩
    | cont =>
      obtain ⟨σ', H', J', q⟩ := hsp
      exact ⟨σ', H', J'.ofTry ok, q⟩
    | ret u =>
      obtain ⟨v, σ', H', J', r, q⟩ := hsp
      exact ⟨v, σ', H', J'.ofTry ok, r, q⟩
end
end Mr

namespace Mr
open PySem PySem.Spec PyProof.Rows L2

/-- what is known of an own exception's class: its attributes ns, in their order -/
abbrev ExN (P : Program) (K : PySem.W.Frag) (c : Nat) (ns : List Nat) : Prop := ExS P K (He.ga K (nmS c)) (ns.map nmS)
section
variable {X : Cx} {E : XK} {pos p : Pos} {e : Expr} {es : List Expr} {ma : MA} {c : Nat} {ns : List Nat} {x : Str}
theorem xd_nt {fs : List (Str × V)} : ∀ ps, HO.xd fs ≠ .tbl ps := fun _ z => nomatch z
theorem errO_nt {C d a : Addr} : ∀ ps, ErrO C d a ≠ .tbl ps := fun _ z => by
  unfold ErrO at z
  cases z
/-- raise C(a, ..) -/
def mRaise (c : Nat) (ns : List Nat) (ma : MA) : MS := fun ρ μ => (ma ρ μ).bind fun ts μ1 => if Nat.beq ts.length ns.length = true then .exc ⟨c, ns, ts⟩ μ1 else .bad
theorem js_raise (hx : nmS c = x) (S : ExN X.prog X.K c ns) (hc : X.calm = true) (tk : TkE X E) (hms : X.mg "super" = none) (hr : Room 1 X.A) (hg : Gl X x) (hm : X.mg x = some (.ref (He.ga X.K x))) (ha : JA X E (e :: es) ma)
    (hdb : (x == ("__debug__" : Str)) = false := by decide) (he : starEach (e :: es) X.env = (false, eval e X.env) :: starEach es X.env := by rfl) (hpl : (backTo pos (starEach es X.env)).any (·.1) = false := by rfl) :
    JS X E (.Raise (some (.Call (.Name x p) (e :: es) [] pos)) none pos) (mRaise c ns ma) := by
  subst hx
  refine PS_imp (ps_raise hc tk (pmk_exs S hms hr hg hm ha hdb he hpl)) fun D σ H ⟨W, ρ, μ, k, st, q⟩ => ?_
  show tMA _ _ _ σ H _
  refine ⟨W, ρ, μ, k, st, PoS.bind (R := RpL (kwOf X)) q fun ts μ1 H1 W1 vs f1 k1 r1 q1 => ?_⟩
  split at q1
  · rename_i hl
    have hl : ts.length = ns.length := Nat.eq_of_beq_eq_true hl
    refine ⟨by rw [List.length_map, ← hl, r1.length], fun d hd => ?_⟩
    obtain ⟨f2, k2⟩ := k1.frozen (o := .xd ((ns.map nmS).zip vs)) hd xd_nt
    exact q1 _ _ _ _ f2 k2 ⟨rfl, d, vs, rfl, .inr rfl, upd_same, by show ns.length = _; rw [← hl, r1.length], r1.fr f2⟩
  · exact q1.elim
/-- C(a, ..) as a value -/
def gExv (c : Nat) (ns : List Nat) : GL := fun ts μ => if Nat.beq ts.length ns.length = true then .ok (.err c ns ts) μ else .bad
theorem je_exv (hx : nmS c = x) (S : ExN X.prog X.K c ns) (hms : X.mg "super" = none) (hr : Room 1 X.A) (hg : Gl X x) (hm : X.mg x = some (.ref (He.ga X.K x))) (ha : JA X E (e :: es) ma)
    (hdb : (x == ("__debug__" : Str)) = false := by decide) (he : starEach (e :: es) X.env = (false, eval e X.env) :: starEach es X.env := by rfl) (hpl : (backTo pos (starEach es X.env)).any (·.1) = false := by rfl) :
    JE X E (.Call (.Name x p) (e :: es) [] pos) (mCl (gExv c ns) ma) := by
  subst hx
  refine PE_imp (pe_exs S hms hr hg hm ha hdb he hpl) fun σ H Q ⟨W, ρ, μ, k, st, q⟩ => ?_
  refine ⟨W, ρ, μ, k, st, Po.bind (R := RpL (kwOf X)) (R' := Rp (kwOf X)) q fun ts μ1 _ H1 W1 vs f1 k1 r1 q1 => ?_⟩
  unfold gExv at q1
  split at q1
  · rename_i hl
    have hl : ts.length = ns.length := Nat.eq_of_beq_eq_true hl
    refine ⟨by rw [List.length_map, ← hl, r1.length], fun d a hd ha hne => ?_⟩
    obtain ⟨f2, k2⟩ := k1.frozen (o := .xd ((ns.map nmS).zip vs)) hd xd_nt
    obtain ⟨f3, k3⟩ := k2.frozen (p := a) (o := ErrO (He.ga X.K (nmS c)) d a) (by rw [upd_ne hne.symm]; exact ha) errO_nt
    refine Po.go (R := Rp (kwOf X)) q1 (f2.trans f3) k3 (.err (d := d) (vs := vs) (.inr rfl) upd_same (.inl (.inr rfl)) ?_ (by rw [← hl, r1.length]) (r1.fr (f2.trans f3)))
    rw [upd_ne hne, upd_same]
  · exact q1.elim
/-! ### x.f of instances and exceptions -/
/-- of which classes the attribute may be read -/
def EfOk (K : PySem.W.Frag) (es : List Nat) (f : Nat) : Prop := ∀ c ∈ es, XfC K (He.ga K (nmS c)) ∧ PySem.W.findIn K (.ref (He.ga K (nmS c))) (nmS f) = some none
def gFlE (es : List Nat) (f : Nat) : G1 := fun x μ => match x with
  | .err c ns ts => if es.elem c = true then match lkN f ns ts with
      | some t => .ok t μ
      | none => .bad
    else .bad
  | _ => .bad
theorem pe_err {te : TE} {n : Str} (he : PE X e te) (hb : attributeBase e n X.env (eval e X.env) = eval e X.env) :
    PE X (.Attribute e n pos) (fun σ H Q => te σ H fun x H1 => ∃ (a C d : Addr) (fs : List (Str × V)) (v : V), x = .ref a ∧ H1 a = some (ErrO C d a) ∧ H1 d = some (.xd fs) ∧ XfC X.K C ∧ PySem.W.findIn X.K (.ref C) n = some none ∧ fs.lookup n = some v ∧ Q v H1) := by
  refine ⟨fun pins s σ H Q I h => ?_⟩
  refine attr_of hb (thn (he.run pins s σ H _ I h) fun u s1 hh => ?_)
  obtain ⟨x, H1, I1, rx, a, C, d, fs, v, ex, ea, ed, T, hno, l, q⟩ := hh
  subst ex
  obtain rfl : u = Value.ref a := rx
  obtain ⟨⟨oe, vs, ha, hz, hd⟩, _⟩ := (show ObjOk X.prog X.w H1 s1.heap a (.ext _) from I1.hok a _ ea)
  obtain ⟨mA, hns, hr⟩ := (show ObjOk X.prog X.w H1 s1.heap d (.xd fs) from I1.hok d _ ed)
  obtain ⟨od, ho, hl⟩ := lookIn_ns hns
  obtain ⟨u, hu, ru⟩ := RelO.some_of (v := v) (o := mA n) (by rw [← l]; exact hr n)
  have J : PySem.W.InstAt s1.heap a oe C (some od) := ⟨ha, hz.1, by unfold PySem.W.notCls; rw [hd] <;> rfl, by rw [hz.2]; exact ho⟩
  exact HandSPX.exc_get I1.kIn J T.ga T.gg T.exC (PySem.W.findObj_own T.hdC hno rfl (by rw [hl, hu])) (handed_of ru) ⟨v, H1, I1.tok _, ru, q⟩
theorem je_flE {o : Expr} {mo : ME} {fs : Str} {f : Nat} {es : List Nat} (hf : nmS f = fs) (hes : EfOk X.K es f) (ho : JE X E o mo) (hb : attributeBase o fs X.env (eval o X.env) = eval o X.env := by rfl) : JE X E (.Attribute o fs pos) (mUn (gFlE es f) mo) := by
  subst hf
  refine PE_imp (pe_err ho hb) fun σ H Q ⟨W, ρ, μ, k, st, q⟩ => ⟨W, ρ, μ, k, st, Po.bind (R := Rp (kwOf X)) q fun x μ1 _ H1 W1 v f1 k1 r1 q1 => ?_⟩
  unfold gFlE at q1
  split at q1
  · rename_i c' ns' ts'
    split at q1
    · rename_i hc
      split at q1
      · rename_i t ht
        cases r1 with
        | err h1 h2 h3 h4 h5 h6 =>
          obtain ⟨w, l1, l2⟩ := lkN_v (f := f) h6 ht
          obtain ⟨c1, c2⟩ := hes _ (List.elem_iff.mp hc)
          exact ⟨_, _, _, _, w, rfl, h2, h4, c1, c2, l1, Po.go (R := Rp (kwOf X)) q1 Fr.refl k1 l2⟩
      · exact q1.elim
    · exact q1.elim
  · exact q1.elim
/-! ### try: body / except C as n: y = n -/
/-- is the class c caught? -/
abbrev ExT := List (Nat × Bool)
def exL (c : Nat) : ExT → Option Bool
  | [] => none
  | (d, b) :: l => if Nat.beq d c = true then some b else exL c l
def ExTok (K : PySem.W.Frag) (C : Value) (tb : ExT) : Prop := ∀ q ∈ tb, PySem.W.exmOne K (.ref (He.ga K (nmS q.1))) C = some q.2
theorem exL_ok {K : PySem.W.Frag} {C : Value} {c : Nat} {b : Bool} : ∀ {tb : ExT}, ExTok K C tb → exL c tb = some b → PySem.W.exmOne K (.ref (He.ga K (nmS c))) C = some b
  | [], _, h => by cases h
  | (d, b') :: l, ok, h => by
    unfold exL at h
    split at h
    · rename_i e
      cases h
      rw [← Nat.eq_of_beq_eq_true e]
      exact ok _ List.mem_cons_self
    · exact exL_ok (fun q hq => ok q (List.mem_cons_of_mem _ hq)) h
def mTryK (n : Nat) (mb : MS) (tb : ExT) (j : Nat) : MS := fun ρ μ => match mb ρ μ with
  | .exc x μ1 => match exL x.c tb with
    | some true => .ok (.nx ((List.replicate n none).set j (some (.err x.c x.ns x.xs)))) μ1
    | some false => .exc x μ1
    | none => .bad
  | o => o
theorem Takes.impL {X : Cx} {W W' : WX} (t : Takes X W) (h : ∀ c d σ H, σ.length = X.N.length → W' c d σ H → W c d σ H) : Takes X W' := fun u s' ⟨a, B, sI, pins, σ, H, cls, d, e, I, nb, up, sky, na, os, ag, w⟩ =>
  t u s' ⟨a, B, sI, pins, σ, H, cls, d, e, I, nb, up, sky, na, os, ag, h _ _ _ _ I.len w⟩
theorem js_try {x n y : Str} {C : Value} {i j l : Nat} {body : List Stmt} {mb : MS} {tb : ExT} {np pos' py pn' sp : Pos} (hs : X.stack = X.env :: X.outer) (hf : X.env.frame = some X.env.locals) (hex : X.ex = []) (hN : X.N.Nodup) (hi : X.N[i]? = some n) (hln : X.env.kindOf n = some .local) (hl : X.N.length = l)
    (hj : X.N[j]? = some y) (hly : X.env.kindOf y = some .local) (hij : i ≠ j) (hc : Names X x C) (tk : TkE X E) (htb : ExTok X.K C tb) (hdn : (n == ("__debug__" : Str)) = false) (hcn : (n == ("__classdict__" : Str)) = false)
    (hb : ∀ (E' : XK) (pn : List (Addr × Obj)) (xe : Value → Shared → Prop), TkE (X.tr pn xe) E' → JSs (X.tr pn xe) E' body mb)
    (hsw : ∀ A : Unit, swapsWith (.Name n pn') (some (.Name y py)) sp.line X.env = pure false := by intro _; rfl) :
    JS X E (.Try body [.ExceptHandler (some (.Name x np)) (some n) [.Assign [.Name y py] (.Name n pn') sp] pos'] [] [] pos) (mTryK l mb tb j) := by
  refine PS_imp (ps_try_keep (tb := fun Wx D σ H => tMS (kwOf X) (fun cls d H' => ∀ σ' : L2.St, σ'.length = X.N.length → Wx cls d σ' H') mb D σ H) (Wout := fun cls d _ H => E cls d H) hs hf hex hN hi hln hj hly hc tk hdn hcn
    (fun Wx pn xe t _ => hb (fun cls d H' => ∀ σ' : L2.St, σ'.length = X.N.length → Wx cls d σ' H') pn xe (Takes.impL t fun c d σ' H hl h => h σ' hl)) hsw) fun D σ H ⟨W, ρ, μ, k, st, q⟩ => ⟨W, ρ, μ, k, st, ?_⟩
  unfold mTryK at q
  cases e : mb ρ μ with
  | ok f μ1 => rw [e] at q; cases f <;> exact q
  | bad => rw [e] at q; exact q
  | exc x μ1 =>
    rw [e] at q
    intro H1 W1 cls d f1 k1 r1 σ' hσ
    obtain ⟨e1, dd, vs, e2, h1, h2, h3, h4⟩ := r1
    subst e1 e2
    cases ex : exL x.c tb with
    | none => simp only [ex] at q; exact q.elim
    | some b =>
      simp only [ex] at q
      refine ⟨b, exL_ok htb ex, fun hb => ?_, fun hb => ?_⟩
      · subst hb
        refine ⟨_, dd, rfl, rfl, fun a ha => ?_⟩
        obtain ⟨f2, k2⟩ := k1.frozen (p := a) (o := ErrO (He.ga X.K (nmS x.c)) dd a) ha errO_nt
        refine q _ _ _ (f1.trans f2) k2 ?_
        have hne : dd ≠ a := fun z => by
          rw [z, ha] at h2
          cases h2
        have r : Rp (kwOf X) (upd H1 a (ErrO (He.ga X.K (nmS x.c)) dd a)) (W1.frz a) (.err x.c x.ns x.xs) (.ref a) := .err (d := dd) (vs := vs) (.inr rfl) upd_same (.inl h1) (by rw [upd_ne hne]; exact h2) h3 (h4.fr f2)
        have hlen : l = σ'.length := by rw [hσ, hl]
        refine ⟨by simp [hlen], fun l' t hl' => ?_⟩
        by_cases hlj : j = l'
        · subst hlj
          have hjl : j < σ'.length := by rw [hσ]; exact (List.getElem?_eq_some_iff.mp hj).1
          rw [List.getElem?_set_self (by simpa [hlen] using hjl)] at hl'
          cases hl'
          exact ⟨.ref a, by rw [List.getElem?_set_ne hij, List.getElem?_set_self (by simpa using hjl)], r⟩
        · rw [List.getElem?_set_ne hlj] at hl'
          rw [List.getElem?_replicate] at hl'
          split at hl' <;> cases hl'
      · subst hb
        exact q _ _ _ _ f1 k1 ⟨rfl, dd, vs, rfl, h1, h2, h3, h4⟩
end
end Mr

namespace Mr
open PySem PySem.Spec PyProof.Rows L2

/-! ### keys -/
def keyT : T → Option KT
  | .int i => some (.int i)
  | .str x => some (.str x)
  | _ => none
def flatK : KT → Option Key
  | .int i => some (.inl i)
  | .str x => some (.inr ⟨x.toArray⟩)
  | .tup _ => none
theorem flat_of : ∀ k : Key, flatK (ofKey k) = some k
  | .inl i => rfl
  | .inr x => by
    obtain ⟨x⟩ := x
    show some (Sum.inr (⟨x.toList.toArray⟩ : Str)) = _
    simp
theorem of_flat : ∀ {k : KT} {k' : Key}, flatK k = some k' → ofKey k' = k
  | .int i, _, h => by cases h; rfl
  | .str x, _, h => by
    cases h
    show KT.str x.toArray.toList = _
    simp
theorem keyT_v {K : KW} {H : Hp} {W : Wd} {t : T} {k : KT} {v : V} (h : keyT t = some k) (r : Rp K H W t v) : ∃ k' : Key, flatK k = some k' ∧ v = kV k' := by
  cases t with
  | int i => cases h; cases r; exact ⟨.inl i, rfl, rfl⟩
  | str x => cases h; cases r; exact ⟨.inr ⟨x.toArray⟩, rfl, rfl⟩
  | _ => cases h
def kget (k : KT) : List KT → List T → Option T
  | k' :: ks, t :: ts => if KT.beq k' k = true then some t else kget k ks ts
  | _, _ => none
def khas (k : KT) : List KT → Bool
  | [] => false
  | k' :: ks => KT.beq k' k || khas k ks
def kput (k : KT) (t : T) : List KT → List T → List T
  | k' :: ks, x :: xs => (if KT.beq k' k = true then t else x) :: kput k t ks xs
  | _, _ => []
theorem beq_dec {a b : Key} : KT.beq (ofKey a) (ofKey b) = decide (a = b) := by
  cases h : KT.beq (ofKey a) (ofKey b) with
  | true => exact (decide_eq_true (ofKey_inj (KT.beq_iff.mp h))).symm
  | false =>
    refine (decide_eq_false fun z => ?_).symm
    rw [z, KT.beq_iff.mpr rfl] at h
    cases h
theorem khas_any {k : Key} : ∀ {keys : List Key} {vs : List V}, keys.length = vs.length → khas (ofKey k) (keys.map ofKey) = (keys.zip vs).any fun kv => decide (kv.1 = k)
  | [], vs, _ => rfl
  | a :: keys, [], h => by cases h
  | a :: keys, v :: vs, h => by
    show (KT.beq (ofKey a) (ofKey k) || khas (ofKey k) (keys.map ofKey)) = (decide (a = k) || (keys.zip vs).any _)
    rw [beq_dec, khas_any (by simpa using h)]
theorem kget_v {K : KW} {H : Hp} {W : Wd} {k : Key} : ∀ {keys : List Key} {ts : List T} {vs : List V}, keys.length = vs.length → RpL K H W ts vs → (∃ t v, kget (ofKey k) (keys.map ofKey) ts = some t ∧ valV (keys.zip vs) k = some v ∧ Rp K H W t v) ∨ (kget (ofKey k) (keys.map ofKey) ts = none ∧ valV (keys.zip vs) k = none)
  | [], ts, vs, h, r => .inr ⟨by cases ts <;> rfl, rfl⟩
  | a :: keys, ts, [], h, r => by cases h
  | a :: keys, _, v :: vs, h, .cons (t := t) (ts := ts) r rl => by
    show (∃ t' v', (if KT.beq (ofKey a) (ofKey k) = true then some t else kget (ofKey k) (keys.map ofKey) ts) = some t' ∧ valV ((a, v) :: keys.zip vs) k = some v' ∧ _) ∨ ((if KT.beq (ofKey a) (ofKey k) = true then some t else kget (ofKey k) (keys.map ofKey) ts) = none ∧ valV ((a, v) :: keys.zip vs) k = none)
    by_cases e : a = k
    · rw [beq_dec, if_pos (decide_eq_true e), valV_pos (p := (a, v)) e]
      exact .inl ⟨t, v, rfl, rfl, r⟩
    · rw [beq_dec, if_neg (by rw [decide_eq_false e]; exact Bool.false_ne_true), valV_neg (p := (a, v)) e]
      exact kget_v (by simpa using h) rl
theorem kput_v {K : KW} {H : Hp} {W : Wd} {k : Key} {t : T} {v : V} (rt : Rp K H W t v) : ∀ {keys : List Key} {ts : List T} {vs : List V}, keys.length = vs.length → RpL K H W ts vs → ∃ us, (keys.zip vs).map (fun kv => if kv.1 = k then (kv.1, v) else kv) = keys.zip us ∧ keys.length = us.length ∧ RpL K H W (kput (ofKey k) t (keys.map ofKey) ts) us
  | [], _, vs, h, r => ⟨[], rfl, rfl, by cases r <;> exact .nil⟩
  | a :: keys, ts, [], h, r => by cases h
  | a :: keys, _, x :: vs, h, .cons (t := y) (ts := ts) r rl => by
    obtain ⟨us, h1, h2, h3⟩ := kput_v rt (by simpa using h) rl
    by_cases e : a = k
    · refine ⟨v :: us, ?_, by simpa using h2, ?_⟩
      · show (if a = k then (a, v) else (a, x)) :: _ = (a, v) :: keys.zip us
        rw [if_pos e]
        exact congrArg (List.cons _) h1
      · show RpL K H W ((if KT.beq (ofKey a) (ofKey k) = true then t else y) :: _) _
        rw [beq_dec, if_pos (decide_eq_true e)]
        exact .cons rt h3
    · refine ⟨x :: us, ?_, by simpa using h2, ?_⟩
      · show (if a = k then (a, v) else (a, x)) :: _ = (a, x) :: keys.zip us
        rw [if_neg e]
        exact congrArg (List.cons _) h1
      · show RpL K H W ((if KT.beq (ofKey a) (ofKey k) = true then t else y) :: _) _
        rw [beq_dec, if_neg (by rw [decide_eq_false e]; exact Bool.false_ne_true)]
        exact .cons r h3
/-! ### a dict by its object -/
def asDic (μ : Mu) : T → Option (List KT × List T)
  | .dic ks ts => some (ks, ts)
  | .mr i => match rdM μ i with
    | some (.dic ks ts) => some (ks, ts)
    | _ => none
  | _ => none
/-- all its keys are ints and texts -/
def DkR (K : KW) (H : Hp) (W : Wd) (a : Addr) (ks : List KT) (ts : List T) : Prop := ∃ (b : Bool) (keys : List Key) (vs : List V), ks = keys.map ofKey ∧ (At H a b (.dK (keys.zip vs)) ∨ (keys = [] ∧ vs = [] ∧ (a == sysModules) = false ∧ At H a b (DN K.w a []))) ∧ keys.length = vs.length ∧ RpL K H W ts vs
def allFlat : List KT → Bool
  | [] => true
  | .tup _ :: _ => false
  | _ :: ks => allFlat ks
theorem flat_dn {K : PySem.W.Frag} {H : Hp} {a : Addr} {xs : List KAV} (h : DNk K H a xs) (hf : allFlat (xs.map (·.1)) = true) : xs = [] := by
  cases xs with
  | nil => rfl
  | cons x xs =>
    obtain ⟨ks, e⟩ := (h.ky x List.mem_cons_self).1
    rw [List.map_cons, e] at hf
    cases hf
theorem RpOb.dk {K : KW} {H : Hp} {W : Wd} {a : Addr} {b : Bool} {ks : List KT} {ts : List T} (r : RpOb K H W a b (.dic ks ts)) (hf : allFlat ks = true) : DkR K H W a ks ts := by
  rcases r with ⟨keys, vs, h1, h2, h3, h4⟩ | ⟨xs, h1, h2, h3, h4⟩
  · exact ⟨b, keys, vs, h1, .inl h2, h3, h4⟩
  · subst h1
    have e := flat_dn h3 hf
    subst e
    cases h4
    exact ⟨b, [], [], rfl, .inr ⟨rfl, rfl, h3.sys, h2⟩, rfl, .nil⟩
theorem asDic_dk {K : KW} {H : Hp} {W : Wd} {μ : Mu} {t : T} {ks : List KT} {ts : List T} {v : V} (k : Ok K H W μ) (r : Rp K H W t v) (h : asDic μ t = some (ks, ts)) (hf : allFlat ks = true) : ∃ a, v = .ref a ∧ DkR K H W a ks ts := by
  cases t with
  | dic ks' ts' =>
    cases h
    cases r with
    | dicK h0 h1 h2 l => exact ⟨_, rfl, true, _, _, rfl, .inl (.inr ⟨rfl, _, h1⟩), h2, l⟩
    | dicN h0 h1 h2 l =>
      have e := flat_dn h2 hf
      subst e
      cases l
      exact ⟨_, rfl, true, [], [], rfl, .inr ⟨rfl, rfl, h2.sys, .inr ⟨rfl, _, h1⟩⟩, rfl, .nil⟩
  | mr i =>
    cases r with
    | @mr _ a h1 =>
      have h' : (match rdM μ i with
        | some (.dic ks ts) => some (ks, ts)
        | _ => none) = some (ks, ts) := h
      cases hm : rdM μ i with
      | none => rw [hm] at h'; cases h'
      | some o =>
        rw [hm] at h'
        cases o with
        | dic ks' ts' =>
          cases h'
          obtain ⟨b, q⟩ := k.rd h1 hm
          exact ⟨a, rfl, q.dk hf⟩
        | _ => cases h'
  | _ => cases h
section
variable {X : Cx} {E : XK} {pins : List (Addr × Obj)} {σ : L2.St} {H : Hp} {s : Shared} {a : Addr}
theorem at_rd {b : Bool} {u : HO} (h : At H a b u) : Rd H a u := h.imp id fun z => z.2
theorem dn_nil {w : World} {P : Program} {h : Heap} (x : ObjOk P w H h a (DN w a [])) : h.DictOf (mixKind P w) a [] := by
  obtain ⟨⟨o, es, ep, us, e1, e2, e3, e4, e5⟩, _⟩ := x
  cases e4
  have e6 : es.toList = [] := e5
  have e7 : es = #[] := by
    cases es with
    | mk l => cases e6; rfl
  subst e7
  exact ⟨o, #[], ep, e1, e2, e3, by intro e he; simp at he, .nil, by simp⟩
theorem dkR_at {W : Wd} {ks : List KT} {ts : List T} (I : Inv X pins σ H s) (d : DkR (kwOf X) H W a ks ts) : ∃ (keys : List Key) (vs : List V) (us : List (Key × Value)), ks = keys.map ofKey ∧ keys.length = vs.length ∧ RpL (kwOf X) H W ts vs ∧ (keys.zip vs).length ≤ sizeLine ∧ (a == sysModules) = false ∧ KV (keys.zip vs) us ∧ s.heap.DictOf (mixKind X.prog X.w) a us := by
  obtain ⟨b, keys, vs, e1, e2, e3, e4⟩ := d
  rcases e2 with e2 | ⟨rfl, rfl, sy, e2⟩
  · obtain ⟨z, hd, us, rel, dd⟩ := dk_rd I.hok (at_rd e2)
    exact ⟨keys, vs, us, e1, e3, e4, z, hd, rel, dd⟩
  · refine ⟨[], [], [], e1, e3, e4, Nat.zero_le _, sy, .nil, ?_⟩
    have x : ObjOk X.prog X.w H s.heap a (DN X.w a []) := rd_of I.hok (at_rd e2)
    exact dn_nil x
/-! ### d[k], k in d -/
def gIxD : G2 := fun x y μ => match asDic μ x with
  | some (ks, ts) => match keyT y with
    | some k => if allFlat ks = true then match kget k ks ts with
        | some t => .ok t μ
        | none => .bad
      else .bad
    | none => .bad
  | none => gIx x y μ
theorem ix_dict {W : Wd} {μ : Mu} {ks : List KT} {ts : List T} {k : KT} {t : T} {tx ty : T} {value slice : Expr} {x y : V} {v u : Value} {Q : VK} (I : Inv X pins σ H s) (rx : RelV x v) (ry : RelV y u) (ok : Ok (kwOf X) H W μ) (r1 : Rp (kwOf X) H W tx x) (r2 : Rp (kwOf X) H W ty y)
    (h1 : asDic μ tx = some (ks, ts)) (h2 : keyT ty = some k) (hf : allFlat ks = true) (h3 : kget k ks ts = some t) (hs : subscripted slice false v u = operate [v, u] (getItem v u)) (hq : ∀ w, Rp (kwOf X) H W t w → Q w H) :
    wpAny (model X.prog X.w) X.A (subscriptTail value slice v u) (EP X pins σ Q) X.xe s := by
  obtain ⟨a, rfl, d⟩ := asDic_dk ok r1 h1 hf
  obtain ⟨k', e1, rfl⟩ := keyT_v h2 r2
  have z : v = Value.ref a := rx
  subst z
  obtain ⟨keys, vs, us, rfl, hl, rl, _, hd, rel, dd⟩ := dkR_at I d
  have ek := of_flat e1
  subst ek
  rcases kget_v (k := k') hl rl with ⟨t', w, g1, g2, g3⟩ | ⟨g1, _⟩
  · rw [h3] at g1
    cases g1
    obtain ⟨w', hw, rw'⟩ := RelO.some_of (v := w) (o := valueAt us k') (by rw [← g2]; exact rel.val k')
    unfold subscriptTail
    refine wpAny_bind ?_
    rw [getitemInPython_of_ne dd.typeIs.not_modules]
    refine wpAny_bind (wpAny_specialOf dd.typeIs PySem.F.slot_dict_getitem.lookup ?_)
    have fin : wpAny (model X.prog X.w) X.A (subscripted slice false (.ref a) u) (fun r s₃ => wpAny (model X.prog X.w) X.A (letTemporaryGo value (.ref a) r >>= fun _ => pure r) (EP X pins σ Q) X.xe s₃) X.xe s := by
      rw [hs]
      exact wpAny_operating (wpAny_getItem_of (kV_is ry) dd.mapOf hw (wpAny_bind (wpAny_letTemporaryGo (wpAny_pure ⟨w, H, I.tok _, rw', hq w g3⟩))))
    first
      | exact wpAny_pure (wpAny_bind fin)
      | exact wpAny_bind (wpAny_pure (wpAny_bind fin))
      | exact wpAny_bind fin
  · rw [h3] at g1
    cases g1
theorem xIxD : IxR X (rM (kwOf X) E gIxD) := by
  intro value slice pins s σ H x y v u Q I rx ry ⟨W, μ, tx, ty, k, r1, r2, q⟩ hs
  unfold gIxD at q
  split at q
  · rename_i ks ts h1
    split at q
    · rename_i key h2
      split at q
      · rename_i hf
        split at q
        · rename_i t h3
          exact ix_dict I rx ry k r1 r2 h1 h2 hf h3 hs fun w rw => Po.go (R := Rp (kwOf X)) q Fr.refl k rw
        · exact q.elim
      · exact q.elim
    · exact q.elim
  · exact xIx (E := E) value slice pins s σ H x y v u Q I rx ry ⟨W, μ, tx, ty, k, r1, r2, q⟩ hs
theorem je_ixD {e i : Expr} {me mi : ME} {pos : Pos} (ha : JE X E e me) (hb : JE X E i mi) (hs : PlainIx i := by intro _ _; rfl) : JE X E (.Subscript e i pos) (mOp gIxD me mi) := PE_imp (pe_ix xIxD ha hb hs) (tOp_M fun _ _ _ _ h => h)
/-- y in x, y not in x -/
def flatT : T → Bool
  | .non => true
  | .bl _ => true
  | .int _ => true
  | .str _ => true
  | _ => false
def eqF : T → T → Bool
  | .non, .non => true
  | .bl a, .bl b => a == b
  | .bl a, .int i => decide ((if a = true then 1 else 0) = i)
  | .int i, .bl a => decide (i = (if a = true then 1 else 0))
  | .int i, .int j => decide (i = j)
  | .str x, .str y => eqNs x y
  | _, _ => false
def inT (x : T) : List T → Bool
  | [] => false
  | y :: ys => eqF y x || inT x ys
def allFl : List T → Bool
  | [] => true
  | y :: ys => flatT y && allFl ys
def gIn (neg : Bool) : G2 := fun x y μ => match y with
  | .str z => match x with
    | .str [c] => .ok (.bl (if neg = true then !z.elem c else z.elem c)) μ
    | _ => .bad
  | y => match asDic μ y with
    | some (ks, _) => match keyT x with
      | some k => if allFlat ks = true then .ok (.bl (if neg = true then !khas k ks else khas k ks)) μ else .bad
      | none => .bad
    | none => match asSeq μ y with
      | some ts => if (flatT x && allFl ts) = true then .ok (.bl (if neg = true then !inT x ts else inT x ts)) μ else .bad
      | none => .bad
theorem eqF_v {K : KW} {W : Wd} {x y : T} {v u : V} (hx : flatT x = true) (hy : flatT y = true) (rx : Rp K H W x v) (ry : Rp K H W y u) : eqF x y = eqV v u := by
  have str : ∀ a b : List Nat, eqNs a b = ((⟨a.toArray⟩ : Str) == ⟨b.toArray⟩) := fun a b => by
    cases h : eqNs a b with
    | true =>
      rw [eqNs_iff.mp h]
      simp
    | false =>
      refine (beq_eq_false_iff_ne.mpr fun z => ?_).symm
      have e : a = b := by
        have := congrArg (fun s : Str => s.cps.toList) z
        simpa using this
      rw [eqNs_iff.mpr e] at h
      cases h
  cases x <;> cases hx <;> cases rx <;> cases y <;> cases hy <;> cases ry <;> first | rfl | exact str _ _ | (simp [eqF, eqV]; done) | skip
theorem flat_v {K : KW} {W : Wd} {x : T} {v : V} (hx : flatT x = true) (rx : Rp K H W x v) : flatV v = true := by
  cases x <;> cases hx <;> cases rx <;> rfl
theorem allFl_v {K : KW} {W : Wd} : ∀ {ts : List T} {vs : List V}, allFl ts = true → RpL K H W ts vs → vs.all flatV = true
  | [], _, _, .nil => rfl
  | t :: ts, _, h, .cons r rl => by
    obtain ⟨h1, h2⟩ := Bool.and_eq_true_iff.mp (show (flatT t && allFl ts) = true from h)
    rw [List.all_cons, flat_v h1 r, allFl_v h2 rl, Bool.true_and]
theorem inT_v {K : KW} {W : Wd} {x : T} {v : V} (hx : flatT x = true) (rx : Rp K H W x v) : ∀ {ts : List T} {vs : List V}, allFl ts = true → RpL K H W ts vs → inT x ts = inV v vs
  | [], _, _, .nil => rfl
  | t :: ts, _, h, .cons (v := u) (vs := us) r rl => by
    obtain ⟨h1, h2⟩ := Bool.and_eq_true_iff.mp (show (flatT t && allFl ts) = true from h)
    show (eqF t x || inT x ts) = (eqV u v || inV v us)
    rw [eqF_v h1 hx r rx, inT_v hx rx h2 rl]
theorem in_dict {W : Wd} {ks : List KT} {ts : List T} {k : KT} {y : V} {u : Value} {A : Around} (I : Inv X pins σ H s) (d : DkR (kwOf X) H W a ks ts) (k' : Key) (e1 : flatK k = some k') (ry : RelV (kV k') u) {Q : Value → Shared → Prop} {Er : Value → Shared → Prop} :
    ((∀ s', Inv X pins σ H s' → Q (.bool (khas k ks)) s') → wpAny (model X.prog X.w) A (compareOp .In u (.ref a)) Q Er s) ∧ ((∀ s', Inv X pins σ H s' → Q (.bool (!khas k ks)) s') → wpAny (model X.prog X.w) A (compareOp .NotIn u (.ref a)) Q Er s) := by
  obtain ⟨keys, vs, us, rfl, hl, rl, _, hd, rel, dd⟩ := dkR_at I d
  have ek := of_flat e1
  subst ek
  have e2 : khas (ofKey k') (keys.map ofKey) = (valueAt us k').isSome := by
    rw [khas_any hl, valV_any, (rel.val k').isSome_eq]
  rw [e2]
  exact ⟨fun h => wpAny_in_of (kV_is ry) hd dd.mapOf (h _ (I.tok _)), fun h => wpAny_notIn_of (kV_is ry) hd dd.mapOf (h _ (I.tok _))⟩
theorem in_cases {neg : Bool} {W : Wd} {μ : Mu} {tx ty : T} {x y : V} {v u : Value} {Q : VK} {op : CmpOp} (hop : op = if neg = true then .NotIn else .In) (I : Inv X pins σ H s) (rx : RelV x v) (ry : RelV y u) (k : Ok (kwOf X) H W μ) (r1 : Rp (kwOf X) H W tx x) (r2 : Rp (kwOf X) H W ty y)
    (q : PoE (kwOf X) E H W Q (gIn neg tx ty μ)) : wpAny (model X.prog X.w) X.A (compareOp op v u) (EP X pins σ Q) X.xe s := by
  have seq : ∀ ty, Rp (kwOf X) H W ty y → PoE (kwOf X) E H W Q (match asDic μ ty with
    | some (ks, _) => match keyT tx with
      | some k => if allFlat ks = true then .ok (.bl (if neg = true then !khas k ks else khas k ks)) μ else .bad
      | none => .bad
    | none => match asSeq μ ty with
      | some ts => if (flatT tx && allFl ts) = true then .ok (.bl (if neg = true then !inT tx ts else inT tx ts)) μ else .bad
      | none => .bad) → wpAny (model X.prog X.w) X.A (compareOp op v u) (EP X pins σ Q) X.xe s := fun ty r2 q => by
    split at q
    · rename_i ks ts h1
      split at q
      · rename_i key h2
        split at q
        · rename_i hf
          obtain ⟨a, rfl, d⟩ := asDic_dk k r2 h1 hf
          obtain ⟨k', e1, rfl⟩ := keyT_v h2 r1
          have z : u = Value.ref a := ry
          subst z
          have := in_dict (A := X.A) (y := .ref a) (Q := EP X pins σ Q) (Er := X.xe) I d k' e1 rx
          cases neg with
          | false =>
            subst hop
            exact this.1 fun s' I' => ⟨.bl _, H, I', rfl, Po.go (R := Rp (kwOf X)) q Fr.refl k (.bl _)⟩
          | true =>
            subst hop
            exact this.2 fun s' I' => ⟨.bl _, H, I', rfl, Po.go (R := Rp (kwOf X)) q Fr.refl k (.bl _)⟩
        · exact q.elim
      · exact q.elim
    · split at q
      · rename_i ts h1
        split at q
        · rename_i hf
          obtain ⟨f1, f2⟩ := Bool.and_eq_true_iff.mp hf
          obtain ⟨p, vs, rfl, z, l⟩ := asSeq_sq k r2 h1
          have e := inT_v f1 r1 f2 l
          have fin := Po.go (R := Rp (kwOf X)) q Fr.refl k (.bl _)
          rw [e] at fin
          cases neg with
          | false =>
            subst hop
            exact op_in_seq pins s σ H _ _ v u Q I rx ry ⟨p, vs, rfl, z, flat_v f1 r1, allFl_v f2 l, fin⟩
          | true =>
            subst hop
            exact op_notIn_seq pins s σ H _ _ v u Q I rx ry ⟨p, vs, rfl, z, flat_v f1 r1, allFl_v f2 l, fin⟩
        · exact q.elim
      · exact q.elim
  unfold gIn at q
  split at q
  · split at q
    · rename_i z xx c
      cases r1; cases r2
      have fin := Po.go (R := Rp (kwOf X)) q Fr.refl k (.bl _)
      have e : z.elem c = decide (c ∈ z) := by simp
      rw [e] at fin
      cases neg with
      | false =>
        subst hop
        exact op_in_sign pins s σ H _ _ v u Q I rx ry ⟨c, _, rfl, rfl, fin⟩
      | true =>
        subst hop
        exact op_notIn_sign pins s σ H _ _ v u Q I rx ry ⟨c, _, rfl, rfl, fin⟩
    · exact q.elim
  · exact seq _ r2 q
theorem oIn : OpR X (compareOp .In) (rM (kwOf X) E (gIn false)) := fun pins s σ H x y v u Q I rx ry ⟨W, μ, tx, ty, k, r1, r2, q⟩ => in_cases (neg := false) rfl I rx ry k r1 r2 q
theorem oNotIn : OpR X (compareOp .NotIn) (rM (kwOf X) E (gIn true)) := fun pins s σ H x y v u Q I rx ry ⟨W, μ, tx, ty, k, r1, r2, q⟩ => in_cases (neg := true) rfl I rx ry k r1 r2 q
/-! ### d[k] = v -/
def putD (k : KT) (t : T) (ks : List KT) (ts : List T) : MO := if khas k ks = true then .dic ks (kput k t ks ts) else .dic (ks ++ [k]) (ts ++ [t])
def gStD (mo mi : ME) : MG := fun v ρ μ => (mo ρ μ).bind fun x μ1 => (mi ρ μ1).bind fun y μ2 => match x with
  | .mr j => match μ2[j]? with
    | some (.lst ts) => match y with
      | .int n => match ixN ts.length n with
        | some l => .ok ρ (μ2.set j (.lst (ts.set l v)))
        | none => .bad
      | _ => .bad
    | some (.dic ks ts) => match keyT y with
      | some k => if (allFlat ks && Nat.blt ks.length 100000) = true then .ok ρ (μ2.set j (putD k v ks ts)) else .bad
      | none => .bad
    | _ => .bad
  | _ => .bad
theorem Ok.putD {K : KW} {W : Wd} {μ : Mu} {j : Nat} {k' : Key} {key : KT} {tv : T} {v : V} {keys : List Key} {ts : List T} {vs : List V} {m0 : MO} (k : Ok K H W μ) (h : W.e[j]? = some a) (hm : μ[j]? = some m0) (hw : Wr (H a)) (hl : keys.length = vs.length) (rl : RpL K H W ts vs) (e1 : flatK key = some k') (rv : Rp K H W tv v) :
    Fr H W (upd H a (.dK (putK (keys.zip vs) k' v))) W ∧ Ok K (upd H a (.dK (putK (keys.zip vs) k' v))) W (μ.set j (Mr.putD key tv (keys.map ofKey) ts)) := by
  have ek := of_flat e1
  subst ek
  have nt : NT (upd H a (.dK (putK (keys.zip vs) k' v)) a) := by rw [upd_same]; exact NT.of fun _ z => nomatch z
  have f0 := (k.write (x := .dead) h hw nt).1.toRf
  refine k.write (x := Mr.putD (ofKey k') tv (keys.map ofKey) ts) h hw ?_
  unfold Mr.putD
  rw [khas_any hl]
  unfold putK
  by_cases ha : ((keys.zip vs).any fun kv => decide (kv.1 = k')) = true
  · rw [if_pos ha, if_pos ha]
    obtain ⟨us, h1, h2, h3⟩ := kput_v (k := k') rv hl rl
    have f1 : Rf H W (upd H a (.dK (keys.zip us))) W := by
      unfold putK at f0
      rw [if_pos ha, h1] at f0
      exact f0
    rw [h1]
    exact .inl ⟨keys, us, rfl, .inl upd_same, h2, h3.rf f1⟩
  · rw [if_neg ha, if_neg ha]
    have e : keys.zip vs ++ [(k', v)] = (keys ++ [k']).zip (vs ++ [v]) := by rw [List.zip_append hl] <;> rfl
    unfold putK at f0
    rw [if_neg ha] at f0
    rw [e] at f0 ⊢
    exact .inl ⟨keys ++ [k'], vs ++ [v], by simp, .inl upd_same, by simp [hl], (rl.append (.cons rv .nil)).rf f0⟩
/-- a store into what the world's j stands at -/
def rSetD (K : KW) (W : Wd) (μ : Mu) : V → V → V → Hp → (Hp → Prop) → Prop := fun o i v H Q => ∃ (a : Addr) (ks : List KT) (ts : List T) (j : Nat) (k : KT) (k' : Key) (tv : T), o = .ref a ∧ Ok K H W μ ∧ W.e[j]? = some a ∧ μ[j]? = some (.dic ks ts) ∧ allFlat ks = true ∧ ks.length < 100000 ∧ flatK k = some k' ∧ i = kV k' ∧ Rp K H W tv v ∧
  ∀ H', Fr H W H' W → Ok K H' W (μ.set j (Mr.putD k tv ks ts)) → Q H'
theorem set_dict : PSet X (fun o i v H Q => ∃ W μ, rSetD (kwOf X) W μ o i v H Q) := by
  intro pins s σ H o i v ov iv u Q I ro ri rv ⟨W, μ, a, ks, ts, j, k, k', tv, eo, ok, hj, hm, hf, hlen, e1, ei, rt, hq⟩
  subst eo ei
  have z : ov = Value.ref a := ro
  subst z
  have r := (ok.ob j a _ hj hm).dk hf
  obtain ⟨keys, vs, us, rfl, hl, rl, hz, hd, rel, dd⟩ := dkR_at I r
  have hw : Wr (H a) ∧ Mut (H a) := by
    rcases ok.ob j a _ hj hm with ⟨keys', vs', g1, g2, g3, g4⟩ | ⟨xs, g1, g2, g3, g4⟩
    · have e := g2.elim id fun z => absurd z.1 Bool.false_ne_true
      rw [e]
      exact ⟨Wr.dK, True.intro⟩
    · have e := g2.elim id fun z => absurd z.1 Bool.false_ne_true
      rw [e]
      exact ⟨Wr.DN, True.intro⟩
  obtain ⟨f2, k2⟩ := Ok.putD (tv := tv) (v := v) ok hj hm hw.1 hl rl e1 rt
  have hus : us.length ≤ sizeLine := by rw [← rel.length]; exact hz
  have hl2 : (putK (keys.zip vs) k' v).length ≤ sizeLine := by
    have h1 := length_putK (keys.zip vs) k' v
    rw [List.length_zip, ← hl, Nat.min_self] at h1
    rw [List.length_map] at hlen
    rw [sizeLine_eq]
    omega
  refine wpAny_setItem_pairs (hsz := hus) (kV_is ri) dd fun h' dd' hs => ?_
  have he : ∃ q, h'.get? a = some q := let ⟨q, _, _, hq, _⟩ := dd'; ⟨q, hq⟩
  exact ⟨_, d_write I hw.2 hs he (dk_new hl2 hd (rel.put k' rv) dd'), hq _ f2 k2⟩
theorem PSet.or {t t' : TSet} (h : PSet X t) (h' : PSet X t') : PSet X (fun o i v H Q => t o i v H Q ∨ t' o i v H Q) := fun pins s σ H o i v ov iv u Q I ro ri rv q => q.elim (h pins s σ H o i v ov iv u Q I ro ri rv) (h' pins s σ H o i v ov iv u Q I ro ri rv)
theorem jg_subD {o i : Expr} {mo mi : ME} {pos : Pos} {vs : List Nat} (ho : JE X E o mo) (hi : JE X E i mi) (ha : ∀ v, assign (.Subscript o i pos) X.env v = (do
      let ov ← holding [v] (eval o X.env)
      let iv ← holding [v, ov] (eval i X.env)
      standAt pos
      holding [v, ov, iv] (setItem ov iv v)
      release [v, ov, iv] []) := by intro _; rfl) : JG X E vs (.Subscript o i pos) (gStD mo mi) := PG_imp (pg_sub ho hi (PSet.or set_list set_dict) ha) fun v σ H Q ⟨W, ρ, μ, t, k, st, r, q⟩ => by
  refine ⟨W, ρ, μ, k, st, ?_⟩
  unfold gStD at q
  cases h1 : mo ρ μ with
  | bad => rw [h1] at q; exact q.elim
  | exc x m => rw [h1] at q; exact q
  | ok x μ1 =>
    rw [h1] at q
    intro H1 W1 vx f1 k1 r1
    refine ⟨W1, ρ, μ1, k1, st.fr f1, ?_⟩
    simp only [Out.bind_ok] at q
    cases h2 : mi ρ μ1 with
    | bad => rw [h2] at q; exact q.elim
    | exc x m => rw [h2] at q; exact fun H' W' c d f k r => q H' W' c d (f1.trans f) k r
    | ok y μ2 =>
      rw [h2] at q
      intro H2 W2 vy f2 k2 r2
      simp only [Out.bind_ok] at q
      split at q
      · rename_i j
        cases r1 with
        | @mr _ a e1 =>
          have e2 := f2.et _ _ e1
          have rt := (r.fr f1).fr f2
          split at q
          · rename_i ts hm
            split at q
            · rename_i n
              split at q
              · rename_i l hl
                cases r2
                obtain ⟨ws, e3, e4⟩ := k2.ob _ _ _ e2 hm
                have e5 := e4.set rt l
                refine .inl ⟨_, ws, n, l, rfl, rfl, e3, by rw [← e4.length]; exact hl, ?_⟩
                have f0 : Rf H2 W2 (upd H2 _ (.lst (ws.set l v))) W2 := (k2.write (x := .dead) e2 (by rw [e3]; exact Wr.lst) (show NT (upd H2 _ (.lst (ws.set l v)) _) by rw [upd_same]; exact NT.lst)).1.toRf
                obtain ⟨f, k'⟩ := k2.write (x := .lst (ts.set l t)) e2 (by rw [e3]; exact Wr.lst) ⟨_, upd_same, e5.rf f0⟩
                exact q _ _ _ ((f1.trans f2).trans f) k' (((st.fr f1).fr f2).fr f) rfl
              · exact q.elim
            · exact q.elim
          · rename_i ks ts hm
            split at q
            · rename_i key hk
              split at q
              · rename_i hf
                obtain ⟨g1, g2⟩ := Bool.and_eq_true_iff.mp hf
                obtain ⟨k', e3, e4⟩ := keyT_v hk r2
                subst e4
                exact .inr ⟨W2, μ2, a, ks, ts, j, key, k', t, rfl, k2, e2, hm, g1, Nat.le_of_ble_eq_true g2, e3, rfl, rt, fun H3 f3 k3 => q _ _ _ ((f1.trans f2).trans f3) k3 (((st.fr f1).fr f2).fr f3) rfl⟩
              · exact q.elim
            · exact q.elim
          · exact q.elim
      · exact q.elim
/-! ### displays: {} and {k: v, ..} -/
def mDic0 : ME := fun _ μ => .ok (.mr μ.length) (μ ++ [.dic [] []])
theorem Ok.pushO {K : KW} {W : Wd} {m : Mu} {p : Addr} {o : HO} {x : MO} (k : Ok K H W m) (hp : H p = none) (r : RpO K (upd H p o) (W.psh p) p x) :
    Fr H W (upd H p o) (W.psh p) ∧ Ok K (upd H p o) (W.psh p) (m ++ [x]) := by
  have f : Fr H W (upd H p o) (W.psh p) := fr_new hp rfl (fun a h => (k.gk a h).1) (fun a h => (k.fk a h).1.1) (fun _ h => h) fun i a h => by
    show (W.e ++ [p])[i]? = some a
    rw [List.getElem?_append_left (List.getElem?_eq_some_iff.mp h).1]; exact h
  have hnp : p ∉ W.e := fun z => k.known z hp
  refine ⟨f, by show (W.e ++ [p]).length = _; simp [k.len], ?_, fun a ha => ?_, fun a h => ?_, fun a h => ?_, fun i a x h1 h2 => ?_⟩
  · refine List.nodup_append.mpr ⟨k.nd, by simp, fun a ha b hb => ?_⟩
    rintro rfl
    have : a = p := by simpa using hb
    exact hnp (this ▸ ha)
  · rcases List.mem_append.mp ha with ha | ha
    · exact k.nf a ha
    · have : a = p := by simpa using ha
      subst this
      exact ⟨fun h => (k.fk a h).1.1 hp, fun h => (k.gk a h).1 hp⟩
  · rw [(f.fz a h).2]; exact k.fk a h
  · rw [f.gz a h]; exact k.gk a h
  · have h1 : (W.e ++ [p])[i]? = some a := h1
    by_cases hi : i < W.e.length
    · rw [List.getElem?_append_left hi] at h1
      rw [List.getElem?_append_left (by rw [← k.len]; exact hi)] at h2
      have hne : a ≠ p := fun z => hnp (z ▸ List.mem_of_getElem? h1)
      exact (k.ob i a x h1 h2).fr f (upd_ne hne)
    · rw [List.getElem?_append_right (by omega)] at h1
      rw [List.getElem?_append_right (by have := k.len; omega), ← k.len] at h2
      cases hz : i - W.e.length with
      | zero =>
        rw [hz] at h1 h2
        cases h1; cases h2
        exact r
      | succ n =>
        rw [hz] at h1
        simp at h1
theorem psh_at {W : Wd} {μ : Mu} {p : Addr} {K : KW} {H : Hp} (k : Ok K H W μ) : (W.psh p).e[μ.length]? = some p := by
  show (W.e ++ [p])[μ.length]? = some p
  rw [← k.len, List.getElem?_append_right (Nat.le_refl _), Nat.sub_self] <;> rfl
theorem je_dic0 {pos : Pos} : JE X E (.Dict [] [] pos) mDic0 := PE_imp pe_dnewK fun σ H Q ⟨W, ρ, μ, k, st, q⟩ => fun p hp => by
  obtain ⟨f, k'⟩ := Ok.pushO (o := .dK []) (x := .dic [] []) k hp (.inl ⟨[], [], rfl, .inl upd_same, rfl, .nil⟩)
  exact Po.go (R := Rp (kwOf X)) q f k' (.mr (psh_at k))
end
end Mr

namespace Mr
open PySem PySem.Spec PyProof.Rows L2

section
variable {K : KW} {H H' : Hp} {W W' : Wd}
/-- the guarded object is written by who guards it -/
theorem Ok.gwriteO {m : Mu} {p : Addr} {o : HO} {G0 : Addr → Prop} (k : Ok K H W m) (hg : W.G p) (h0 : ¬ G0 p) (hG : ∀ a, G0 a → W.G a) (hp : Wr (H p)) (ho : ∀ ps, o ≠ .tbl ps) : Fr H (W.un G0) (upd H p o) (W.un G0) ∧ Ok K (upd H p o) W m ∧ Rf H W (upd H p o) W := by
  have nF : ¬ W.F p := fun z => (k.fk p z).2 hg
  have f : Rf H W (upd H p o) W := by
    refine ⟨fun b hb => ⟨hb, upd_ne fun z => nF (z ▸ hb)⟩, fun b xs hb => ?_, fun b u v hb => ?_, fun _ _ q => q⟩
    · rw [upd_ne fun z => hp.2.1 xs (by rw [← z]; exact hb)]; exact hb
    · rw [upd_ne fun z => hp.2.2 u v (by rw [← z]; exact hb)]; exact hb
  refine ⟨⟨rf_nu.trans (f.trans rf_un), rfl, fun a g => upd_ne fun z => h0 (z ▸ g)⟩, ⟨k.len, k.nd, k.nf, fun a h => ⟨by rw [(f.fz a h).2]; exact (k.fk a h).1, (k.fk a h).2⟩, fun a g => ?_, fun i a x h1 h2 => ?_⟩, f⟩
  · by_cases z : a = p
    · subst z; rw [upd_same]; exact NT.of ho
    · rw [upd_ne z]; exact k.gk a g
  · have hne : a ≠ p := fun z => (k.nf a (List.mem_of_getElem? h1)).2 (z ▸ hg)
    exact (k.ob i a x h1 h2).rf f (upd_ne hne)
/-- the guarded object goes to the store -/
theorem Ok.gpushO {m : Mu} {p : Addr} {G0 : Addr → Prop} {x : MO} (k : Ok K H W m) (hg : W.G p) (h0 : ¬ G0 p) (hG : ∀ a, G0 a → W.G a) (r : RpO K H ((W.un G0).psh p) p x) :
    Fr H (W.un G0) H ((W.un G0).psh p) ∧ Ok K H ((W.un G0).psh p) (m ++ [x]) := by
  have f : Fr H (W.un G0) H ((W.un G0).psh p) := ⟨⟨fun _ h => ⟨h, rfl⟩, fun _ _ h => h, fun _ _ _ h => h, fun i a h => by
    have h : W.e[i]? = some a := h
    show (W.e ++ [p])[i]? = some a
    rw [List.getElem?_append_left (List.getElem?_eq_some_iff.mp h).1]; exact h⟩, rfl, fun _ _ => rfl⟩
  have hnp : p ∉ W.e := fun z => (k.nf p z).2 hg
  refine ⟨f, by show (W.e ++ [p]).length = _; simp [k.len], ?_, fun a ha => ?_, fun a h => ⟨(k.fk a h).1, fun g => (k.fk a h).2 (hG a g)⟩, fun a g => k.gk a (hG a g), fun i a x h1 h2 => ?_⟩
  · refine List.nodup_append.mpr ⟨k.nd, by simp, fun a ha b hb => ?_⟩
    rintro rfl
    have : a = p := by simpa using hb
    exact hnp (this ▸ ha)
  · rcases List.mem_append.mp ha with ha | ha
    · exact ⟨(k.nf a ha).1, fun g => (k.nf a ha).2 (hG a g)⟩
    · have : a = p := by simpa using ha
      subst this
      exact ⟨fun h => (k.fk a h).2 hg, h0⟩
  · have h1 : (W.e ++ [p])[i]? = some a := h1
    by_cases hi : i < W.e.length
    · rw [List.getElem?_append_left hi] at h1
      rw [List.getElem?_append_left (by rw [← k.len]; exact hi)] at h2
      exact (k.ob i a x h1 h2).rf (rf_un.trans f.toRf) rfl
    · rw [List.getElem?_append_right (by omega)] at h1
      rw [List.getElem?_append_right (by have := k.len; omega), ← k.len] at h2
      cases hz : i - W.e.length with
      | zero =>
        rw [hz] at h1 h2
        cases h1; cases h2
        exact r
      | succ n =>
        rw [hz] at h1
        simp at h1
end
/-! ### merging -/
def put2 (k : KT) (t : T) (p : List KT × List T) : List KT × List T := if khas k p.1 = true then (p.1, kput k t p.1 p.2) else (p.1 ++ [k], p.2 ++ [t])
def merge2 (p : List KT × List T) : List (KT × T) → List KT × List T
  | [] => p
  | (k, t) :: r => merge2 (put2 k t p) r
theorem put2_rel {K : KW} {H : Hp} {W : Wd} {k' : Key} {t : T} {v : V} {keys : List Key} {ts : List T} {vs : List V} (hl : keys.length = vs.length) (rl : RpL K H W ts vs) (rv : Rp K H W t v) :
    ∃ (keys' : List Key) (vs' : List V) (ts' : List T), put2 (ofKey k') t (keys.map ofKey, ts) = (keys'.map ofKey, ts') ∧ putK (keys.zip vs) k' v = keys'.zip vs' ∧ keys'.length = vs'.length ∧ RpL K H W ts' vs' := by
  unfold put2 putK
  rw [khas_any hl]
  by_cases ha : ((keys.zip vs).any fun kv => decide (kv.1 = k')) = true
  · rw [if_pos ha, if_pos ha]
    obtain ⟨us, h1, h2, h3⟩ := kput_v (k := k') rv hl rl
    exact ⟨keys, us, _, rfl, h1, h2, h3⟩
  · rw [if_neg ha, if_neg ha]
    exact ⟨keys ++ [k'], vs ++ [v], ts ++ [t], by simp, by rw [List.zip_append hl] <;> rfl, by simp [hl], rl.append (.cons rv .nil)⟩
theorem merge2_rel {K : KW} {H : Hp} {W : Wd} : ∀ {kts : List (KT × T)} {kvs : List (Key × V)} {keys : List Key} {ts : List T} {vs : List V}, Paired (fun (p : KT × T) (q : Key × V) => p.1 = ofKey q.1 ∧ Rp K H W p.2 q.2) kts kvs → keys.length = vs.length → RpL K H W ts vs →
    ∃ (keys' : List Key) (vs' : List V) (ts' : List T), merge2 (keys.map ofKey, ts) kts = (keys'.map ofKey, ts') ∧ mergeK (keys.zip vs) kvs = keys'.zip vs' ∧ keys'.length = vs'.length ∧ RpL K H W ts' vs'
  | [], _, keys, ts, vs, r, hl, rl => by
    cases r
    exact ⟨keys, vs, ts, rfl, rfl, hl, rl⟩
  | (k, t) :: kts, _, keys, ts, vs, r, hl, rl => by
    cases r with
    | @cons _ q _ kvs r rr =>
      obtain ⟨e, rv⟩ := r
      obtain ⟨keys1, vs1, ts1, h1, h2, h3, h4⟩ := put2_rel (k' := q.1) hl rl rv
      obtain ⟨keys2, vs2, ts2, g1, g2, g3, g4⟩ := merge2_rel rr h3 h4
      refine ⟨keys2, vs2, ts2, ?_, ?_, g3, g4⟩
      · show merge2 (put2 k t (keys.map ofKey, ts)) kts = _
        have e : k = ofKey q.1 := e
        rw [e, h1]
        exact g1
      · show mergeK (putK (keys.zip vs) q.1 q.2) kvs = _
        rw [h2]
        exact g2
/-- keys and values, one behind another -/
def pairs2 : List T → Option (List (KT × T))
  | [] => some []
  | k :: t :: r => match keyT k with
    | some k' => match pairs2 r with
      | some l => some ((k', t) :: l)
      | none => none
    | none => none
  | _ => none
def flat2 : List (V × V) → List V
  | [] => []
  | (a, b) :: r => a :: b :: flat2 r
theorem pairs2_rel {K : KW} {H : Hp} {W : Wd} : ∀ {ts : List T} {l : List (KT × T)} {vs : List V}, pairs2 ts = some l → RpL K H W ts vs → ∃ kvs : List (Key × V), vs = flat2 (kvs.map fun kv => (kV kv.1, kv.2)) ∧ Paired (fun (p : KT × T) (q : Key × V) => p.1 = ofKey q.1 ∧ Rp K H W p.2 q.2) l kvs
  | [], l, vs, h, r => by
    cases h
    cases r
    exact ⟨[], rfl, .nil⟩
  | [t], l, ps, h, r => by cases h
  | k :: t :: ts, l, vs, h, r => by
    unfold pairs2 at h
    split at h
    · rename_i k' hk
      split at h
      · rename_i l' hl
        cases h
        cases r with
        | cons r1 r =>
          cases r with
          | @cons _ _ b _ r2 r =>
            obtain ⟨kvs, h1, h2⟩ := pairs2_rel hl r
            obtain ⟨key, e1, e2⟩ := keyT_v hk r1
            exact ⟨(key, b) :: kvs, by rw [h1, e2] <;> rfl, .cons ⟨(of_flat e1).symm, r2⟩ h2⟩
      · cases h
    · cases h
/-- the pairs of a display -/
def JPs (X : Cx) (E : XK) (pos : Pos) (keys : List (Option Expr)) (values : List Expr) (m : MA) : Prop := ∃ trs, PPs X pos keys values trs ∧ ∀ σ H (Q : List (V × V) → Hp → Prop), tMA (kwOf X) E m σ H (fun vs H' => ∃ ps, flat2 ps = vs ∧ Q ps H') → tPairs trs σ H Q
section
variable {X : Cx} {E : XK} {pos : Pos}
theorem jps_nil : JPs X E pos [] [] mNil := ⟨[], pps_nil, fun σ H Q ⟨W, ρ, μ, k, st, q⟩ => by
  obtain ⟨ps, h1, h2⟩ := Po.go (R := RpL (kwOf X)) q Fr.refl k .nil
  cases ps with
  | nil => exact h2
  | cons p ps => cases h1⟩
theorem jps_cons {e1 e2 : Expr} {ks : List (Option Expr)} {vs : List Expr} {m1 m2 : ME} {r : MA} (h1 : JE X E e1 m1) (h2 : JE X E e2 m2) (hr : JPs X E pos ks vs r) : JPs X E pos (some e1 :: ks) (e2 :: vs) (mCons m1 (mCons m2 r)) := by
  obtain ⟨trs, hp, hi⟩ := hr
  refine ⟨(_, _) :: trs, pps_cons h1 h2 hp, fun σ H Q ⟨W, ρ, μ, k, st, q⟩ => ?_⟩
  refine ⟨W, ρ, μ, k, st, Po.bind (R := Rp (kwOf X)) q fun t μ1 _ H1 W1 v f1 k1 r1 q1 => ⟨W1, ρ, μ1, k1, st.fr f1, ?_⟩⟩
  unfold mCons at q1
  cases e : m2 ρ μ1 with
  | bad => rw [e] at q1; exact q1.elim
  | exc x m => rw [e] at q1; exact q1
  | ok t2 μ2 =>
    rw [e] at q1
    intro H2 W2 u f2 k2 r2
    refine hi σ H2 _ ⟨W2, ρ, μ2, k2, (st.fr f1).fr f2, ?_⟩
    simp only [Out.bind_ok] at q1
    have q2 := Po.fr f2 q1
    cases e3 : r ρ μ2 with
    | bad => rw [e3] at q2; exact q2.elim
    | exc x m => rw [e3] at q2; exact q2
    | ok ts μ3 =>
      rw [e3] at q2
      simp only [Out.bind_ok] at q2
      intro H3 W3 ws f3 k3 r3
      obtain ⟨ps, g1, g2⟩ := Po.go (R := RpL (kwOf X)) q2 f3 k3 (.cons ((r1.fr f2).fr f3) (.cons (r2.fr f3) r3))
      cases ps with
      | nil => cases g1
      | cons p ps =>
        obtain ⟨a, b⟩ := p
        have g1 : a :: b :: flat2 ps = v :: u :: ws := g1
        injection g1 with e5 e6
        injection e6 with e6 e7
        subst e5 e6
        exact ⟨ps, e7, g2⟩
def gDisp : GL := fun ts μ => match pairs2 ts with
  | some l => if Nat.ble l.length 15 = true then .ok (.mr μ.length) (μ ++ [.dic (merge2 ([], []) l).1 (merge2 ([], []) l).2]) else .bad
  | none => .bad
theorem je_disp {keys : List (Option Expr)} {values : List Expr} {m : MA} (h : JPs X E pos keys values m) (hall : keys.all (·.isSome) = true) (hl : keys.length = values.length) (h0 : keys ≠ []) (hz : keys.length ≤ 15 := by decide) : JE X E (.Dict keys values pos) (mCl gDisp m) := by
  obtain ⟨trs, hp, hi⟩ := h
  refine PE_imp (pe_disp hp hall hl h0 hz) fun σ H Q ⟨W, ρ, μ, k, st, q⟩ => fun p hnew => hi σ _ _ ?_
  obtain ⟨f0, k0⟩ := k.guard (o := .dK []) hnew
  have rf0 : Rf H W (upd H p (.dK [])) (W.grd p) := f0.toRf.trans rf_nu
  refine ⟨W.grd p, ρ, μ, k0, st.rf rf0, ?_⟩
  unfold mCl at q
  have hG0 : ∀ a, W.G a → (W.grd p).G a := fun a g => .inl g
  have n0 : ¬ W.G p := fun g => (k.gk p g).1 hnew
  cases e : m ρ μ with
  | bad => rw [e] at q; exact q.elim
  | exc x m1 =>
    rw [e] at q
    intro H1 W1 c d f1 k1 r1
    have hG1 : ∀ a, W.G a → W1.G a := fun a g => by rw [f1.gg]; exact .inl g
    obtain ⟨e1, dd, vs, e2, h1, h2, h3, h4⟩ := r1
    exact q H1 (W1.un W.G) c d (f0.trans (f1.un hG0)) (k1.un hG1) ⟨e1, dd, vs, e2, h1, h2, h3, h4.rf rf_un⟩
  | ok ts μ1 =>
    rw [e] at q
    intro H1 W1 vs f1 k1 r1
    simp only [Out.bind_ok] at q
    have hG1 : ∀ a, W.G a → W1.G a := fun a g => by rw [f1.gg]; exact .inl g
    have gp : W1.G p := by rw [f1.gg]; exact .inr rfl
    have hp1 : H1 p = some (.dK []) := (f1.gz p (.inr rfl)).trans upd_same
    unfold gDisp at q
    split at q
    · rename_i l hl2
      split at q
      · rename_i hle
        obtain ⟨kvs, g1, g2⟩ := pairs2_rel hl2 r1
        have hlen : kvs.length ≤ 15 := by rw [← Paired.length g2]; exact Nat.le_of_ble_eq_true hle
        refine ⟨_, g1.symm, hp1, kvs, rfl, hlen, ?_⟩
        obtain ⟨f2, k2, rf2⟩ := k1.gwriteO (o := .dK (mergeK [] kvs)) gp n0 hG1 (by rw [hp1]; exact Wr.dK) (fun _ z => nomatch z)
        obtain ⟨keys', vs', ts', m1, m2, m3, m4⟩ := merge2_rel (keys := []) (ts := []) (vs := []) g2 rfl .nil
        have m1' : merge2 ([], []) l = (keys'.map ofKey, ts') := m1
        have m2' : mergeK [] kvs = keys'.zip vs' := m2
        have W2 : RpO (kwOf X) (upd H1 p (.dK (mergeK [] kvs))) ((W1.un W.G).psh p) p (.dic (merge2 ([], []) l).1 (merge2 ([], []) l).2) := by
          rw [m1', m2']
          refine .inl ⟨keys', vs', rfl, .inl upd_same, m3, ?_⟩
          rw [← m2']
          have rfp : Rf (upd H1 p (.dK (mergeK [] kvs))) W1 (upd H1 p (.dK (mergeK [] kvs))) ((W1.un W.G).psh p) := rf_un.trans ⟨fun _ h => ⟨h, rfl⟩, fun _ _ h => h, fun _ _ _ h => h, fun i a h => by
            have h : W1.e[i]? = some a := h
            show (W1.e ++ [p])[i]? = some a
            rw [List.getElem?_append_left (List.getElem?_eq_some_iff.mp h).1]; exact h⟩
          exact m4.rf (rf2.trans rfp)
        obtain ⟨f3, k3⟩ := k2.gpushO gp n0 hG1 W2
        refine Po.go (R := Rp (kwOf X)) q (((f0.trans (f1.un hG0)).trans f2).trans f3) k3 (.mr ?_)
        show (W1.e ++ [p])[μ1.length]? = some p
        rw [← k1.len, List.getElem?_append_right (Nat.le_refl _), Nat.sub_self] <;> rfl
      · exact q.elim
    · exact q.elim
end
end Mr

namespace Mr
open PySem PySem.Spec PyProof.Rows L2

/-! ### the law's own call -/
section
variable {Pg : Program} {wd : World} {K : PySem.W.Frag} {E : XK} {gm bm : Str → Option Value} {st : Shared} {sc : Addr} {cs : List (Addr × Addr)} {us : List Value}
/-- what is tracked as the law begins: the tables, the script where it is not known -/
structure Begin (K : PySem.W.Frag) (wd : World) (st : Shared) (sc : Addr) (us : List Value) (ns : List Int) (cs : List (Addr × Addr)) (H : Hp) : Prop where
  tb : ∀ p ∈ cs, H p.2 = some (.tbl #[])
  sq : KF ⟨K, wd⟩ H sc (ns.map V.int)
  al : ∀ b o, H b = some o → (b ∈ cs.map (·.2) ∧ o = .tbl #[]) ∨ (b = sc ∧ K.lookup sc = none ∧ o = .frz { cls := .type "list", data := .seq us.toArray } (.lst (ns.map V.int)))
theorem begins {ns : List Int} (hT : ∀ p ∈ cs, st.heap.get? p.2 = some { cls := .none, data := .fields #[] }) (hsc : st.heap.get? sc = some { cls := .type "list", data := .seq us.toArray }) (KX : K.In st.heap) (hi : IntsAre us ns) (hl : ns.length ≤ sizeLine) : ∃ H : Hp, Begin K wd st sc us ns cs H := by
  have rv := vals_ints hi
  have far : sc ∉ cs.map (·.2) := fun z => by
    obtain ⟨p, hp, e⟩ := List.mem_map.mp z
    have q := hT p hp
    rw [e, hsc] at q
    have z' := congrArg Obj.data (Option.some.inj q)
    cases z'
  have inT : ∀ p ∈ cs, p.2 ∈ cs.map (·.2) := fun p hp => List.mem_map_of_mem hp
  cases hk : K.lookup sc with
  | some o =>
    refine ⟨fun b => if b ∈ cs.map (·.2) then some (.tbl #[]) else none, fun p hp => if_pos (inT p hp), .inr ?_, fun b o hb => ?_⟩
    · have e := KX sc o hk
      rw [hsc] at e
      cases e
      exact ⟨_, us.toArray, _, hk, rfl, rfl, rfl, by rw [List.size_toArray, hi.length]; exact hl, by simpa using rv⟩
    · by_cases z : b ∈ cs.map (·.2)
      · have hb : (if b ∈ cs.map (·.2) then some (HO.tbl #[]) else none) = some o := hb
        rw [if_pos z] at hb
        exact .inl ⟨z, (Option.some.inj hb).symm⟩
      · have hb : (if b ∈ cs.map (·.2) then some (HO.tbl #[]) else none) = some o := hb
        rw [if_neg z] at hb
        cases hb
  | none =>
    refine ⟨fun b => if b = sc then some (.frz { cls := .type "list", data := .seq us.toArray } (.lst (ns.map V.int))) else if b ∈ cs.map (·.2) then some (.tbl #[]) else none, fun p hp => ?_, .inl ⟨_, if_pos rfl⟩, fun b o hb => ?_⟩
    · have n1 : p.2 ≠ sc := fun z => far (by rw [← z]; exact inT p hp)
      show (if p.2 = sc then _ else if p.2 ∈ cs.map (·.2) then _ else _) = _
      rw [if_neg n1, if_pos (inT p hp)]
    · by_cases z : b = sc
      · subst z
        have hb : (if b = b then some (HO.frz { cls := .type "list", data := .seq us.toArray } (.lst (ns.map V.int))) else _) = some o := hb
        rw [if_pos rfl] at hb
        exact .inr ⟨rfl, hk, (Option.some.inj hb).symm⟩
      · have hb : (if b = sc then some (HO.frz { cls := .type "list", data := .seq us.toArray } (.lst (ns.map V.int))) else if b ∈ cs.map (·.2) then some (HO.tbl #[]) else none) = some o := hb
        rw [if_neg z] at hb
        by_cases z2 : b ∈ cs.map (·.2)
        · rw [if_pos z2] at hb
          exact .inl ⟨z2, (Option.some.inj hb).symm⟩
        · rw [if_neg z2] at hb
          cases hb
/-- what stands in the base: dicts, plain objects, code objects -/
theorem untracked {ns : List Int} {H : Hp} (B : Begin K wd st sc us ns cs H) (hT : ∀ p ∈ cs, st.heap.get? p.2 = some { cls := .none, data := .fields #[] }) (hsc : st.heap.get? sc = some { cls := .type "list", data := .seq us.toArray }) {b : Addr} {o : Obj} (e : st.heap.get? b = some o) (h1 : ∀ vs n, o.data ≠ .seq vs n) (h2 : o.data ≠ .fields #[]) : H b = none := by
  cases q : H b with
  | none => rfl
  | some u =>
    rcases B.al b u q with ⟨z, _⟩ | ⟨z, _⟩
    · obtain ⟨p, hp, ep⟩ := List.mem_map.mp z
      have z2 := hT p hp
      rw [ep, e] at z2
      cases z2
      exact absurd rfl h2
    · rw [z, hsc] at e
      cases e
      exact absurd rfl (h1 _ _)
theorem lawRun {ns : List Int} {k : Nat} {fa : Addr} {fd : FuncData} {x : Str} {m : GL} {tq : Addr → Str} (KX : K.In st.heap) (gN : st.heap.Ns mainGlobals gm) (bN : st.heap.Ns builtinsNs bm) (bB : ∀ x : Str, x ≠ "__name__" → bm x = bootBuiltins x) (lim : st.heap.NoLimit) (gens : st.gens = #[])
    (hT : ∀ p ∈ cs, st.heap.get? p.2 = some { cls := .none, data := .fields #[] }) (nT : ∀ p ∈ cs, K.lookup p.2 = none) (C : ∀ p ∈ cs, PySem.W.CodeHd st.heap p.1 p.2) (nd : (cs.map (·.2)).Nodup)
    (main : ∃ (b : Addr) (ob : Obj), gm "__builtins__" = some (.ref b) ∧ b ≠ builtinsNs ∧ st.heap.get? b = some ob ∧ ob.cls = .type "module" ∧ ob.dict = some builtinsNs ∧ ob.data = .plain)
    (hsc : st.heap.get? sc = some { cls := .type "list", data := .seq us.toArray }) (hi : IntsAre us ns) (hl : ns.length ≤ sizeLine) (room : Room k callerA)
    (F : ∀ base : Heap, K.In base → base.Ns mainGlobals gm → (∀ p ∈ cs, LamX.TabB base gm p.1 p.2) → DefM Pg wd K gm base k fa fd [x] m) (bind : ∀ (s : Shared) (u : Value), BindsTo s fd ⟨[u], []⟩ [(x, u)])
    (law : ∃ μ', m [.kls (ns.map T.int)] (cs.map fun p => .tab p.2 (tq p.2)) = .ok (.bl true) μ') :
    codeAny (model Pg wd) callerA (.call (.ref fa) ⟨[.ref sc], []⟩) (fun r s' => r = .ok (.ret (.bool true)) ∧ OldK st.heap s'.heap ∧ s'.os = st.os ∧ AllBare s'.gens) st := by
  obtain ⟨H, B⟩ := begins (wd := wd) hT hsc KX hi hl
  have free : ∀ {b : Addr} {o : Obj}, st.heap.get? b = some o → (∀ vs n, o.data ≠ .seq vs n) → o.data ≠ .fields #[] → (hidT st.heap H).get? b = some o := fun e h1 h2 => hidT_get e (untracked B hT hsc e h1 h2)
  have nsB : ∀ {b : Addr} {f : Str → Option Value}, st.heap.Ns b f → (hidT st.heap H).Ns b f := fun {b f} ⟨o, es, ep, e, d, rest⟩ =>
    ⟨o, es, ep, free e (fun vs n z => by rw [d] at z; cases z) (fun z => by rw [d] at z; cases z), d, rest⟩
  have hok : HOk Pg wd H st.heap := fun b u hb => by
    rcases B.al b u hb with ⟨z, rfl⟩ | ⟨z, _, rfl⟩
    · obtain ⟨p, hp, ep⟩ := List.mem_map.mp z
      rw [← ep]
      exact hT p hp
    · rw [z]
      exact ⟨hsc, by rw [List.length_map]; exact hl, us, _, vals_ints hi, hsc⟩
  have KB : K.In (hidT st.heap H) := fun b o e => hidT_get (KX b o e) (by
    cases q : H b with
    | none => rfl
    | some u =>
      rcases B.al b u q with ⟨z, _⟩ | ⟨z, z2, _⟩
      · obtain ⟨p, hp, ep⟩ := List.mem_map.mp z
        rw [← ep, nT p hp] at e
        cases e
      · rw [z, z2] at e
        cases e)
  have md : L2.Mod K gm (hidT st.heap H) := by
    obtain ⟨mc, l1, l2⟩ := lim
    exact ⟨KB, nsB gN, ⟨bm, nsB bN, bB⟩, mc, nsB l1, l2⟩
  have notMain : ∀ {b : Addr} {o : Obj}, st.heap.get? b = some o → (∀ es ep, o.data ≠ .dict es ep) → mainGlobals ≠ b := fun {b o} e h z => by
    obtain ⟨o2, es, ep, e2, d2, _⟩ := gN
    rw [z, e] at e2
    cases e2
    exact h _ _ d2
  have TB : ∀ p ∈ cs, LamX.TabB (hidT st.heap H) gm p.1 p.2 := fun p hp => by
    constructor
    · obtain ⟨o, fs, file, tf, flags, tg, inF, text, tt, e1, r1, r2, r3, rest⟩ := C p hp
      refine ⟨o, fs, file, tf, flags, tg, inF, text, tt, free e1 (fun vs n z => ?_) (fun z => ?_), r1, r2, r3, rest⟩
      · rw [r2] at z; cases z
      · rw [r2] at z
        cases z
        simp at r3
    · obtain ⟨b, ob, b1, b2, b3, b4, b5, b6⟩ := main
      refine ⟨b, ob, b1, b2, fun z => ?_, fun z => ?_, free b3 (fun vs n z => ?_) (fun z => ?_), b4, b5, b6⟩
      · exact notMain b3 (fun es ep z2 => by rw [b6] at z2; cases z2) z.symm
      · rw [z, hT p hp] at b3
        cases b3
        cases b6
      · rw [b6] at z; cases z
      · rw [b6] at z; cases z
    · exact notMain (hT p hp) fun es ep z => nomatch z
  have e0 : Env0 Pg wd K gm (hidT st.heap H) callerA [] st H := by
    refine ⟨rfl, md, fun b o e => of_hidT e, Nat.le_of_eq (hidT_size _ _), trivial, fun b hb => ?_, hok, .of_eq gens⟩
    exact absurd (show b ∈ ([] : List Addr) from hb) (List.not_mem_nil)
  obtain ⟨μ', hm⟩ := law
  have ok0 : Ok ⟨K, wd⟩ H ⟨fun _ => False, fun _ => False, cs.map (·.2)⟩ (cs.map fun p => MO.tab p.2 (tq p.2)) := by
    refine ⟨by rw [List.length_map, List.length_map], nd, fun a _ => ⟨id, id⟩, fun a z => z.elim, fun a z => z.elim, fun i a o h1 h2 => ?_⟩
    have h1 : (cs.map (·.2))[i]? = some a := h1
    rw [List.getElem?_map] at h1 h2
    cases hc : cs[i]? with
    | none => rw [hc] at h1; cases h1
    | some p =>
      rw [hc] at h1 h2
      cases h1
      cases h2
      refine ⟨rfl, ⟨#[], B.tb p (List.mem_of_getElem? hc), True.intro, fun pos cv z => ?_⟩⟩
      have z : codeAmong pos [] = some cv := z
      simp [codeAmong] at z
  have sp : spM ⟨K, wd⟩ [x].length m [.ref sc] H (fun v _ => v = .bl true) E0 := by
    refine ⟨rfl, _, _, _, ok0, .cons (.kls B.sq .of_ints) .nil, ?_⟩
    rw [hm]
    intro H1 W1 v f1 k1 r1
    cases r1
    rfl
  refine codeAny_mono ((F _ KB (nsB gN) TB).run callerA [] st H ⟨[.ref sc], []⟩ [.ref sc] [.ref sc] _ E0 rfl room e0 (bind st (.ref sc)) (.cons rfl .nil) sp) fun r s' hr => ?_
  rcases r with e | (_ | _ | _ | u)
  all_goals first | exact False.elim hr | skip
  · obtain ⟨_, _, _, _, _, _, _, _, _, _, _, _, _, h⟩ := hr
  obtain ⟨v, H', os, bare, un, hok', rv, q⟩ := hr
  have q : v = .bl true := q
  subst q
  have hu : u = Value.bool true := rv
  subst hu
  have keep : ∀ b o, b ∉ cs.map (·.2) → st.heap.get? b = some o → s'.heap.get? b = some o := fun b o hb e => by
    cases h : H b with
    | none => exact un.keep b o e h (List.not_mem_nil) (List.not_mem_nil)
    | some w =>
      rcases B.al b w h with ⟨z, _⟩ | ⟨_, _, z⟩
      · exact absurd z hb
      · subst z
        obtain ⟨a1, _⟩ := hok b _ h
        obtain ⟨a2, _⟩ := hok' b _ (un.frzs b _ _ h)
        rw [e] at a1
        cases a1
        exact a2
  have tabs : ∀ b ∈ cs.map (·.2), ∃ more : Array Value, s'.heap.get? b = some { cls := .none, data := .fields more } := fun b hb => by
    obtain ⟨p, hp, ep⟩ := List.mem_map.mp hb
    subst ep
    obtain ⟨more, z⟩ := un.tbls p.2 #[] (B.tb p hp)
    exact ⟨_, hok' p.2 _ z⟩
  refine ⟨rfl, ⟨fun b o e => ?_, fun b o e => ?_⟩, os, bare⟩
  · by_cases hb : b ∈ cs.map (·.2)
    · obtain ⟨more, hm2⟩ := tabs b hb
      obtain ⟨p, hp, ep⟩ := List.mem_map.mp hb
      subst ep
      have e' := hT p hp
      rw [e] at e'
      cases e'
      exact .inr (.inl ⟨((C p hp).tab (hT p hp)).isCodeTable, rfl, #[], more, rfl, by rw [Array.empty_append]; exact hm2⟩)
    · exact .inl (keep b o hb e)
  · by_cases hb : b ∈ cs.map (·.2)
    · obtain ⟨more, hm2⟩ := tabs b hb
      exact ⟨_, hm2⟩
    · exact ⟨o, keep b o hb e⟩
/-- the promise of the law at the head's heap -/
structure LawM (l : PySem.W.OpenLaw) (w : World) (k n : Nat) (x : Str) (gm : Str → Option Value) (fa : Addr) (h : Heap) (K : PySem.W.Frag) (fd : FuncData) (cs : List (Addr × Addr)) (m : GL) (tq : Addr → Str) : Prop where
  kin : K.In h
  tab : ∀ p ∈ cs, h.get? p.2 = some { cls := .none, data := .fields #[] }
  ntb : ∀ p ∈ cs, K.lookup p.2 = none
  cod : ∀ p ∈ cs, PySem.W.CodeHd h p.1 p.2
  nod : (cs.map (·.2)).Nodup
  bnd : ∀ (s : Shared) (u : Value), BindsTo s fd ⟨[u], []⟩ [(x, u)]
  law : ∀ ns : List Int, ns.length ≤ n → (∀ z ∈ ns, Builtin.Int.intBits z ≤ 1048576) → ∃ μ', m [.kls (ns.map T.int)] (cs.map fun p => .tab p.2 (tq p.2)) = .ok (.bl true) μ'
  dfn : ∀ base : Heap, K.In base → base.Ns mainGlobals gm → (∀ p ∈ cs, LamX.TabB base gm p.1 p.2) → DefM l.prog w K gm base k fa fd [x] m
theorem walkM {l : PySem.W.OpenLaw} {n k : Nat} {q : Program} {loose : List Str} {XP : (Str → Option Value) → Heap → Prop} {YP : World → Heap → Prop} {d : DefRec} {x : Str} (hn : l.most = some n) (hn2 : n ≤ sizeLine) (hdf : d.params.defaults = []) (room : Room k callerA)
    (F : ∀ (w : World) (gm : Str → Option Value) (fa : Addr) (h : Heap), YP w h → h.Ns mainGlobals gm → gm d.name = some (.ref fa) → ∃ K fd cs m tq, LawM l w k n x gm fa h K fd cs m tq) : PySem.W.WalkO q loose XP YP l.row.toRowW d [] (fun f vs => PySem.call f vs) := by
  refine Att.attach_callB hn hdf fun w s0 s1 gm bm fa o pm cd doc sc us ns G Y ho hd hcd hmg hobj hints hlen hbits hg => ?_
  obtain ⟨K, fd, cs, m, tq, L⟩ := F w gm fa _ Y G.T.g hmg
  exact lawRun (tq := tq) L.kin G.T.g G.T.b G.T.builtins G.T.nolimit hg L.tab L.ntb L.cod L.nod G.T.bmain hobj hints (Nat.le_trans hlen hn2) room L.dfn L.bnd (L.law ns hlen hbits)
end
end Mr

namespace Mr
open PySem PySem.Spec PyProof.Rows L2

/-! ### reading mirrors: one step at a time -/
section
variable {ρ : Rho} {μ : Mu} {t u : T} {i j : Nat}
@[simp] theorem r_seq (m n : MS) : mSeq m n ρ μ = seqO (m ρ μ) n := rfl
@[simp] theorem r_seq_nx (n : MS) : seqO (.ok (.nx ρ) μ) n = n ρ μ := rfl
@[simp] theorem r_seq_rt (n : MS) : seqO (.ok (.rt t) μ) n = .ok (.rt t) μ := rfl
@[simp] theorem r_seq_bk (n : MS) : seqO (.ok (.bk ρ) μ) n = .ok (.bk ρ) μ := rfl
@[simp] theorem r_seq_ct (n : MS) : seqO (.ok (.ct ρ) μ) n = .ok (.ct ρ) μ := rfl
@[simp] theorem r_next : mNext ρ μ = .ok (.nx ρ) μ := rfl
@[simp] theorem r_brk : mBrk ρ μ = .ok (.bk ρ) μ := rfl
@[simp] theorem r_cont : mCont ρ μ = .ok (.ct ρ) μ := rfl
@[simp] theorem r_ret (m : ME) : mRet m ρ μ = (m ρ μ).bind fun t μ1 => .ok (.rt t) μ1 := rfl
@[simp] theorem r_retN : mRetN ρ μ = .ok (.rt .non) μ := rfl
@[simp] theorem r_drop (m : ME) : mDrop m ρ μ = (m ρ μ).bind fun _ μ1 => .ok (.nx ρ) μ1 := rfl
@[simp] theorem r_ifS (c : MT) (a b : MS) : mIfS c a b ρ μ = (c ρ μ).bind fun z μ1 => if z = true then a ρ μ1 else b ρ μ1 := rfl
@[simp] theorem r_asg (m : ME) (g : MG) : mAsg m g ρ μ = (m ρ μ).bind fun t μ1 => (g t ρ μ1).bind fun ρ2 μ2 => .ok (.nx ρ2) μ2 := rfl
@[simp] theorem r_set (m : ME) : mSet i m ρ μ = (m ρ μ).bind fun t μ1 => .ok (.nx (ρ.set i (some t))) μ1 := rfl
@[simp] theorem r_var : mVar i ρ μ = match ρ[i]? with
  | some (some t) => .ok t μ
  | _ => .bad := rfl
@[simp] theorem r_c : mC t ρ μ = .ok t μ := rfl
@[simp] theorem r_op (g : G2) (a b : ME) : mOp g a b ρ μ = (a ρ μ).bind fun x μ1 => (b ρ μ1).bind fun y μ2 => g x y μ2 := rfl
@[simp] theorem r_un (g : G1) (a : ME) : mUn g a ρ μ = (a ρ μ).bind fun x μ1 => g x μ1 := rfl
@[simp] theorem r_cl (g : GL) (a : MA) : mCl g a ρ μ = (a ρ μ).bind fun x μ1 => g x μ1 := rfl
@[simp] theorem r_nil : mNil ρ μ = .ok [] μ := rfl
@[simp] theorem r_cons (m : ME) (r : MA) : mCons m r ρ μ = (m ρ μ).bind fun t μ1 => (r ρ μ1).bind fun ts μ2 => .ok (t :: ts) μ2 := rfl
@[simp] theorem r_tst (m : ME) : mTst m ρ μ = (m ρ μ).bind fun t μ1 => match t with
  | .bl b => .ok b μ1
  | _ => .bad := rfl
@[simp] theorem r_chain (g g' : G2) (ma mb mc : ME) : mChain g g' ma mb mc ρ μ = (ma ρ μ).bind fun x μ1 => (mb ρ μ1).bind fun y μ2 => (g x y μ2).bind fun z μ3 => match z with
  | .bl true => (mc ρ μ3).bind fun w μ4 => g' y w μ4
  | .bl false => .ok (.bl false) μ3
  | _ => .bad := rfl
@[simp] theorem r_tru (m : ME) : mTru m ρ μ = (m ρ μ).bind tru := rfl
@[simp] theorem r_not (m : MT) : mNot m ρ μ = (m ρ μ).bind fun b μ1 => .ok (!b) μ1 := rfl
@[simp] theorem r_and (m n : MT) : mAnd m n ρ μ = (m ρ μ).bind fun b μ1 => if b = true then n ρ μ1 else .ok false μ1 := rfl
@[simp] theorem r_or (m n : MT) : mOr m n ρ μ = (m ρ μ).bind fun b μ1 => if b = true then .ok true μ1 else n ρ μ1 := rfl
@[simp] theorem r_andV (m n : ME) : mAndV m n ρ μ = (m ρ μ).bind fun x μ1 => match truT μ1 x with
  | some true => n ρ μ1
  | some false => .ok x μ1
  | none => .bad := rfl
@[simp] theorem r_orV (m n : ME) : mOrV m n ρ μ = (m ρ μ).bind fun x μ1 => match truT μ1 x with
  | some true => .ok x μ1
  | some false => n ρ μ1
  | none => .bad := rfl
@[simp] theorem r_notV (m : ME) : mNotV m ρ μ = (m ρ μ).bind fun x μ1 => match truT μ1 x with
  | some b => .ok (.bl (!b)) μ1
  | none => .bad := rfl
@[simp] theorem r_if (m : MT) (a b : ME) : mIf m a b ρ μ = (m ρ μ).bind fun c μ1 => if c = true then a ρ μ1 else b ρ μ1 := rfl
@[simp] theorem r_call (m : GL) (tds : List T) (ma : MA) : mCall m tds ma ρ μ = (ma ρ μ).bind fun ts μ1 => m (ts ++ tds) μ1 := rfl
@[simp] theorem r_par2 (m : MA) : mPar2 i j m ρ μ = (m ρ μ).bind fun ts μ1 => match ts with
  | [a, b] => .ok (.nx ((ρ.set i (some a)).set j (some b))) μ1
  | _ => .bad := rfl
@[simp] theorem r_nm : gNm i t ρ μ = .ok (ρ.set i (some t)) μ := rfl
@[simp] theorem r_snil : gsNil [] ρ μ = .ok ρ μ := rfl
@[simp] theorem r_scons (g : MG) (gs : MGs) (ts : List T) : gsCons g gs (t :: ts) ρ μ = (g t ρ μ).bind fun ρ1 μ1 => gs ts ρ1 μ1 := rfl
@[simp] theorem r_tp (gs : MGs) (ts : List T) : gTp i gs (.tup ts) ρ μ = if ts.length = i then gs ts ρ μ else .bad := rfl
@[simp] theorem r_yes : mYes ρ μ = .ok true μ := rfl
@[simp] theorem r_fin (fin : List T → Mu → Out T) (m : MA) : mFin fin m ρ μ = (m ρ μ).bind fin := rfl
@[simp] theorem r_fz (ts : List T) : fzT ts μ = .ok (.lst ts) μ := rfl
@[simp] theorem r_lc (vs : List Nat) (mi : MI) (g : MG) (mt : MT) (me : ME) : mLc vs mi g mt me ρ μ = (mi ρ μ).bind fun p μ1 => walkO p (fewO (compM g mt me (wipeR ρ vs))) μ1 := rfl
@[simp] theorem r_walk {α : Type} (f : List T → Mu → Out α) (ts : List T) : walkO (.fz ts) f μ = f ts μ := rfl
@[simp] theorem r_few (f : List T → Mu → Out (List T)) (ts : List T) : fewO f ts μ = if few ts = true then f ts μ else .bad := rfl
@[simp] theorem r_few2 (f : List T → Mu → Out (List T)) (ts : List T) : few2O f ts μ = if few2 ts = true then f ts μ else .bad := rfl
@[simp] theorem r_lc2 (vs : List Nat) (mi : MI) (g : MG) (mt : MT) (mi1 : MI) (vs1 : List Nat) (g1 : MG) (mt1 : MT) (me : ME) : mLc2 vs mi g mt mi1 vs1 g1 mt1 me ρ μ = (mi ρ μ).bind fun p μ1 => walkO p (few2O (comp2M g mt mi1 vs1 g1 mt1 me (wipeR ρ vs))) μ1 := rfl
@[simp] theorem r_for (mi : MI) (g : MG) (mb : MS) : mFor mi g mb ρ μ = (mi ρ μ).bind fun p μ1 => walkO p (fun ts => loopM g mb ts ρ) μ1 := rfl
@[simp] theorem r_itS (m : ME) : mItS m ρ μ = (m ρ μ).bind itS := rfl
@[simp] theorem r_it (m : MA) (f : List T → Mu → Out Wk) : mIt m f ρ μ = (m ρ μ).bind f := rfl
@[simp] theorem r_itS_lst (ts : List T) : itS (.lst ts) μ = .ok (.fz ts) μ := rfl
@[simp] theorem r_itS_tup (ts : List T) : itS (.tup ts) μ = .ok (.fz ts) μ := rfl
@[simp] theorem r_itS_kls (ts : List T) : itS (.kls ts) μ = .ok (.fz ts) μ := rfl
@[simp] theorem r_step_nx (k : MS) : stepO (.ok (.nx ρ) μ) k = k ρ μ := rfl
@[simp] theorem r_step_ct (k : MS) : stepO (.ok (.ct ρ) μ) k = k ρ μ := rfl
@[simp] theorem r_step_bk (k : MS) : stepO (.ok (.bk ρ) μ) k = .ok (.nx ρ) μ := rfl
@[simp] theorem r_step_rt (k : MS) : stepO (.ok (.rt t) μ) k = .ok (.rt t) μ := rfl
@[simp] theorem r_tupG (ts : List T) : gTup ts μ = if few ts = true then .ok (.tup ts) μ else .bad := rfl
@[simp] theorem r_lstG (ts : List T) : gLst ts μ = if few ts = true then .ok (.lst ts) μ else .bad := rfl
@[simp] theorem r_lstMG (ts : List T) : gLstM ts μ = if few ts = true then .ok (.mr μ.length) (μ ++ [.lst ts]) else .bad := rfl
end
/-- a pure call: what its body answers over the locked store, its answer frozen -/
theorem fn_pure {n k : Nat} {mb : MS} {ts : List T} {μ : Mu} {t : T} (hk : ts.length = k) (h : endO (mb (startR n ts) (μ.map MO.lck)) = .ok t (μ.map MO.lck)) : arO k (fnP n mb) ts μ = .ok t μ := by
  unfold arO
  rw [if_pos hk]
  unfold fnP
  rw [h]
  show pureO μ (.ok t (μ.map MO.lck)) = _
  unfold pureO
  simp
theorem fn_made {n k : Nat} {mb : MS} {ts : List T} {μ M : Mu} {t u : T} (hk : ts.length = k) (h : endO (mb (startR n ts) (μ.map MO.lck)) = .ok t M) (hl : M.length ≠ μ.length) (hf : frzT M μ.length 64 t = some u) : arO k (fnP n mb) ts μ = .ok u μ := by
  unfold arO
  rw [if_pos hk]
  unfold fnP
  rw [h]
  show pureO μ (.ok t M) = _
  unfold pureO
  have e : Nat.beq M.length μ.length = false := by
    cases z : Nat.beq M.length μ.length with
    | false => rfl
    | true => exact absurd (Nat.eq_of_beq_eq_true z) hl
  simp only [e, hf]
  rfl
theorem fn_k {n k : Nat} {mb : MS} {ts : List T} {μ : Mu} (hk : ts.length = k) : arO k (fnK n mb) ts μ = endO (mb (startR n ts) μ) := by
  unfold arO
  rw [if_pos hk] <;> rfl
/-! loops, comprehensions over trees that are made of data -/
theorem comp_map {α : Type} {g : MG} {mt : MT} {me : ME} {ρ : Rho} {μ : Mu} (e : α → T) (h : α → T) : ∀ (xs : List α), (∀ x ∈ xs, ∃ ρ1, g (e x) ρ μ = .ok ρ1 μ ∧ mt ρ1 μ = .ok true μ ∧ me ρ1 μ = .ok (h x) μ) → compM g mt me ρ (xs.map e) μ = .ok (xs.map h) μ
  | [], _ => rfl
  | x :: xs, hx => by
    obtain ⟨ρ1, h1, h2, h3⟩ := hx x List.mem_cons_self
    rw [List.map_cons, List.map_cons]
    unfold compM
    rw [h1]
    simp only [noX_ok, Out.bind_ok, h2, h3, if_true]
    rw [comp_map e h xs fun y hy => hx y (List.mem_cons_of_mem _ hy)] <;> rfl
theorem comp_filter {α : Type} {g : MG} {mt : MT} {me : ME} {ρ : Rho} {μ : Mu} (e : α → T) (p : α → Bool) (h : α → T) : ∀ (xs : List α), (∀ x ∈ xs, ∃ ρ1, g (e x) ρ μ = .ok ρ1 μ ∧ mt ρ1 μ = .ok (p x) μ ∧ (p x = true → me ρ1 μ = .ok (h x) μ)) → compM g mt me ρ (xs.map e) μ = .ok ((xs.filter p).map h) μ
  | [], _ => rfl
  | x :: xs, hx => by
    obtain ⟨ρ1, h1, h2, h3⟩ := hx x List.mem_cons_self
    rw [List.map_cons]
    unfold compM
    rw [h1]
    simp only [noX_ok, Out.bind_ok, h2]
    have ih := comp_filter e p h xs fun y hy => hx y (List.mem_cons_of_mem _ hy)
    cases hp : p x with
    | true =>
      rw [if_pos rfl, h3 hp]
      simp only [noX_ok, Out.bind_ok]
      rw [ih, List.filter_cons_of_pos (by simpa using hp)] <;> rfl
    | false => rw [if_neg Bool.false_ne_true, ih, List.filter_cons_of_neg (by simp [hp])]
theorem comp2_map {α β : Type} {g g1 : MG} {mt mt1 : MT} {mi1 : MI} {vs1 : List Nat} {me : ME} {ρ : Rho} {μ : Mu} (e : α → T) (e1 : α → β → T) (ys : α → List β) (h : α → β → T) : ∀ (xs : List α), (∀ x ∈ xs, (ys x).length ≤ 1000 ∧ ∃ ρ1, g (e x) ρ μ = .ok ρ1 μ ∧ mt ρ1 μ = .ok true μ ∧ mi1 ρ1 μ = .ok (.fz ((ys x).map (e1 x))) μ ∧
    ∀ y ∈ ys x, ∃ ρ2, g1 (e1 x y) (wipeR ρ1 vs1) μ = .ok ρ2 μ ∧ mt1 ρ2 μ = .ok true μ ∧ me ρ2 μ = .ok (h x y) μ) → comp2M g mt mi1 vs1 g1 mt1 me ρ (xs.map e) μ = .ok (xs.flatMap fun x => (ys x).map (h x)) μ
  | [], _ => rfl
  | x :: xs, hx => by
    obtain ⟨hl, ρ1, h1, h2, h3, h4⟩ := hx x List.mem_cons_self
    rw [List.map_cons]
    unfold comp2M
    rw [h1]
    simp only [noX_ok, Out.bind_ok, h2, h3, if_true]
    have hf : few2 ((ys x).map (e1 x)) = true := by
      unfold few2
      rw [List.length_map]
      exact Nat.ble_eq_true_of_le hl
    simp only [r_walk, r_few2]
    rw [if_pos hf, comp_map (e1 x) (h x) (ys x) h4]
    simp only [Out.bind_ok]
    rw [comp2_map e e1 ys h xs fun y hy => hx y (List.mem_cons_of_mem _ hy)] <;> rfl
theorem few_of {ts : List T} (h : ts.length ≤ 1000000) : few ts = true := Nat.ble_eq_true_of_le h
theorem few_map {α : Type} {e : α → T} {xs : List α} (h : xs.length ≤ 1000000) : few (xs.map e) = true := few_of (by rw [List.length_map]; exact h)
/-- a loop that goes on to its end: each turn keeps I -/
theorem loop_all {g : MG} {mb : MS} {I : Nat → Rho → Mu → Prop} : ∀ (ts : List T) (i : Nat) (ρ : Rho) (μ : Mu), I i ρ μ →
    (∀ (j : Nat) (t : T) (ρ : Rho) (μ : Mu), ts[j]? = some t → I (i + j) ρ μ → ∃ ρ1 μ1, g t ρ μ = .ok ρ1 μ1 ∧ ∃ ρ2 μ2, (mb ρ1 μ1 = .ok (.nx ρ2) μ2 ∨ mb ρ1 μ1 = .ok (.ct ρ2) μ2) ∧ I (i + j + 1) ρ2 μ2) →
    ∃ ρ' μ', loopM g mb ts ρ μ = .ok (.nx ρ') μ' ∧ I (i + ts.length) ρ' μ'
  | [], i, ρ, μ, h, _ => ⟨ρ, μ, rfl, h⟩
  | t :: ts, i, ρ, μ, h, step => by
    obtain ⟨ρ1, μ1, h1, ρ2, μ2, h2, h3⟩ := step 0 t ρ μ rfl h
    obtain ⟨ρ', μ', h4, h5⟩ := loop_all ts (i + 1) ρ2 μ2 h3 fun j u ρ μ hu hI => by
      have e : i + 1 + j = i + (j + 1) := by omega
      rw [e] at hI ⊢
      exact step (j + 1) u ρ μ (by simpa using hu) hI
    refine ⟨ρ', μ', ?_, by rw [List.length_cons]; rwa [show i + (ts.length + 1) = i + 1 + ts.length by omega]⟩
    unfold loopM
    rw [h1]
    simp only [Out.bind_ok]
    rcases h2 with h2 | h2 <;> rw [h2] <;> exact h4
end Mr

namespace Mr
open PySem PySem.Spec PyProof.Rows L2

/-! ### numbers -/
theorem gMod_ok {i j : Int} (μ : Mu) (h : 0 < j) : gMod (.int i) (.int j) μ = .ok (.int (i % j)) μ := by
  show (if decide (0 < j) = true then Out.ok (T.int (i % j)) μ else .bad) = _
  rw [if_pos (decide_eq_true h)]
theorem log_small {j : Int} (h0 : 0 < j) (h : j < 2 ^ 62) : Nat.ble j.natAbs.log2 8999 = true := by
  refine Nat.ble_eq_true_of_le ?_
  have h1 : j.natAbs ≠ 0 := by omega
  have h2 : j.natAbs.log2 < 62 := (Nat.log2_lt h1).mpr (by omega)
  omega
theorem gDiv_ok {i j : Int} (μ : Mu) (h : 0 < j) (h2 : j < 2 ^ 62) : gDiv (.int i) (.int j) μ = .ok (.int (i / j)) μ := by
  show (if (decide (0 < j) && Nat.ble j.natAbs.log2 8999) = true then Out.ok (T.int (i / j)) μ else .bad) = _
  rw [decide_eq_true h, log_small h h2] <;> rfl
theorem small64_of {i : Int} (h1 : -(2 ^ 64) < i) (h2 : i < 2 ^ 64) : small64 i = true := Nat.ble_eq_true_of_le (by omega)
theorem gMul_l {i j : Int} (μ : Mu) (h : small64 i = true) : gMul fzT (.int i) (.int j) μ = .ok (.int (i * j)) μ := by
  show (if mulOk i j = true then Out.ok (T.int (i * j)) μ else .bad) = _
  unfold mulOk
  rw [h, Bool.true_or, Bool.true_or, if_pos rfl]
theorem gPow_ok {i : Int} {j : Nat} (μ : Mu) (h1 : -(2 ^ 64) < i) (h2 : i < 2 ^ 64) (hj : j ≤ 1000000) : gPow (.int i) (.int (j : Int)) μ = .ok (.int (i ^ j)) μ := by
  show (if (decide (0 ≤ (j : Int)) && decide ((j : Int) ≤ 1000000) && small64 i) = true then Out.ok (T.int (i ^ (j : Int).toNat)) μ else .bad) = _
  rw [decide_eq_true (by omega), decide_eq_true (by omega), small64_of h1 h2] <;> rfl
theorem gAdd_i (i j : Int) (μ : Mu) : gAdd fzT (.int i) (.int j) μ = .ok (.int (i + j)) μ := rfl
theorem gSub_i (i j : Int) (μ : Mu) : gSub (.int i) (.int j) μ = .ok (.int (i - j)) μ := rfl
/-! ### rows of ints -/
theorem mapO_maps {α β γ : Type} {f : β → Option γ} {e : α → β} {d : α → γ} (h : ∀ a, f (e a) = some (d a)) : ∀ as : List α, mapO f (as.map e) = some (as.map d)
  | [] => rfl
  | a :: as => by
    rw [List.map_cons, List.map_cons]
    unfold mapO
    rw [h a, mapO_maps h as] <;> rfl
theorem eqv_nilR : ∀ xs : List PyData, PyData.eqvAll xs [] = decide (xs = [])
  | [] => by simp [PyData.eqvAll]
  | x :: xs => by simp [PyData.eqvAll]
theorem lay_ints : ∀ is : List Int, PyData.canLayAll0 (is.map PyData.int) = true ∧ PyData.depthAll (is.map PyData.int) = 0
  | [] => by simp [PyData.canLayAll0, PyData.depthAll]
  | i :: is => by
    obtain ⟨h1, h2⟩ := lay_ints is
    simp [PyData.canLayAll0, PyData.depthAll, h1, h2, PyData.canLay0, PyData.depth]
theorem shaped_ints (is : List Int) : SeqAt.shaped (.list (is.map PyData.int)) = true := by
  obtain ⟨h1, h2⟩ := lay_ints is
  unfold SeqAt.shaped
  rw [Bool.and_eq_true]
  refine ⟨by simpa [PyData.canLay0] using h1, decide_eq_true ?_⟩
  simp only [PyData.depth]
  omega
theorem py_ints (is : List Int) (μ : Mu) : pyT μ 60 (.lst (is.map T.int)) = some (.list (is.map PyData.int)) := by
  show (mapO (pyT μ 59) (is.map T.int)).map PyData.list = _
  rw [mapO_maps (f := pyT μ 59) (e := T.int) (d := PyData.int) fun o => rfl] <;> rfl
theorem eq_ints_nil (is : List Int) (μ : Mu) : eqM μ (.lst (is.map T.int)) (.lst []) = some (decide (is = [])) := by
  unfold eqM
  rw [py_ints, show pyT μ 60 (.lst []) = some (.list (([] : List Int).map PyData.int)) from py_ints [] μ]
  simp only [shaped_ints, Bool.and_self, if_true]
  simp only [PyData.eqv, List.map_nil, eqv_nilR]
  cases is <;> simp
/-! ### the pen: cells, at, rest -/
def penO (cells : List Int) (a r : Int) : MO := .lst [.lst (cells.map T.int), .int a, .int r]
def drawM (k1 k2 k3 k4 : Int) : MS := (mSeq (mIfS (mTst (mOp gLt (mVar 1) (mC (.int 2))))
  (mRet (mC (.int 0)))
  mNext)
  (mSeq (mIfS (mTst (mOp gGt (mOp gIx (mVar 0) (mC (.int 2))) (mC (.int 0))))
  (mSeq (mSet 2 (mOp gMod (mCl gInt (mCons (mOp gIx (mVar 0) (mC (.int 2))) mNil)) (mVar 1)))
  (mSeq (mAsg (mOp gDiv (mCl gInt (mCons (mOp gIx (mVar 0) (mC (.int 2))) mNil)) (mVar 1)) (gSt (mVar 0) (mC (.int 2))))
  (mRet (mVar 2))))
  mNext)
  (mSeq (mSet 3 (mOp gIx (mVar 0) (mC (.int 1))))
  (mSeq (mAsg (mOp (gAdd fzT) (mVar 3) (mC (.int 1))) (gSt (mVar 0) (mC (.int 1))))
  (mSeq (mSet 4 (mOp (gAdd fzT) (mOp (gMul fzT) (mC (.int k1)) (mVar 3)) (mC (.int k2))))
  (mSeq (mIfS (mTst (mOp gNe (mOp gIx (mVar 0) (mC (.int 0))) (mCl gLst mNil)))
  (mSet 4 (mOp gIx (mOp gIx (mVar 0) (mC (.int 0))) (mOp gMod (mCl gInt (mCons (mVar 3) mNil)) (mCl gLen (mCons (mOp gIx (mVar 0) (mC (.int 0))) mNil)))))
  mNext)
  (mSeq (mIfS (mAnd (mTst (mOp gLt (mVar 3) (mCl gLen (mCons (mOp gIx (mVar 0) (mC (.int 0))) mNil)))) (mTst (mOp gGe (mCl gAbs (mCons (mVar 4) mNil)) (mOp gPow (mC (.int 10)) (mC (.int 18))))))
  (mSeq (mSet 5 (mOp (gAdd fzT) (mOp (gMul fzT) (mC (.int 2)) (mOp gSub (mCl gAbs (mCons (mVar 4) mNil)) (mOp gPow (mC (.int 10)) (mC (.int 18))))) (mCl gInt (mCons (mOp gLt (mVar 4) (mC (.int 0))) mNil))))
  (mSeq (mAsg (mOp gDiv (mCl gInt (mCons (mVar 5) mNil)) (mVar 1)) (gSt (mVar 0) (mC (.int 2))))
  (mRet (mOp gMod (mCl gInt (mCons (mVar 5) mNil)) (mVar 1)))))
  mNext)
  (mSeq (mSet 6 (mOp gMod (mCl gInt (mCons (mOp gPow (mOp (gAdd fzT) (mOp (gAdd fzT) (mOp gMod (mCl gInt (mCons (mVar 4) mNil)) (mC (.int 2147483549))) (mOp (gMul fzT) (mC (.int k3)) (mVar 3))) (mC (.int k2))) (mC (.int 3))) mNil)) (mC (.int 2147483629))))
  (mSeq (mSet 6 (mOp gMod (mCl gInt (mCons (mOp gPow (mOp (gAdd fzT) (mOp (gAdd fzT) (mOp (gMul fzT) (mVar 6) (mOp (gAdd fzT) (mOp (gMul fzT) (mC (.int 2)) (mVar 3)) (mC (.int k4)))) (mOp (gMul fzT) (mOp (gMul fzT) (mC (.int k1)) (mVar 3)) (mVar 3))) (mC (.int k3))) (mC (.int 5))) mNil)) (mC (.int 2147483563))))
  (mRet (mOp gMod (mCl gInt (mCons (mOp gDiv (mVar 6) (mC (.int 16))) mNil)) (mVar 1))))))))))))
section
variable {μ : Mu} {i : Nat} {cells : List Int} {a r : Int}
theorem pen_seq (h : μ[i]? = some (penO cells a r)) : asSeq μ (.mr i) = some [.lst (cells.map T.int), .int a, .int r] := by
  simp only [asSeq, rdM, h, penO, MO.un]
theorem ix_seq' {x u : T} {ts : List T} {j : Int} (hx : asSeq μ x = some ts) (e : atI ts j = some u) : gIx x (.int j) μ = .ok u μ := by
  cases x with
  | str cs => cases hx
  | _ => simp only [gIx, hx, e]
theorem pen0 (h : μ[i]? = some (penO cells a r)) : gIx (.mr i) (.int 0) μ = .ok (.lst (cells.map T.int)) μ := ix_seq' (pen_seq h) rfl
theorem pen1 (h : μ[i]? = some (penO cells a r)) : gIx (.mr i) (.int 1) μ = .ok (.int a) μ := ix_seq' (pen_seq h) rfl
theorem pen2 (h : μ[i]? = some (penO cells a r)) : gIx (.mr i) (.int 2) μ = .ok (.int r) μ := ix_seq' (pen_seq h) rfl
theorem pen_st1 {ρ : Rho} (h : μ[i]? = some (penO cells a r)) (v : Int) : gSt (mVar 0) (mC (.int 1)) (.int v) (some (.mr i) :: ρ) μ = .ok (some (.mr i) :: ρ) (μ.set i (penO cells v r)) := by
  unfold gSt
  simp only [r_var, r_c, List.getElem?_cons_zero, Out.bind_ok, h, penO]
  rfl
theorem pen_st2 {ρ : Rho} (h : μ[i]? = some (penO cells a r)) (v : Int) : gSt (mVar 0) (mC (.int 2)) (.int v) (some (.mr i) :: ρ) μ = .ok (some (.mr i) :: ρ) (μ.set i (penO cells a v)) := by
  unfold gSt
  simp only [r_var, r_c, List.getElem?_cons_zero, Out.bind_ok, h, penO]
  rfl
theorem len_cells (μ : Mu) : gLen [.lst (cells.map T.int)] μ = .ok (.int (cells.length : Int)) μ := by
  show Out.ok (T.int (((cells.map T.int).length : Nat) : Int)) μ = _
  rw [List.length_map]
theorem gInt_i (j : Int) (μ : Mu) : gInt [.int j] μ = .ok (.int j) μ := rfl
end
theorem pen_get {μ : Mu} {i : Nat} {o : MO} (h : i < μ.length) : (μ.set i o)[i]? = some o := by
  rw [List.getElem?_set_self h]
theorem cell_at {cells : List Int} {a : Int} (h0 : 0 ≤ a) (hne : cells ≠ []) (μ : Mu) : ∃ c, gIx (.lst (cells.map T.int)) (.int (a % (cells.length : Int))) μ = .ok (.int c) μ := by
  have hl : 0 < (cells.length : Int) := by
    have : cells.length ≠ 0 := fun z => hne (List.length_eq_zero_iff.mp z)
    omega
  have h1 := Int.emod_nonneg a (Int.ne_of_gt hl)
  have h2 := Int.emod_lt_of_pos a hl
  obtain ⟨j, hj⟩ : ∃ j : Nat, a % (cells.length : Int) = (j : Int) := ⟨(a % (cells.length : Int)).toNat, by omega⟩
  have hjl : j < cells.length := by omega
  refine ⟨cells[j], ix_seq' (ts := cells.map T.int) rfl ?_⟩
  rw [hj]
  refine atI_nat ?_
  rw [List.getElem?_map, List.getElem?_eq_getElem hjl] <;> rfl
theorem draw_ok {k1 k2 k3 k4 : Int} {μ : Mu} {i : Nat} {cells : List Int} {a r many : Int} (hp : μ[i]? = some (penO cells a r)) (h0 : 0 ≤ a) (h1 : a < 1048576) (hr : 0 ≤ r) (m0 : 2 ≤ many) (m1 : many < 1073741824)
    (c1 : 0 ≤ k1 ∧ k1 < 131072) (c2 : 0 ≤ k2 ∧ k2 < 131072) (c3 : 0 ≤ k3 ∧ k3 < 131072) (c4 : 0 ≤ k4 ∧ k4 < 131072) :
    ∃ d a' r', 0 ≤ d ∧ d < many ∧ a ≤ a' ∧ a' ≤ a + 1 ∧ 0 ≤ r' ∧ endO (drawM k1 k2 k3 k4 [some (.mr i), some (.int many), none, none, none, none, none] μ) = .ok (.int d) (μ.set i (penO cells a' r')) := by
  have hil : i < μ.length := (List.getElem?_eq_some_iff.mp hp).1
  have mp : 0 < many := by omega
  unfold drawM
  have t1 : mTst (mOp gLt (mVar 1) (mC (.int 2))) [some (.mr i), some (.int many), none, none, none, none, none] μ = .ok false μ := by
    show Out.ok (decide (many < 2)) μ = _
    rw [decide_eq_false (by omega)]
  simp only [r_seq, r_ifS, t1, Out.bind_ok, Bool.false_eq_true, if_false, r_next, r_seq_nx]
  by_cases hr0 : 0 < r
  · have t2 : mTst (mOp gGt (mOp gIx (mVar 0) (mC (.int 2))) (mC (.int 0))) [some (.mr i), some (.int many), none, none, none, none, none] μ = .ok true μ := by
      simp only [r_tst, r_op, r_var, r_c, List.getElem?_cons_zero, Out.bind_ok, pen2 hp, gGt, gI0, decide_eq_true hr0]
    refine ⟨r % many, a, r / many, Int.emod_nonneg _ (by omega), Int.emod_lt_of_pos _ mp, Int.le_refl _, by omega, Int.ediv_nonneg hr (by omega), ?_⟩
    simp only [t2, Out.bind_ok, if_true, r_seq, r_set, r_op, r_cl, r_cons, r_var, r_c, r_nil, List.getElem?_cons_zero, List.getElem?_cons_succ, pen2 hp, gInt_i, gMod_ok μ mp, List.set_cons_succ, List.set_cons_zero, r_seq_nx, r_asg, gDiv_ok μ mp (show many < 2 ^ 62 by omega), pen_st2 hp, r_ret, r_seq_rt, endO]
  · have t2 : mTst (mOp gGt (mOp gIx (mVar 0) (mC (.int 2))) (mC (.int 0))) [some (.mr i), some (.int many), none, none, none, none, none] μ = .ok false μ := by
      simp only [r_tst, r_op, r_var, r_c, List.getElem?_cons_zero, Out.bind_ok, pen2 hp, gGt, gI0, decide_eq_false hr0]
    have hp1 := pen_get (i := i) (o := penO cells (a + 1) r) hil
    have sm1 : small64 k1 = true := small64_of (by omega) (by omega)
    have sma : small64 a = true := small64_of (by omega) (by omega)
    simp only [t2, Out.bind_ok, Bool.false_eq_true, if_false, r_next, r_seq_nx, r_set, r_op, r_var, r_c, List.getElem?_cons_zero, List.getElem?_cons_succ, pen1 hp, List.set_cons_succ, List.set_cons_zero, r_asg, gAdd_i, pen_st1 hp, r_seq, gMul_l _ sm1]
    -- the cell
    obtain ⟨cell, hcell⟩ : ∃ cell : Int, mIfS (mTst (mOp gNe (mOp gIx (mVar 0) (mC (.int 0))) (mCl gLst mNil)))
        (mSet 4 (mOp gIx (mOp gIx (mVar 0) (mC (.int 0))) (mOp gMod (mCl gInt (mCons (mVar 3) mNil)) (mCl gLen (mCons (mOp gIx (mVar 0) (mC (.int 0))) mNil))))) mNext
        [some (.mr i), some (.int many), none, some (.int a), some (.int (k1 * a + k2)), none, none] (μ.set i (penO cells (a + 1) r)) = .ok (.nx [some (.mr i), some (.int many), none, some (.int a), some (.int cell), none, none]) (μ.set i (penO cells (a + 1) r)) := by
      by_cases hne : cells = []
      · refine ⟨k1 * a + k2, ?_⟩
        simp only [r_ifS, r_tst, r_op, r_var, r_c, r_cl, r_nil, List.getElem?_cons_zero, Out.bind_ok, pen0 hp1, r_lstG, show few ([] : List T) = true from rfl, if_true, gNe, eq_ints_nil, decide_eq_true hne, Bool.not_true, Bool.false_eq_true, if_false, r_next]
      · obtain ⟨cell, hc⟩ := cell_at h0 hne (μ.set i (penO cells (a + 1) r))
        have hl : 0 < (cells.length : Int) := by
          have : cells.length ≠ 0 := fun z => hne (List.length_eq_zero_iff.mp z)
          omega
        refine ⟨cell, ?_⟩
        simp only [r_ifS, r_tst, r_op, r_var, r_c, r_cl, r_nil, r_cons, List.getElem?_cons_zero, List.getElem?_cons_succ, Out.bind_ok, pen0 hp1, r_lstG, show few ([] : List T) = true from rfl, if_true, gNe, eq_ints_nil, decide_eq_false hne, Bool.not_false, r_set, gInt_i, len_cells, gMod_ok _ hl, hc, List.set_cons_succ, List.set_cons_zero]
    rw [hcell]
    simp only [r_seq_nx]
    have p18 : gPow (.int 10) (.int 18) (μ.set i (penO cells (a + 1) r)) = .ok (.int (10 ^ 18)) (μ.set i (penO cells (a + 1) r)) := gPow_ok (j := 18) _ (by omega) (by omega) (by omega)
    by_cases hg : a < (cells.length : Int) ∧ (10 : Int) ^ 18 ≤ (if cell < 0 then -cell else cell)
    · have t3 : mAnd (mTst (mOp gLt (mVar 3) (mCl gLen (mCons (mOp gIx (mVar 0) (mC (.int 0))) mNil)))) (mTst (mOp gGe (mCl gAbs (mCons (mVar 4) mNil)) (mOp gPow (mC (.int 10)) (mC (.int 18))))) [some (.mr i), some (.int many), none, some (.int a), some (.int cell), none, none] (μ.set i (penO cells (a + 1) r)) = .ok true (μ.set i (penO cells (a + 1) r)) := by
        simp only [r_and, r_tst, r_op, r_var, r_c, r_cl, r_nil, r_cons, List.getElem?_cons_zero, List.getElem?_cons_succ, Out.bind_ok, pen0 hp1, len_cells, gLt, gI0, decide_eq_true hg.1, if_true, gAbs, p18, gGe, decide_eq_true hg.2]
      generalize hv : (2 * ((if cell < 0 then -cell else cell) - (10 : Int) ^ 18) + if decide (cell < 0) = true then 1 else 0) = great
      have hv0 : 0 ≤ great := by
        have := hg.2
        split at hv <;> omega
      refine ⟨great % many, a + 1, great / many, Int.emod_nonneg _ (by omega), Int.emod_lt_of_pos _ mp, by omega, by omega, Int.ediv_nonneg hv0 (by omega), ?_⟩
      have s2 : small64 2 = true := rfl
      have hgi : gInt [.bl (decide (cell < 0))] (μ.set i (penO cells (a + 1) r)) = .ok (.int (if decide (cell < 0) = true then 1 else 0)) (μ.set i (penO cells (a + 1) r)) := rfl
      simp only [r_seq, r_ifS, t3, Out.bind_ok, if_true]
      simp only [r_seq, Out.bind_ok, if_true, r_set, r_op, r_cl, r_cons, r_var, r_c, r_nil, List.getElem?_cons_zero, List.getElem?_cons_succ, gAbs, p18, gSub_i, gMul_l _ s2, gLt, gI0, hgi, gAdd_i, hv, List.set_cons_succ, List.set_cons_zero, r_seq_nx, r_asg, gInt_i, gDiv_ok _ mp (show many < 2 ^ 62 by omega), pen_st2 hp1, r_ret, gMod_ok _ mp, r_seq_rt, endO, List.set_set]
    · have t3 : mAnd (mTst (mOp gLt (mVar 3) (mCl gLen (mCons (mOp gIx (mVar 0) (mC (.int 0))) mNil)))) (mTst (mOp gGe (mCl gAbs (mCons (mVar 4) mNil)) (mOp gPow (mC (.int 10)) (mC (.int 18))))) [some (.mr i), some (.int many), none, some (.int a), some (.int cell), none, none] (μ.set i (penO cells (a + 1) r)) = .ok false (μ.set i (penO cells (a + 1) r)) := by
        simp only [r_and, r_tst, r_op, r_var, r_c, r_cl, r_nil, r_cons, List.getElem?_cons_zero, List.getElem?_cons_succ, Out.bind_ok, pen0 hp1, len_cells, gLt, gI0]
        by_cases ha : a < (cells.length : Int)
        · have hb : ¬ (10 : Int) ^ 18 ≤ (if cell < 0 then -cell else cell) := fun z => hg ⟨ha, z⟩
          simp only [decide_eq_true ha, if_true, gAbs, p18, gGe, gI0, Out.bind_ok, decide_eq_false hb]
        · simp only [decide_eq_false ha, Bool.false_eq_true, if_false]
      generalize hx : cell % 2147483549 + k3 * a + k2 = x1
      have e1 : 0 ≤ cell % 2147483549 := Int.emod_nonneg _ (by omega)
      have e2 : cell % 2147483549 < 2147483549 := Int.emod_lt_of_pos _ (by omega)
      have n3 : 0 ≤ k3 * a := Int.mul_nonneg c3.1 h0
      have n3' : k3 * a ≤ 131072 * 1048576 := Int.mul_le_mul (by omega) (by omega) h0 (by omega)
      generalize hy : x1 ^ 3 % 2147483629 = mixed
      have f1 : 0 ≤ mixed := by rw [← hy]; exact Int.emod_nonneg _ (by omega)
      have f2 : mixed < 2147483629 := by rw [← hy]; exact Int.emod_lt_of_pos _ (by omega)
      generalize hz : mixed * (2 * a + k4) + k1 * a * a + k3 = x2
      have n1 : 0 ≤ k1 * a := Int.mul_nonneg c1.1 h0
      have n1' : k1 * a ≤ 131072 * 1048576 := Int.mul_le_mul (by omega) (by omega) h0 (by omega)
      have n2 : 0 ≤ k1 * a * a := Int.mul_nonneg n1 h0
      have n2' : k1 * a * a ≤ 131072 * 1048576 * 1048576 := Int.mul_le_mul n1' (by omega) h0 (by omega)
      have n4 : 0 ≤ mixed * (2 * a + k4) := Int.mul_nonneg f1 (by omega)
      have n4' : mixed * (2 * a + k4) ≤ 2147483629 * 2228224 := Int.mul_le_mul (by omega) (by omega) (by omega) (by omega)
      generalize hw : x2 ^ 5 % 2147483563 = m2
      refine ⟨m2 / 16 % many, a + 1, r, Int.emod_nonneg _ (by omega), Int.emod_lt_of_pos _ mp, by omega, by omega, hr, ?_⟩
      have sm3 : small64 k3 = true := small64_of (by omega) (by omega)
      have smm : small64 mixed = true := small64_of (by omega) (by omega)
      have sm1a : small64 (k1 * a) = true := small64_of (by omega) (by omega)
      have s2 : small64 2 = true := rfl
      have w3 := gPow_ok (i := x1) (j := 3) (μ.set i (penO cells (a + 1) r)) (by omega) (by omega) (by omega)
      have w5 := gPow_ok (i := x2) (j := 5) (μ.set i (penO cells (a + 1) r)) (by omega) (by omega) (by omega)
      have w3' : gPow (.int x1) (.int 3) (μ.set i (penO cells (a + 1) r)) = .ok (.int (x1 ^ 3)) (μ.set i (penO cells (a + 1) r)) := w3
      have w5' : gPow (.int x2) (.int 5) (μ.set i (penO cells (a + 1) r)) = .ok (.int (x2 ^ 5)) (μ.set i (penO cells (a + 1) r)) := w5
      simp only [r_seq, r_ifS, t3, Out.bind_ok, Bool.false_eq_true, if_false, r_next, r_seq_nx, r_set, r_op, r_cl, r_cons, r_var, r_c, r_nil, List.getElem?_cons_zero, List.getElem?_cons_succ, gInt_i, gMod_ok _ (show (0 : Int) < 2147483549 by omega), gMul_l _ sm3, gAdd_i, hx, w3', gMod_ok _ (show (0 : Int) < 2147483629 by omega), hy, List.set_cons_succ, List.set_cons_zero,
        gMul_l _ s2, gMul_l _ smm, gMul_l _ sm1, gMul_l _ sm1a, hz, w5', gMod_ok _ (show (0 : Int) < 2147483563 by omega), hw, r_ret, gDiv_ok _ (show (0 : Int) < 16 by omega) (show (16 : Int) < 2 ^ 62 by omega), gMod_ok _ mp, endO]
end Mr

namespace Mr
open PySem PySem.Spec PyProof.Rows L2
/-! ### repr -/
section
variable {X : Cx} {E : XK}
def gRepr : GL := fun ts μ => match ts with
  | [t] => match pyT μ 60 t with
    | some d => if (d.showable && SeqAt.shaped d && Nat.ble d.shown.cps.size 100000) = true then .ok (.str d.shown.cps.toList) μ else .bad
    | none => .bad
  | _ => .bad
theorem str_eta (z : Str) : (⟨z.cps.toList.toArray⟩ : Str) = z := by
  cases z
  simp
theorem cRepr (hG : X.A.guards = some []) (hu : X.A.units + 80 < cLine) : JC X E (.builtin "repr") gRepr := by
  intro pins s σ H xs us Q I rs ⟨W, μ, ts, k, r, q⟩
  unfold gRepr at q
  split at q
  · rename_i t
    split at q
    · rename_i d hd
      split at q
      · rename_i hc
        rw [Bool.and_eq_true, Bool.and_eq_true] at hc
        have hsz : d.shown.length ≤ sizeLine := small_str (Nat.le_of_ble_eq_true hc.2)
        have hdep := SeqAt.depth_of_shaped hc.1.2
        have hnd : d.hasDict = false := PyData.hasDict_of_canLay d (SeqAt.canLay_of_shaped hc.1.2)
        cases r with
        | cons r rl =>
          cases rl
          rename_i v
          have dp := pyT_dp k 60 t d v hd r
          obtain ⟨u, rfl, rv⟩ := vals1 rs
          obtain ⟨as, hr⟩ := Dp.reads I d v u dp rv
          have fin : ∀ h' tk tt, (∀ b o, s.heap.get? b = some o → h'.get? b = some o) → EP X pins σ Q (.str d.shown tt) { s with heap := h', toks := tk } := fun h' tk tt hk => by
            refine ⟨.str d.shown, H, I.kept hk, ⟨_, rfl⟩, ?_⟩
            have q' := Po.go (R := Rp (kwOf X)) q Fr.refl k (.str d.shown.cps.toList)
            rwa [str_eta] at q'
          have fin0 : ∀ tk tt, EP X pins σ Q (.str d.shown tt) { s with toks := tk } := fun tk tt => fin s.heap tk tt fun _ _ e => e
          cases hr with
          | none =>
            refine PySem.P.repr_of_none ?_
            have z := fin0 (s.toks + 1) s.toks
            simpa only [PyData.shown] using z
          | bool b =>
            refine PySem.P.repr_of_bool ?_
            have z := fin0 (s.toks + 1) s.toks
            simpa only [PyData.shown] using z
          | int i t =>
            refine PySem.P.repr_of_int (by simpa [PyData.showable] using hc.1.1) ?_
            have z := fin0 (s.toks + 1) s.toks
            simpa only [PyData.shown] using z
          | str x t =>
            refine PySem.P.repr_of_str ?_ (by simpa only [PyData.shown] using hsz)
            have z := fin0 (s.toks + 1) s.toks
            simpa only [PyData.shown] using z
          | list h1 h2 h3 h4 => exact repr_of_reads' (.list h1 h2 h3 h4) hc.1.1 (PyData.noDict_hsm hnd) hG (by omega) (fun _ _ e => e) (fun h' u tk hk => fin h' tk u hk) hsz
          | tuple h1 h2 h3 h4 => exact repr_of_reads' (.tuple h1 h2 h3 h4) hc.1.1 (PyData.noDict_hsm hnd) hG (by omega) (fun _ _ e => e) (fun h' u tk hk => fin h' tk u hk) hsz
          | dict h1 h2 h3 h4 h5 => cases dp
      · exact q.elim
    · exact q.elim
  · exact q.elim
end
end Mr

namespace Mr
open PySem PySem.Spec PyProof.Rows L2

/-! ### set(xs) of ints: how many, sorted -/
def insU (x : Int) : List Int → List Int
  | [] => [x]
  | y :: ys => if x < y then x :: y :: ys else if x = y then y :: ys else y :: insU x ys
/-- the members, each once, in their order -/
def sortU : List Int → List Int
  | [] => []
  | x :: xs => insU x (sortU xs)
theorem mem_insU {x k : Int} : ∀ {l : List Int}, k ∈ insU x l ↔ k = x ∨ k ∈ l
  | [] => by simp [insU]
  | y :: ys => by
    unfold insU
    split
    · simp
    · split
      · rename_i h; subst h; simp
      · rw [List.mem_cons, mem_insU (l := ys), List.mem_cons]
        constructor
        · rintro (h | h | h)
          · exact .inr (.inl h)
          · exact .inl h
          · exact .inr (.inr h)
        · rintro (h | h | h)
          · exact .inr (.inl h)
          · exact .inl h
          · exact .inr (.inr h)
theorem mem_sortU {k : Int} : ∀ {l : List Int}, k ∈ sortU l ↔ k ∈ l
  | [] => Iff.rfl
  | x :: xs => by
    show k ∈ insU x (sortU xs) ↔ _
    rw [mem_insU, mem_sortU (l := xs), List.mem_cons]
theorem pw_insU {x : Int} : ∀ {l : List Int}, l.Pairwise (· < ·) → (insU x l).Pairwise (· < ·)
  | [], _ => by simp [insU]
  | y :: ys, h => by
    unfold insU
    have h' := List.pairwise_cons.mp h
    split
    · rename_i hx
      refine List.pairwise_cons.mpr ⟨fun z hz => ?_, h⟩
      rcases List.mem_cons.mp hz with e | e
      · rw [e]; exact hx
      · exact Int.lt_trans hx (h'.1 z e)
    · split
      · exact h
      · refine List.pairwise_cons.mpr ⟨fun z hz => ?_, pw_insU h'.2⟩
        rcases mem_insU.mp hz with e | e
        · rw [e]; omega
        · exact h'.1 z e
theorem pw_sortU : ∀ l : List Int, (sortU l).Pairwise (· < ·)
  | [] => .nil
  | x :: xs => pw_insU (pw_sortU xs)
theorem pw_unique : ∀ {a b : List Int}, a.Pairwise (· < ·) → b.Pairwise (· < ·) → (∀ k, k ∈ a ↔ k ∈ b) → a = b
  | [], [], _, _, _ => rfl
  | [], y :: ys, _, _, h => absurd ((h y).mpr List.mem_cons_self) List.not_mem_nil
  | x :: xs, [], _, _, h => absurd ((h x).mp List.mem_cons_self) List.not_mem_nil
  | x :: xs, y :: ys, ha, hb, h => by
    have ha' := List.pairwise_cons.mp ha
    have hb' := List.pairwise_cons.mp hb
    have e : x = y := by
      rcases List.mem_cons.mp ((h x).mp List.mem_cons_self) with e | e
      · exact e
      · rcases List.mem_cons.mp ((h y).mpr List.mem_cons_self) with e2 | e2
        · exact e2.symm
        · have h1 := hb'.1 x e
          have h2 := ha'.1 y e2
          omega
    subst e
    rw [pw_unique ha'.2 hb'.2 fun k => ⟨fun hk => ?_, fun hk => ?_⟩]
    · rcases List.mem_cons.mp ((h k).mp (List.mem_cons_of_mem _ hk)) with e | e
      · have := ha'.1 k hk; omega
      · exact e
    · rcases List.mem_cons.mp ((h k).mpr (List.mem_cons_of_mem _ hk)) with e | e
      · have := hb'.1 k hk; omega
      · exact e
theorem len_insU (x : Int) : ∀ l : List Int, (insU x l).length ≤ l.length + 1
  | [] => Nat.le_refl _
  | y :: ys => by
    unfold insU
    split
    · exact Nat.le_refl _
    · split
      · exact Nat.le_succ _
      · have := len_insU x ys
        simp only [List.length_cons]
        omega
theorem len_sortU : ∀ l : List Int, (sortU l).length ≤ l.length
  | [] => Nat.le_refl _
  | x :: xs => by
    have h1 := len_insU x (sortU xs)
    have h2 := len_sortU xs
    show (insU x (sortU xs)).length ≤ xs.length + 1
    omega
section
variable {P : Program} {w : World} {A : Around} {E : Value → Shared → Prop} {s : Shared}
set_option maxHeartbeats 3200000 in
/-- set(l) of a list of ints, its order kept track of -/
theorem call_set_lstI {l : Addr} {items : Array Value} (ns : List Int) {Q : Value → Shared → Prop} (hh : A.handled = none) (hl : s.heap.IsList l items) (hit : IntsAre items.toList ns) (hb : ns.length + 1 < scanBound)
    (h : ∀ (h' : Heap) (tk c : Nat), SetR w h' s.heap.objs.size (fun j => decide (j ∈ ns)) c → c ≤ ns.length → (∀ b o, s.heap.get? b = some o → h'.get? b = some o) → Q (.ref s.heap.objs.size) { s with heap := h', toks := tk }) :
    wpAny (model P w) A (call (.type "set") [.ref l]) Q E s := by
  have hisz : items.size = ns.length := by
    have q := IntsAre.length hit
    rw [Array.length_toList] at q
    exact q
  obtain ⟨c, tl, hmro⟩ := F.called_set.mro
  have hmade := F.called_set.made
  have hsub := F.called_set.sub
  refine wpAny_call (codeAny_of_tree ?_)
  show wpAny _ _ (callAny (.type "set") _) _ _ _
  refine wpAny_pure ⟨Code.quiet_builtin _ (by decide +kernel), codeAny_builtin F.entry_type_call ?_⟩
  rw [Around.under_plain (weight_type_call_type "set" [.ref l] []) rfl]
  have h1 := F.called_set.notType
  have h2 := F.called_set.canCreate
  have hct := F.typeCall_set_1 (.ref l)
  repeat (any_goals (first | assumption | wp_step))
  let fs : Obj := { cls := .type "set", dict := none, data := .set #[] 0 (.fresh 0 0 (!w.params.followText "set-order")) }
  refine codeAny_mono (code_set_led1 (.ref l) (E := E) (Q₁ := fun obj s₁ => obj = .ref s.heap.objs.size ∧ s₁ = { s with heap := s.heap.push fs }) ⟨rfl, rfl⟩) fun r s₁ hr => ?_
  cases r with
  | error e => exact hr
  | ok fl =>
    cases fl with
    | ret obj =>
      obtain ⟨rfl, rfl⟩ := hr
      have hS : (s.heap.push fs).get? s.heap.objs.size = some fs := Heap.get?_push_size _ rfl
      have hT : Shared.TypeIs { s with heap := s.heap.push fs } (.ref s.heap.objs.size) "set" := ⟨_, hS, rfl⟩
      have hli := F.called_set.init.lookup
      have hbi := F.called_set.init.bind (.ref s.heap.objs.size)
      repeat (any_goals (first | assumption | wp_step))
      refine codeAny_mono (codeAny_call_builtin (R := wants (fun r s₂ => r = .none ∧ ∃ h' tk c, s₂ = { s with heap := h', toks := tk } ∧ SetR w h' s.heap.objs.size (fun j => decide (j ∈ ns)) c ∧ c ≤ ns.length ∧
          (∀ b o, s.heap.get? b = some o → h'.get? b = some o)) E) F.called_set.init.plain F.entry_set_init (check_set_init_1 hT ?_)) fun r₂ s₂ hr₂ => ?_
      · obtain ⟨ol, hol, hcl, nl, hdl⟩ := hl
        obtain ⟨ocls, odict, odata, oslots⟩ := ol
        simp only at hcl hdl
        subst hcl; subst hdl
        have hol' : (s.heap.push fs).get? l = some { cls := .type "list", dict := odict, data := .seq items nl, slots := oslots } := Heap.get?_push_of_some _ hol
        have hsls := F.sub_list_set
        have hslf := F.sub_list_frozenset
        have hne : (Value.type "list" == Value.type "dict") = false := by decide
        have hl1 : (s.heap.push fs).IsList l items := ⟨_, hol', rfl, nl, rfl⟩
        unfold Builtin.«set.__init__» noKeywords Builtin.Frozenset.updateFrom
        generalize hPI : pyIter = PI
        wp_walk
        subst hPI
        refine wpAny_pyIter_list hl1 ?_
        refine wpAny_bind (wpAny_runValue ?_)
        have hlS : l < s.heap.objs.size := Heap.lt_size hol
        have hh3 : A.in1.in1.in1.handled = none := by simp [hh]
        have hneI : l ≠ (s.heap.push fs).objs.size := by
          rw [Heap.size_push]; exact Nat.ne_of_lt (Nat.lt_succ_of_lt hlS)
        have hSf : s.heap.objs.size ∉ [(s.heap.push fs).objs.size, l] := by
          rw [Heap.size_push]; simp only [List.mem_cons, List.mem_singleton, List.not_mem_nil, or_false, not_or]
          exact ⟨Nat.ne_of_lt (Nat.lt_succ_self _), Nat.ne_of_gt hlS⟩
        have hval : ∀ (i : Nat) (v : Value), items[i]? = some v → ∃ k t, ns[i]? = some k ∧ v = .int k t := fun i v hv => by
          have hi : i < ns.length := by rw [← hisz]; exact (Array.getElem?_eq_some_iff.mp hv).1
          obtain ⟨t, e⟩ := PyProof.Rows.IntsAre.int_at hit i v (by rw [Array.getElem?_toList]; exact hv)
          refine ⟨ns[i], t, List.getElem?_eq_getElem hi, ?_⟩
          rw [e, List.getD_eq_getElem?_getD, List.getElem?_eq_getElem hi] <;> rfl
        refine set_update_ints ((Walks.list hh3 _ l hneI items).toS) s.heap.objs.size
          hSf ns hisz hb hval (items.size - 0) 0 _ (by omega) (Nat.zero_le _)
          ⟨⟨_, Heap.get?_push_size _ rfl, rfl, rfl⟩, (hl1.push _)⟩ ?hS0 ?hR
        case hS0 =>
          have hget : ((s.heap.push fs).push { cls := .type "list_iterator", data := .fields #[.ref l, .int 0 0] }).get? s.heap.objs.size = some fs := Heap.get?_push_of_some _ hS
          exact ⟨0, Nat.le_refl 0, setR_new_at hget⟩
        case hR =>
          intro s' c' hm hc' hS'
          obtain ⟨h', g2, d', tk', os'⟩ := s'
          have eg : g2 = s.gens := hm.gens
          have ed : d' = s.drawn := hm.drawn
          have eo : os' = s.os := hm.os
          subst eg; subst ed; subst eo
          show wpAny _ _ _ _ _ _
          refine wpAny_pure ?_
          show wpAny _ _ (ret Value.none) _ _ _
          rw [hisz] at hc'
          refine wpAny_pure ⟨rfl, h', tk', c', rfl, hS', hc', fun b o e => ?_⟩
          have hb0 : b < s.heap.objs.size := Heap.lt_size e
          have hb1 : b ≠ s.heap.objs.size := Nat.ne_of_lt hb0
          have hb2 : b ≠ (s.heap.push fs).objs.size := by
            rw [Heap.size_push]; exact Nat.ne_of_lt (Nat.lt_succ_of_lt hb0)
          exact hm.heap b o (by simp only [List.mem_cons, List.mem_singleton, List.not_mem_nil, or_false, not_or]; exact ⟨hb1, hb2⟩) (Heap.get?_push_of_some _ (Heap.get?_push_of_some _ e))
      · cases r₂ with
        | error e => exact hr₂
        | ok fl₂ =>
          cases fl₂ with
          | ret r =>
            obtain ⟨rfl, h', tk, c', rfl, hS', hc', hk'⟩ := hr₂
            repeat (any_goals (first | assumption | wp_step))
            exact h _ _ _ hS' hc' hk'
          | _ => exact hr₂.elim
    | _ => exact hr.elim
end
section
variable {X : Cx} {E : XK} {e : Expr} {te : TE} {me : ME} {p p2 q pos : Pos}
/-- sorted(set(e)) -/
def tSortSet (K : PySem.W.Frag) (te : TE) : TE := fun σ H Q => te σ H fun x H1 => ∃ (l : Addr) (ns : List Int), x = .ref l ∧ SqL K H1 l (ns.map V.int) ∧ ns.length < 64 ∧ ∀ a p H2, H1 a = none → H2 p = none → (∀ b, b ≠ a → H2 b = H1 b) → (∃ φ, H2 a = some (.ext φ)) → Q (.ref p) (upd H2 p (.lst ((sortU ns).map V.int)))
theorem pe_sortSet (hc : X.calm = true) (hg : Gl X "sorted") (hm : X.mg "sorted" = none) (hg2 : Gl X "set") (hm2 : X.mg "set" = none) (he : PE X e te)
    (na : starEach [e] X.env = (false, eval e X.env) :: starEach [] X.env := by rfl) (na2 : starEach [.Call (.Name "set" p2) [e] [] q] X.env = (false, eval (.Call (.Name "set" p2) [e] [] q) X.env) :: starEach [] X.env := by rfl) : PE X (.Call (.Name "sorted" p) [.Call (.Name "set" p2) [e] [] q] [] pos) (tSortSet X.K te) := by
  refine ⟨fun pins s σ H Q I h => ?_⟩
  refine Call_ (ld_blt I hg hm boot_sorted ?_)
  refine PyProof.Rows.callWith_builtin1 (PyProof.Rows.args_cons ?_ na2) rfl rfl
  refine Call_ (ld_blt I hg2 hm2 boot_set ?_)
  refine PyProof.Rows.callWith_type1 (PyProof.Rows.args_cons (thn (he.run pins s σ H _ I h) fun v s1 ⟨x, H1, I1, r1, q1⟩ => PyProof.Rows.args_nil ?_) na) na rfl
  obtain ⟨l, ns, rfl, hq, hl, q1⟩ := q1
  cases r1
  obtain ⟨its, r, pl, hz⟩ := I1.list hq
  refine call_set_lstI ns (I1.ok.hd hc) pl.isList (by simpa using ints_of_vals r) (by unfold scanBound; omega) fun h' tk c R1 hcn k => ?_
  refine PyProof.Rows.args_nil ?_
  have hn := I1.hok.fresh (Nat.le_refl s1.heap.objs.size)
  have I2 : Inv X pins σ (upd H1 s1.heap.objs.size (SetO X.w s1.heap.objs.size (fun j => decide (j ∈ ns)) c)) { s1 with heap := h', toks := tk } := I1.laid (t' := tk) (fun b o e => k b o e) (Nat.le_refl _) (setO_new R1)
  refine cr_sortedSet hc pins _ σ _ [.ref s1.heap.objs.size] _ Q I2 (.cons rfl .nil) ⟨_, _, c, rfl, upd_same, by omega, fun ms p hs hm hl2 hp => ?_⟩
  have e : ms = sortU ns := pw_unique hs (pw_sortU ns) fun k => by rw [hm, mem_sortU, decide_eq_true_eq]
  rw [e]
  exact q1 _ p _ hn hp (fun b hb => upd_ne hb) ⟨_, upd_same⟩
end
end Mr

namespace Mr
open PySem PySem.Spec PyProof.Rows L2

/-! ### == by an own __eq__ -/
/-- the right one's class is not below the left one's: pairs (left, right) -/
def EqP (K : PySem.W.Frag) (ps : List (Nat × Nat)) : Prop := ∀ p ∈ ps, PySem.W.notFirst K (He.ga K (nmS p.1)) (.ref (He.ga K (nmS p.2))) = true
def hasP (c d : Nat) : List (Nat × Nat) → Bool
  | [] => false
  | p :: l => (Nat.beq p.1 c && Nat.beq p.2 d) || hasP c d l
theorem hasP_mem {c d : Nat} : ∀ {l : List (Nat × Nat)}, hasP c d l = true → (c, d) ∈ l
  | [], h => by cases h
  | p :: l, h => by
    unfold hasP at h
    rw [Bool.or_eq_true, Bool.and_eq_true] at h
    rcases h with h | h
    · have e1 := Nat.eq_of_beq_eq_true h.1
      have e2 := Nat.eq_of_beq_eq_true h.2
      cases p
      cases e1
      cases e2
      exact List.mem_cons_self
    · exact List.mem_cons_of_mem _ (hasP_mem h)
def gEqO (tab : List (Nat × GL × List T)) (ps : List (Nat × Nat)) : G2 := fun x y μ => match asObj μ x with
  | some (c, _, _) => match asObj μ y with
    | some (d, _, _) => if hasP c d ps = true then match fndC c tab with
        | some g => g.1 ([x, y] ++ g.2) μ
        | none => .bad
      else .bad
    | none => .bad
  | none => gEq x y μ
section
variable {X : Cx} {E : XK} {k n m : Nat} {tab : List (Nat × GL × List T)} {ps : List (Nat × Nat)}
theorem oEqO (hm : nmS m = "__eq__") (tk : TkE X E) (hG : X.A.guards = some []) (hr : Room k X.A) (hu : X.A.units + 64 < cLine) (ht : ∀ p ∈ tab, Cnd X.prog X.w X.K X.mg X.base k m n p) (hp : EqP X.K ps) : OpR X (compareOp .Eq) (rM (kwOf X) E (gEqO tab ps)) := by
  intro pins s σ H x y v u Q I rx ry ⟨W, μ, tx, ty, k0, r1, r2, q⟩
  unfold gEqO at q
  split at q
  · rename_i c ns ts h1
    split at q
    · rename_i d ns' ts' h2
      split at q
      · rename_i hh
        split at q
        · rename_i g hg
          obtain ⟨a, dx, vs, rfl, e1, _, _⟩ := asObj_ins k0 r1 h1
          obtain ⟨b, dy, ws, rfl, e2, _, _⟩ := asObj_ins k0 r2 h2
          have hc := ht (c, g) (fndC_mem hg)
          obtain ⟨f, hmt, ⟨⟨fd, pn, dvs, ds, F, har, hb, hd, hT, _⟩⟩⟩ := hc.ex
          cases (show v = Value.ref a from rx)
          cases (show u = Value.ref b from ry)
          obtain ⟨mA, J, _⟩ := ins_get I.hok e1
          obtain ⟨mB, J', _⟩ := ins_get I.hok e2
          obtain ⟨od, J, _⟩ := J.look
          obtain ⟨od', J', _⟩ := J'.look
          obtain ⟨mm, hF⟩ := I.fr
          show wpAny (model X.prog X.w) X.A (richCompare .Eq (.ref a) (.ref b)) (EP X pins σ Q) X.xe s
          refine PySem.W.cmp_K (op := .Eq) (tb := .ref _) hr.units0 hF I.ok.mod.kin J J'.type (hp _ (hasP_mem hh)) (by have := hmt.at_; rw [hm] at this; exact this) hmt.fn ?_
          have sp : spM (kwOf X) pn.length g.1 ([V.ref a, V.ref b] ++ dvs) H Q E := Po.spM (har _ _) k0 ((RpL.cons r1 (.cons r2 .nil)).append (hT H W)) q
          refine wpAny_mono (run_G (us := [.ref a, .ref b]) (vs := [.ref a, .ref b]) F hG hr hb hd (passE tk) I (.cons rfl (.cons rfl .nil)) sp) (fun w s' z => ?_) fun _ _ x => x
          obtain ⟨z', H', I', rz, qz⟩ := z
          exact SlX.cmpback rz ⟨z', H', I', rz, qz⟩
        · exact q.elim
      · exact q.elim
    · exact q.elim
  · exact oEq hu pins s σ H x y v u Q I rx ry ⟨W, μ, tx, ty, k0, r1, r2, q⟩
end
end Mr

namespace Mr
open PySem PySem.Spec PyProof.Rows L2

/-! ### o.__class__.__name__ -/
/-- what is asked of the class -/
structure NmC (K : PySem.W.Frag) (C : Addr) (x : Str) : Prop where
  any : PySem.W.nsIn K PySem.cStatics "thirdparty.any" = some none
  ty : PySem.W.typeIn K (.ref C) = some (.type "type")
  ca : PySem.W.findIn K (.ref C) "__class__" = some (some (.builtin "object.__class__"))
  cn : PySem.W.specialIn K (.builtin "object.__class__") "__get__" = some (some (.builtin "getset_descriptor.__get__"))
  ct : PySem.W.takesIn K (.builtin "object.__class__") = some true
  cm : PySem.W.mroIn K C (.type "object") = some true
  fc : PySem.W.findCls K (.ref C) (.type "type") "__name__" = some (.get (.builtin "getset_descriptor.__get__") (.builtin "type.__name__") (.ref C) (.type "type"))
  sl : ∃ o t, K.lookup C = some o ∧ o.slots[2]? = some (some (.str x t))
open Builtin Builtin.ObjectAttr Builtin.Getset_descriptor PySem.W in
theorem nm_get {prog : Program} {w : World} {A : Around} {s : Shared} {K : PySem.W.Frag} {R : Result → Shared → Prop} {C : Addr} {x : Str} {o : Obj} {t : Tok} {tp : Value} (X : K.In s.heap) (ht : PySem.W.typeIn K (.ref C) = some (.type "type")) (lk : K.lookup C = some o) (hs : o.slots[2]? = some (some (.str x t)))
    (h : R (.ok (.ret (.str x t))) s) : codeAny (model prog w) A (.call (.builtin "getset_descriptor.__get__") ⟨[.builtin "type.__name__", .ref C, tp], []⟩) R s := by
  have ho := X _ _ lk
  obtain ⟨hh, g, dr, tk, os⟩ := s
  have L0 : Looks (model prog w) hh (typeOf (.ref C)) (.type "type") := looks_typeIn X ht
  have L1 : Looks (model prog w) hh (isSubtype (.type "type") (.type "type")) true := Looks.of_pure (by rw [isSubtype_type]; kernel_rfl)
  refine codeAny_call_builtin KF.slot_gs.plain KF.entry_gs (KF.slot_gs.check _ _ _ _ _ _ _ _ ktyn_type (KF.args_gs _ _ _) ?_)
  unfold Builtin.«getset_descriptor.__get__» descrGet
  rw [show descrGetArgs ⟨[.builtin "type.__name__", .ref C, tp], []⟩ = pure (.builtin "type.__name__", some (.ref C), given tp) from by kernel_rfl]
  refine wpAny_bind (wpAny_pure ?_)
  unfold descrGetter descrCheckInstance descrNameAndClass isInstance
  simp only [ktyn_owner]
  repeat lk
  refine ⟨Code.quiet_builtin _ (by decide +kernel), codeAny_builtin ktyn_entry ?_⟩
  unfold Builtin.«type.__name__» keptObject PySem.slotAt
  dsimp only
  refine wpAny_bind (wpAny_bind (wpAny_loadPart ho (wpAny_pure ?_)))
  rw [hs]
  first
    | exact wpAny_bind (wpAny_bind (wpAny_pure (wpAny_pure h)))
    | exact wpAny_bind (wpAny_pure (wpAny_pure h))
    | exact wpAny_pure h
theorem attr_clsname {prog : Program} {w : World} {A : Around} {E : Value → Shared → Prop} {s : Shared} {K : PySem.W.Frag} {C : Addr} {x : Str} {expr : Bool} {Q : Value → Shared → Prop} (X : K.In s.heap) (c : NmC K C x) (h : ∀ t u, Q (.str x t) { s with toks := u }) : wpAny (model prog w) A (getAttr (.ref C) "__name__" expr) Q E s := by
  obtain ⟨o, t, lk, hs⟩ := c.sl
  have hg : PySem.W.findIn K (.type "type") "__getattribute__" = some (some (.builtin "type.__getattribute__")) := PySem.W.type_tga
  refine PySem.W.cls_open X (PySem.W.looks_opaque X c.any) (PySem.W.looks_typeIn X c.ty) hg (PySem.W.looks_hook X (r := none) (by rfl)) (by show PySem.W.subIn K _ _ = _; rfl) c.fc ?_
  show wpAny _ _ (do ret (← holding [Value.builtin "type.__name__"] (call (.builtin "getset_descriptor.__get__") [.builtin "type.__name__", .ref C, .type "type"]))) _ _ _
  refine wpAny_bind (wpAny_holding (wpAny_call (nm_get (s := { s with toks := s.toks + 1 }) X c.ty lk hs ?_)))
  exact wpAny_pure (PySem.W.handed_on rfl (h _ _))
def gClsN (cs : List Nat) : G1 := fun x μ => match asObj μ x with
  | some (c, _, _) => if cs.elem c = true then .ok (.str (nmS c).cps.toList) μ else .bad
  | none => .bad
section
variable {X : Cx} {E : XK} {o : Expr} {mo : ME} {cs : List Nat} {pos p : Pos}
theorem pe_clsN {to : TE} (ho : PE X o to) (hb : attributeBase (.Attribute o "__class__" p) "__name__" X.env (eval (.Attribute o "__class__" p) X.env) = eval (.Attribute o "__class__" p) X.env := by rfl) (hb2 : attributeBase o "__class__" X.env (eval o X.env) = eval o X.env := by rfl) :
    PE X (.Attribute (.Attribute o "__class__" p) "__name__" pos) (fun σ H Q => to σ H fun x H1 => ∃ a C dx fs nm, x = .ref a ∧ H1 a = some (.ins C dx fs) ∧ Cls X.K C ∧ NmC X.K C nm ∧ Q (.str nm) H1) := by
  refine ⟨fun pins s σ H Q I h => ?_⟩
  refine attr_of hb (attr_of hb2 (thn (ho.run pins s σ H _ I h) fun u s1 ⟨x, H1, I1, rx, a, C, dx, fs, nm, ex, ea, c, n, q⟩ => ?_))
  subst ex
  obtain rfl : u = Value.ref a := rx
  obtain ⟨mA, J, _⟩ := ins_get I1.hok ea
  obtain ⟨od, J, _⟩ := J.look
  obtain ⟨mm, hF⟩ := I1.fr
  refine PySem.W.get_class hF I1.ok.mod.kin J (c.get _) c.hd n.ca n.cn n.ct n.cm ?_
  refine attr_clsname (s := { s1 with toks := s1.toks + 1 }) I1.kIn n fun t k => ?_
  exact ⟨.str nm, H1, I1.tok k, ⟨t, rfl⟩, q⟩
theorem je_clsN (hcs : ∀ c ∈ cs, Cls X.K (He.ga X.K (nmS c)) ∧ NmC X.K (He.ga X.K (nmS c)) (nmS c)) (ho : JE X E o mo) (hb : attributeBase (.Attribute o "__class__" p) "__name__" X.env (eval (.Attribute o "__class__" p) X.env) = eval (.Attribute o "__class__" p) X.env := by rfl) (hb2 : attributeBase o "__class__" X.env (eval o X.env) = eval o X.env := by rfl) :
    JE X E (.Attribute (.Attribute o "__class__" p) "__name__" pos) (mUn (gClsN cs) mo) := by
  refine PE_imp (pe_clsN ho hb hb2) fun σ H Q ⟨W, ρ, μ, k, st, q⟩ => ⟨W, ρ, μ, k, st, Po.bind (R := Rp (kwOf X)) q fun x μ1 _ H1 W1 v f1 k1 r1 q1 => ?_⟩
  unfold gClsN at q1
  split at q1
  · rename_i c ns ts h1
    split at q1
    · rename_i hh
      obtain ⟨a, dx, vs, rfl, e1, _, _⟩ := asObj_ins k1 r1 h1
      obtain ⟨c1, c2⟩ := hcs c (List.elem_iff.mp hh)
      refine ⟨a, _, dx, _, nmS c, rfl, e1, c1, c2, ?_⟩
      have z := Po.go (R := Rp (kwOf X)) q1 Fr.refl k1 (.str _)
      simpa using z
    · exact q1.elim
  · exact q1.elim
end
end Mr

namespace Mr
open PySem PySem.Spec PyProof.Rows L2

/-! ### bool(x): of truth values and ints, of instances with an own __bool__ -/
theorem bool_of {prog : Program} {w : World} {A : Around} {E : Value → Shared → Prop} {s : Shared} {x : Addr} {Q : Value → Shared → Prop} (h : wpAny (model prog w) A.in1.in1 (truthy (.ref x)) (fun b s' => Q (.bool b) s') E s) : wpAny (model prog w) A (call (.type "bool") [.ref x]) Q E s := by
  refine callType_codes (T := "bool") (Bi := Builtin.«object.__init__») (Q₁ := fun r s₁ => ∃ b, r = Value.bool b ∧ Q r s₁) PySem.F.called_bool (PySem.F.typeCall_bool_1 _) PySem.F.entry_object_init ?_ ?_
  · refine codeAny_of_tree ?_
    show wpAny _ A.in1.in1 (do checkBuiltinCall "bool.__new__" ⟨[.type "bool", .ref x], []⟩; again (.builtin "bool.__new__" ⟨[.type "bool", .ref x], []⟩)) _ _ s
    refine wpAny_bind (wpAny_of_eq (PySem.F.newCall_bool_1 _) (wpAny_pure ⟨plainId_quiet (by decide +kernel) _, codeAny_builtin PySem.F.entry_bool_new ?_⟩))
    rw [Around.under_plainId (by decide +kernel) _]
    unfold Builtin.«bool.__new__»
    refine wpAny_bind (wpAny_of_eq (a := true) (by kernel_rfl) ?_)
    refine PySem.W.KFB.if_not rfl ?_
    refine wpAny_bind (wpAny_of_eq (a := true) PySem.F.conv_sub_bool ?_)
    refine PySem.W.KFB.if_not rfl ?_
    refine wpAny_bind (wpAny_of_eq (a := [.ref x]) (by kernel_rfl) ?_)
    refine wpAny_bind (wpAny_mono h (fun b s₁ hr => ?_) fun _ _ y => y)
    exact wpAny_pure ⟨b, rfl, hr⟩
  · rintro obj s₁ ⟨b, rfl, hq⟩
    exact ⟨rfl, PySem.F.args_object_init_2 _ _, object_init_meets PySem.F.called_bool.init.lookup PySem.F.called_bool.made (by decide) prog w A.in1 _ s₁ ⟨rfl, rfl, hq⟩⟩
def gBool (tab : List (Nat × GL × List T)) : GL := fun ts μ => match ts with
  | [.bl b] => .ok (.bl b) μ
  | [.int i] => .ok (.bl (i != 0)) μ
  | [t] => match asObj μ t with
    | some (c, _, _) => match fndC c tab with
      | some g => (g.1 ([t] ++ g.2) μ).bind fun r μ1 => match r with
        | .bl b => .ok (.bl b) μ1
        | _ => .bad
      | none => .bad
    | none => .bad
  | _ => .bad
section
variable {X : Cx} {E : XK} {k n m : Nat} {tab : List (Nat × GL × List T)}
theorem run_G2 {CX : CXT} {f : Addr} {fd : FuncData} {ps : List Str} {sp : Sp} {dvs : List V} {ds : List Value} {pins : List (Addr × Obj)} {σ : L2.St} {H : Hp} {s : Shared} {Q : VK} {us : List Value} {vs : List V} (F : FnG X.prog X.w X.K X.mg X.base CX k f fd ps sp) (hG : X.A.guards = some []) (hr : Room (k + 2) X.A) (hb : Binds X.K fd ps ds) (hd : Vals dvs ds) (hx : Passes CX X E)
    (I : Inv X pins σ H s) (r : Vals vs us) (h : sp (vs ++ dvs) H Q E) : wpAny (model X.prog X.w) X.A.in1.in1 (call (.ref f) us) (EP X pins σ Q) X.xe s := by
  have rr := Vals.append r hd
  have hlen : (us ++ ds).length = ps.length := rr.length.symm.trans (F.len _ _ _ _ h)
  have go := F.run X.A.in1.in1 X.stack s H ⟨us, []⟩ (us ++ ds) (vs ++ dvs) Q E hG (Room.in1 (Room.in1 hr)) I.env0.in1.in1 (hb s us I.kIn hlen) rr h
  apply wpAny_call
  apply codeAny_mono go
  intro r s' hq
  rcases r with e | (_ | _ | _ | u)
  all_goals first | exact hx pins σ H s e s' I hq | exact I.after hq | exact False.elim hq
theorem cBool (hm : nmS m = "__bool__") (tk : TkE X E) (hG : X.A.guards = some []) (hr : Room (k + 2) X.A) (ht : ∀ p ∈ tab, Cnd X.prog X.w X.K X.mg X.base k m n p) : JC X E (.type "bool") (gBool tab) := by
  intro pins s σ H xs us Q I rs ⟨W, μ, ts, k0, r, q⟩
  unfold gBool at q
  split at q
  · cases r with
    | cons r rl =>
      cases rl; cases r
      exact call_bool1 pins s σ H _ us Q I rs (.inr ⟨_, rfl, Po.go (R := Rp (kwOf X)) q Fr.refl k0 (.bl _)⟩)
  · cases r with
    | cons r rl =>
      cases rl; cases r
      exact call_bool1 pins s σ H _ us Q I rs (.inl ⟨_, rfl, Po.go (R := Rp (kwOf X)) q Fr.refl k0 (.bl _)⟩)
  · split at q
    · rename_i c ns ts h1
      split at q
      · rename_i g hg
        cases r with
        | cons r rl =>
          cases rl
          obtain ⟨a, dx, vs, rfl, e1, _, _⟩ := asObj_ins k0 r h1
          have hc := ht (c, g) (fndC_mem hg)
          obtain ⟨f, hmt, ⟨⟨fd, pn, dvs, ds, F, har, hb, hd, hT, _⟩⟩⟩ := hc.ex
          obtain rfl := Vals.ref1 rs
          obtain ⟨mA, J, _⟩ := ins_get I.hok e1
          obtain ⟨od, J, _⟩ := J.look
          obtain ⟨mm, hF⟩ := I.fr
          refine bool_of (PySem.W.truthy_K (f := f) hF I.ok.mod.kin J (by have := hmt.at_; rw [hm] at this; exact this) hmt.fn ?_)
          have sp : spM (kwOf X) pn.length g.1 ([V.ref a] ++ dvs) H (fun v H' => ∃ b, v = .bl b ∧ Q (.bl b) H') E := by
            refine Po.spM (har _ _) k0 ((RpL.cons r .nil).append (hT H W)) ?_
            have q : PoE (kwOf X) E H W Q ((g.1 ([_] ++ g.2) μ).bind _) := q
            refine Po.bind (R := Rp (kwOf X)) (R' := Rp (kwOf X)) q fun t μ1 _ H1 W1 v f1 k1 r1 q1 => ?_
            split at q1
            · cases r1
              exact ⟨_, rfl, Po.go (R := Rp (kwOf X)) q1 Fr.refl k1 (.bl _)⟩
            · exact q1.elim
          refine wpAny_mono (run_G2 (us := [.ref a]) (vs := [.ref a]) F hG hr hb hd (passE tk) I (.cons rfl .nil) sp) (fun w s' z => ?_) fun _ _ x => x
          obtain ⟨z', H', I', rz, b, rfl, qz⟩ := z
          cases (show w = Value.bool b from rz)
          exact ⟨.bl b, H', I', rfl, qz⟩
      · exact q.elim
    · exact q.elim
  · exact q.elim
end
end Mr

namespace Mr
open PySem PySem.Spec PyProof.Rows L2

/-! ### a def with a star parameter -/
structure FnS (P : Program) (w : World) (K : PySem.W.Frag) (mg : Str → Option Value) (base : Heap) (CX : CXT) (k : Nat) (f : Addr) (sp : Sp) : Prop where
  run : ∀ (A : Around) (outer : List Env) (s : Shared) (H : Hp) (us : List Value) (vs : List V) (Q : VK) (E : XK), A.guards = some [] → Room k A → Env0 P w K mg base A outer s H →
    Vals vs us → sp vs H Q E → codeAny (model P w) A (.call (.ref f) ⟨us, []⟩) (CR CX outer P w H s Q E) s
def starG (l : Nat) (m : GL) : GL := fun ts μ => if (Nat.ble l ts.length && few ts) = true then m (ts.take l ++ [.tup (ts.drop l)]) μ else .bad
def spS (K : KW) (m : GL) : Sp := fun vs H Q E => ∃ W μ ts, Ok K H W μ ∧ RpL K H W ts vs ∧ PoE K E H W Q (m ts μ)
theorem vals_len : ∀ {vs : List V} {us : List Value}, Vals vs us → vs.length = us.length := fun r => r.length
theorem FnS.of {P : Program} {w : World} {K : PySem.W.Frag} {mg : Str → Option Value} {base : Heap} {x qual pv : Str} {params : Arguments} {body : List Stmt} {scope : Scope} {f : Addr} {fd : FuncData} {N ps : List Str} {k : Nat} {sp2 : Sp}
    (F : FunD K x qual params body scope [] [] f fd) (S : FnScope N (ps ++ [pv]) scope)
    (hb : ∀ (kV doc pm : Value) (an : Option Addr) (cdv ct : Value) (us rest : List Value), us.length = ps.length → bindArgs (PySem.W.fnOf x qual params body scope .none kV doc pm an cdv ct) ⟨us ++ rest, []⟩ = (newTuple rest >>= fun t => pure (ps.zip us ++ [(pv, t)])))
    (hbody : ∀ (cdv : Value) (A : Around) (outer : List Env) (s : Shared) (H : Hp) (vs : List V) (Q : VK) (E : XK), (A.deeper (envOfC qual scope s.heap.objs.size f cdv)).guards = some [] → Room k (A.deeper (envOfC qual scope s.heap.objs.size f cdv)) → (∃ oc od osl fd', K.lookup f = some ⟨oc, od, .func fd', osl⟩ ∧ fd'.code = cdv) → PySem.W.codeIn K cdv qual = true → sp2 vs H Q E →
      ∃ t, PSs (cxOf (L2.CX P w) P w K mg base N qual scope f cdv A outer s H (lkX E)) body t ∧ t { nx := fun _ => LkE (Q .non), rt := fun v => LkE (Q v) } (start N vs) H) :
    FnS P w K mg base (L2.CX P w) (k + 1) f (fun vs H Q E => ∃ ws rest, vs = ws ++ rest ∧ ws.length = ps.length ∧ rest.length ≤ sizeLine ∧ ∀ p, H p = none → sp2 (ws ++ [V.ref p]) (upd H p (.tup rest)) Q E) := by
  obtain ⟨oc, od, dV, kV, doc, pm, an, cdv, ct, osl, rfl, lk, hcd, hD, _⟩ := F.ex
  rcases hD with ⟨_, rfl⟩ | ⟨e, _⟩
  · constructor
    intro A outer s H us vs Q E hG hr e0 r hsp
    obtain ⟨ws, rest, rfl, hl, hz, hq⟩ := hsp
    obtain ⟨u1, u2, rfl, r1, r2⟩ := StX.vals_split r
    have hn : H s.heap.objs.size = none := e0.hok.fresh (Nat.le_refl _)
    have hl1 : u1.length = ps.length := by rw [← r1.length]; exact hl
    have hl2 : u2.length ≤ sizeLine := by rw [← r2.length]; exact hz
    have inK : K.In s.heap := Mod.kin e0.mod |>.keeps fun b o e => (e0.bs b o e).1
    apply codeAny_call_function hr.depth (inK _ _ lk) rfl S.co S.gen rfl (PySem.W.codeRec_of inK hcd)
    rw [hb kV doc pm an cdv ct u1 u2 hl1]
    refine wpAny_bind (wpAny_newTuple (wpAny_pure ?_) hl2)
    have new : ObjOk P w (upd H s.heap.objs.size (.tup rest)) (s.heap.push ({ cls := .type "tuple", data := .seq u2.toArray } : Obj)) s.heap.objs.size (.tup rest) := ⟨hz, u2, r2, ⟨_, Heap.get?_push_size _ rfl, rfl, _, rfl⟩⟩
    have un := StX.un_laid (fs := frs outer) (s := s) (o := ({ cls := .type "tuple", data := .seq u2.toArray } : Obj)) (u := .tup rest) hn
    have e2 := StX.env0_laid e0 new
    have kp : ∀ b o, s.heap.get? b = some o → (s.heap.push ({ cls := .type "tuple", data := .seq u2.toArray } : Obj)).get? b = some o := fun b o q => Heap.get?_push_of_some _ q
    generalize hs2 : ({ s with heap := s.heap.push ({ cls := .type "tuple", data := .seq u2.toArray } : Obj) } : Shared) = s2 at e2 ⊢
    have hos : s2.os = s.os := by rw [← hs2]
    have un : Un (frs outer) [] H (upd H s.heap.objs.size (.tup rest)) s.heap s2.heap := by rw [← hs2]; exact un
    have kp : ∀ b o, s.heap.get? b = some o → s2.heap.get? b = some o := by rw [← hs2]; exact kp
    have sp := hq s.heap.objs.size hn
    have rr : Vals (ws ++ [V.ref s.heap.objs.size]) (u1 ++ [Value.ref s.heap.objs.size]) := r1.append (.cons rfl .nil)
    have lenv : (ws ++ [V.ref s.heap.objs.size]).length = (ps ++ [pv]).length := by rw [List.length_append, List.length_append, hl] <;> rfl
    have ez : ps.zip u1 ++ [(pv, Value.ref s.heap.objs.size)] = (ps ++ [pv]).zip (u1 ++ [Value.ref s.heap.objs.size]) := by rw [List.zip_append hl1.symm] <;> rfl
    rw [ez]
    have noLim : s2.heap.NoLimit := Mod.nolimit e2.mod |>.keeps fun b o e => (e2.bs b o e).1
    have kinds : ∀ y ∈ (ps ++ [pv]).zip (u1 ++ [Value.ref s.heap.objs.size]), scope.names.lookup y.1 = some .local ∨ (scope.names.lookup y.1 = some .cell ∧ ((cellsFrom (s2.heap.objs.size + 1) scope.names []).lookup y.1).isSome = true) := by
      rintro ⟨n, v⟩ hy
      cases S.par n (List.of_mem_zip hy).1 with
      | inl q => exact Or.inl q
      | inr q => exact Or.inr (And.intro q (PySem.W.cellsFrom_some _ _ _ (.inl q)))
    apply wpAny_newFunctionEnv_cells S.kind kinds
    intro env he s1 x
    subst he
    refine And.intro (noLim.keeps x.toInCall.keep) (codeAny_func ?_)
    obtain ⟨t, ht, hq⟩ := hbody cdv A outer s2 _ _ Q E (guards_deeper hG) (hr.deeper _) ⟨_, _, _, _, lk, rfl⟩ hcd sp
    have J0 := inv_start (CX := L2.CX P w) (w := w) (N := N) (qual := qual) (f := f) (cd := cdv) (E := lkX E) S hr.hd e2 lenv rr x
    have cxu : ∀ e s', L2.CX P w outer (upd H s.heap.objs.size (.tup rest)) s2 (lkX E) e s' → L2.CX P w outer H s E e s' := fun e s' c => StX.cxUp outer s H s2 _ E e s' un kp hos (cx_lock c)
    apply wpAny_mono (ht.run [] s1 (start N (ws ++ [V.ref s.heap.objs.size])) _ _ J0 hq)
    · intro fl s' hs
      cases fl with
      | next =>
        obtain ⟨σ', H', J, q⟩ := hs
        obtain ⟨H2, J2, q2⟩ := q.run J
        exact ⟨V.non, H2, J2.os.trans hos, J2.bare, un.trans J2.base, J2.hok, rfl, q2⟩
      | ret u =>
        obtain ⟨v, σ', H', J, rv, q⟩ := hs
        obtain ⟨H2, J2, q2⟩ := q.run J
        exact ⟨v, H2, J2.os.trans hos, J2.bare, un.trans J2.base, J2.hok, rv, q2⟩
      | brk => exact False.elim hs.choose_spec.choose_spec.2
      | cont => exact False.elim hs.choose_spec.choose_spec.2
    · intro e s' hs
      exact wpAny_mono hs (fun _ s'' c => cxu _ s'' c) fun e' s'' c => cxu e' s'' c
  · exact absurd rfl e
theorem spS_star {K : KW} {l : Nat} {m : GL} {vs : List V} {H : Hp} {Q : VK} {E : XK} (h : spS K (starG l m) vs H Q E) : ∃ ws rest, vs = ws ++ rest ∧ ws.length = l ∧ rest.length ≤ sizeLine ∧ ∀ p, H p = none → spM K (l + 1) m (ws ++ [V.ref p]) (upd H p (.tup rest)) Q E := by
  obtain ⟨W, μ, ts, k, r, q⟩ := h
  unfold starG at q
  split at q
  · rename_i hh
    rw [Bool.and_eq_true] at hh
    have h1 : l ≤ ts.length := Nat.le_of_ble_eq_true hh.1
    have hl := r.length
    have hf := few_le hh.2
    have hle : (vs.drop l).length ≤ sizeLine := by
      rw [List.length_drop]
      omega
    refine ⟨vs.take l, vs.drop l, (List.take_append_drop l vs).symm, by rw [List.length_take]; omega, hle, fun p hp => ?_⟩
    obtain ⟨f1, k1⟩ := k.frozen (o := .tup (vs.drop l)) hp
    refine ⟨by rw [List.length_append, List.length_take, List.length_singleton]; omega, _, μ, _, k1, RpL.append (RpL.take _ (r.fr f1)) (.cons (.tup (.inl (.inl upd_same)) (RpL.drop _ (r.fr f1))) .nil), Po.fr f1 q⟩
  · exact q.elim
/-- C(e, ..), the class's __init__ with a star parameter -/
theorem run_makeS {X : Cx} {E : XK} {C f : Addr} {k : Nat} {sp : Sp} {pins : List (Addr × Obj)} {σ : L2.St} {H : Hp} {s : Shared} {Q : VK} {us : List Value} {vs : List V} (M : Mk X.K C f) (F : FnS X.prog X.w X.K X.mg X.base (L2.CX X.prog X.w) k f sp) (hG : X.A.guards = some []) (hr : Room (k + 1) X.A)
    (tk : TkE X E) (I : Inv X pins σ H s) (r : Vals vs us)
    (h : ∀ x dx, H x = none → H dx = none → dx ≠ x → sp (.ref x :: vs) (upd (upd H dx (.own x)) x (.ins C dx [])) (fun v H2 => v = .non ∧ Q (.ref x) H2) E) :
    wpAny (model X.prog X.w) X.A (call (.ref C) us) (EP X pins σ Q) X.xe s := by
  have hq := h (s.heap.objs.size + 1) s.heap.objs.size (I.hok.fresh (Nat.le_succ _)) (I.hok.fresh (Nat.le_refl _)) (Nat.ne_of_lt (Nat.lt_succ_self _))
  have I2 := Inv.made (C := C) I
  have rr : Vals (V.ref (s.heap.objs.size + 1) :: vs) (Value.ref (s.heap.objs.size + 1) :: us) := Paired.cons rfl r
  have go := F.run (X.A.under (.builtin "type.__call__" ⟨.ref C :: us, []⟩)) X.stack _ _ (Value.ref (s.heap.objs.size + 1) :: us) _ _ E (guards_make hG) (hr.make C us []) (I2.env0.make C us []) rr hq
  apply wpAny_call
  apply make_map (f := f) I.kIn M.makes M.init (beq_iff_eq.mp M.fn)
  apply codeAny_mono go
  intro res s' hq'
  rcases res with e | (_ | _ | _ | u)
  all_goals first
    | exact passE tk pins σ _ _ e s' I2 hq'
    | exact False.elim hq'
    | (obtain ⟨v, H', I3, rv, ev, q3⟩ := I2.after hq'
       subst ev
       exact ⟨rv, ⟨V.ref (s.heap.objs.size + 1), H', I3, rfl, q3⟩⟩)
theorem pe_makeS {X : Cx} {E : XK} {C f : Addr} {k : Nat} {sp : Sp} {x : Str} {p pos : Pos} {e : Expr} {es : List Expr} {t : TA} (M : Mk X.K C f) (F : FnS X.prog X.w X.K X.mg X.base (L2.CX X.prog X.w) k f sp) (hG : X.A.guards = some []) (hr : Room (k + 1) X.A) (hg : Gl X x) (hm : X.mg x = some (.ref C)) (tk : TkE X E)
    (ha : PA X (e :: es) t) (hdb : (x == ("__debug__" : Str)) = false := by decide) (he : starEach (e :: es) X.env = (false, eval e X.env) :: starEach es X.env := by rfl) (hpl : (backTo pos (starEach es X.env)).any (·.1) = false := by rfl) :
    PE X (.Call (.Name x p) (e :: es) [] pos) (tMake C sp [] E t) := by
  constructor
  intro pins s σ H Q I h
  apply wpAny_Call_Name_kw (ld_glob I hg hm ?_ hdb)
  apply PySem.W.callWith_K (h₀ := X.base) I.ok.mod.kin M.kp ?_ he hpl
  apply thn (ha.run pos pins s σ H _ I h)
  intro us s1 ⟨vs, H1, I1, r, q⟩
  exact And.intro I1.kIn (run_makeS M F hG hr tk I1 r fun x dx h1 h2 h3 => by have z := q x dx h1 h2 h3; rwa [List.append_nil] at z)
/-- .. worth g -/
structure MkS (P : Program) (w : World) (K : PySem.W.Frag) (mg : Str → Option Value) (base : Heap) (k c : Nat) (g : GL) : Prop where
  glo : mg (nmS c) = some (.ref (He.ga K (nmS c)))
  ex : ∃ f, Mk K (He.ga K (nmS c)) f ∧ FnS P w K mg base (L2.CX P w) k f (spS ⟨K, w⟩ g)
section
variable {X : Cx} {E : XK} {k c : Nat} {g : GL} {x : Str} {p pos : Pos} {e : Expr} {es : List Expr} {ma : MA}
theorem make_coreS {H : Hp} {W : Wd} {μ : Mu} {ts : List T} {vs : List V} {Q : VK} (k0 : Ok (kwOf X) H W μ) (r : RpL (kwOf X) H W ts vs) (q : PoE (kwOf X) E H W Q (makeO c g ts μ)) :
    ∀ x dx, H x = none → H dx = none → dx ≠ x → spS (kwOf X) g (.ref x :: vs) (upd (upd H dx (.own x)) x (.ins (He.ga X.K (nmS c)) dx [])) (fun v H2 => v = .non ∧ Q (.ref x) H2) E := fun x dx hx hd hn => by
  obtain ⟨f1, k1⟩ := k0.mkObj (c := c) hx hd hn
  have hmr : (W.psh x).e[μ.length]? = some x := by
    show (W.e ++ [x])[μ.length]? = some x
    rw [← k0.len, List.getElem?_append_right (Nat.le_refl _), Nat.sub_self] <;> rfl
  refine ⟨_, _, _, k1, .cons (.mr hmr) (r.fr f1), ?_⟩
  have q : PoE (kwOf X) E H W Q ((g (.mr μ.length :: ts) (μ ++ [.obj c [] []])).bind fun r μ2 => match r with
    | .non => .ok (.mr μ.length) μ2
    | _ => .bad) := q
  cases eg : g (.mr μ.length :: ts) (μ ++ [.obj c [] []]) with
  | bad => rw [eg] at q; exact q.elim
  | exc y m => rw [eg] at q; exact fun H' W' cl d f k r => q H' W' cl d (f1.trans f) k r
  | ok t m =>
    rw [eg] at q
    cases t with
    | non =>
      intro H' W' v f k r
      cases r
      exact ⟨rfl, q H' W' _ (f1.trans f) k (.mr (f.et _ _ hmr))⟩
    | _ => exact q.elim
theorem je_mkS [hk : KpL g] (hE : LkC E) (hx : nmS c = x) (tk : TkE X E) (hG : X.A.guards = some []) (hr : Room (k + 1) X.A) (hg : Gl X x) (hM : MkS X.prog X.w X.K X.mg X.base k c g) (ha : JA X E (e :: es) ma) (hdb : (x == ("__debug__" : Str)) = false := by decide)
    (he : starEach (e :: es) X.env = (false, eval e X.env) :: starEach es X.env := by rfl) (hpl : (backTo pos (starEach es X.env)).any (·.1) = false := by rfl) : JE X E (.Call (.Name x p) (e :: es) [] pos) (mMk makeP c g [] ma) := by
  subst hx
  obtain ⟨f, M, F⟩ := hM.ex
  refine PE_imp (pe_lks (pe_makeS M F hG hr hg hM.glo tk ha hdb he hpl)) fun σ H Q ⟨W, ρ, μ, k, st, q⟩ => ⟨W, ρ, μ, k, st, Po.bind (R := RpL (kwOf X)) (R' := Rp (kwOf X)) q fun ts μ1 _ H1 W1 vs f1 k1 r1 q1 => ?_⟩
  rw [List.append_nil] at q1
  have z := make_coreS k1.lckAll r1 (PoE.pure k1 hE makeO_kp q1)
  intro x dx h1 h2 h3
  rw [List.append_nil]
  exact z x dx h1 h2 h3
instance {l : Nat} {m : GL} [hm : KpL m] : KpL (starG l m) := ⟨fun ts μ => by
  unfold starG
  split
  · exact hm.kp _ _
  · exact True.intro⟩
end
section
variable {P : Program} {w : World} {K : PySem.W.Frag} {mg : Str → Option Value} {base : Heap} {k : Nat} {at_ : Str × Option Str} {nm qual : Str} {st : Stmt} {N ps : List Str} {pv : Str} {mb : MS}
/-- a star def of the text -/
theorem defS [KpR mb] (F : ∃ fd, FunD K nm qual (defArgs st) (defBody st) (defScope st) [] [] (He.fAd K at_) fd) (S : FnScope N (ps ++ [pv]) (defScope st)) (n : Nat) (hn : N.length = n) 
    (hb : ∀ (kV doc pm : Value) (an : Option Addr) (cdv ct : Value) (us rest : List Value), us.length = ps.length → bindArgs (PySem.W.fnOf nm qual (defArgs st) (defBody st) (defScope st) .none kV doc pm an cdv ct) ⟨us ++ rest, []⟩ = (newTuple rest >>= fun t => pure (ps.zip us ++ [(pv, t)])))
    (hbody : BodyD P w K mg base N k at_ qual st mb) : FnS P w K mg base (L2.CX P w) (k + 1) (He.fAd K at_) (spS ⟨K, w⟩ (starG ps.length (fnK n mb))) := by
  obtain ⟨fd, F⟩ := F
  have z := FnS.of (sp2 := spM ⟨K, w⟩ (ps.length + 1) (fnK n mb)) (P := P) (w := w) (mg := mg) (base := base) (k := k) F S hb fun cdv A outer s H vs Q E hG hr hlk hcd hsp => ⟨tMS ⟨K, w⟩ (lkX E) mb, hbody cdv A outer s H E hG hr (by
    obtain ⟨oc, od, osl, fd', lk, e⟩ := hlk
    obtain ⟨c, hc⟩ := He.codeIn_ref hcd
    rw [He.codeOf_eq (p := at_) lk (e.trans hc)]
    exact hc) tkD, body_K hn hsp⟩
  exact ⟨fun A outer s H us vs Q E hG hr e0 r hsp => z.run A outer s H us vs Q E hG hr e0 r (spS_star hsp)⟩
end
end Mr

namespace Mr
open PySem PySem.Spec PyProof.Rows L2 TL

/-! ### sorted(set(e)), len(set(e)) -/
def mSortSet (fin : List T → Mu → Out T) (me : ME) : ME := fun ρ μ => (me ρ μ).bind fun t μ1 => match asLst μ1 t with
  | some ts => match asInts ts with
    | some ns => if Nat.blt ns.length 64 = true then fin ((sortU ns).map T.int) μ1 else .bad
    | none => .bad
  | none => .bad
/-- each once, as first met -/
def dedI (ns : List Int) : List Int := PyProof.Rows.firstMet (fun i => ns.getD i 0) ns.length
def mLenSet (me : ME) : ME := fun ρ μ => (me ρ μ).bind fun t μ1 => match asLst μ1 t with
  | some ts => match asInts ts with
    | some ns => if Nat.ble ns.length 1000 = true then .ok (.int ((dedI ns).length : Nat)) μ1 else .bad
    | none => .bad
  | none => .bad
theorem rpL_ints {K : KW} {H : Hp} {W : Wd} : ∀ ns : List Int, RpL K H W (ns.map T.int) (ns.map V.int)
  | [] => .nil
  | n :: ns => .cons (.int n) (rpL_ints ns)
section
variable {X : Cx} {E : XK} {e o : Expr} {me mo : ME} {p p2 q pos apos : Pos}
theorem je_sortSet {fin : List T → Mu → Out T} (hf : Lays fin) (hc : X.calm = true) (hg : Gl X "sorted") (hm : X.mg "sorted" = none) (hg2 : Gl X "set") (hm2 : X.mg "set" = none) (he : JE X E e me)
    (na : starEach [e] X.env = (false, eval e X.env) :: starEach [] X.env := by rfl) (na2 : starEach [.Call (.Name "set" p2) [e] [] q] X.env = (false, eval (.Call (.Name "set" p2) [e] [] q) X.env) :: starEach [] X.env := by rfl) : JE X E (.Call (.Name "sorted" p) [.Call (.Name "set" p2) [e] [] q] [] pos) (mSortSet fin me) := by
  refine PE_imp (pe_sortSet hc hg hm hg2 hm2 he na na2) fun σ H Q ⟨W, ρ, μ, k, st, q⟩ => ⟨W, ρ, μ, k, st, Po.bind (R := Rp (kwOf X)) (R' := Rp (kwOf X)) q fun t μ1 _ H1 W1 v f1 k1 r1 q1 => ?_⟩
  split at q1
  · rename_i ts h1
    split at q1
    · rename_i ns h2
      split at q1
      · rename_i hl
        obtain ⟨a, vs, rfl, z, l⟩ := asLst_sq k1 r1 h1
        have e2 := asInts_rp h2 l
        subst e2
        refine ⟨a, ns, rfl, z, Nat.le_of_ble_eq_true hl, fun b p H2 hb hp hk hx => ?_⟩
        obtain ⟨φ, hx⟩ := hx
        have eH : H2 = upd H1 b (.ext φ) := by
          funext c
          by_cases hcb : c = b
          · rw [hcb, hx, upd_same]
          · rw [hk c hcb, upd_ne hcb]
        subst eH
        obtain ⟨f2, k2⟩ := k1.frozen (o := .ext φ) hb
        exact hf (kwOf X) E _ _ μ1 Q _ _ k2 (rpL_ints _) (Po.fr f2 q1) p hp
      · exact q1.elim
    · exact q1.elim
  · exact q1.elim
theorem pe_lenSetD {te : TE} (hc : X.calm = true) (hg : Gl X "len") (hm : X.mg "len" = none) (hg2 : Gl X "set") (hm2 : X.mg "set" = none) (ha : PE X e te)
    (na : starEach [e] X.env = (false, eval e X.env) :: starEach [] X.env := by rfl) : PE X (.Call (.Name "len" p) [.Call (.Name "set" p2) [e] [] q] [] pos) (fun σ H Q => te σ H fun x H1 => ∃ (l : Addr) (ns : List Int), x = .ref l ∧ SqL X.K H1 l (ns.map V.int) ∧ ns.length ≤ 1000 ∧ Q (.int ((dedI ns).length : Nat)) H1) := by
  refine ⟨fun pins s σ H Q I h => ?_⟩
  refine Call_ (ld_blt I hg hm boot_len ?_)
  refine PyProof.Rows.callWith_builtin1 (PyProof.Rows.args_cons ?_ rfl) rfl rfl
  refine Call_ (ld_blt I hg2 hm2 boot_set ?_)
  refine PyProof.Rows.callWith_type1 (PyProof.Rows.args_cons (thn (ha.run pins s σ H _ I h) fun v s1 ⟨x, H1, I1, r1, q1⟩ => PyProof.Rows.args_nil ?_) na) na rfl
  obtain ⟨l, ns, rfl, hq, hl, q1⟩ := q1
  cases r1
  obtain ⟨its, r, pl, hz⟩ := I1.list hq
  have hlen : its.toArray.size = ns.length := by rw [List.size_toArray, ← r.length, List.length_map]
  refine call_set_list (I1.ok.hd hc) pl.isList (by simpa using RZ.intsAre_vals r) (by rw [hlen]; unfold scanBound; omega) fun h' tk hS hk => ?_
  refine PyProof.Rows.args_nil ?_
  rw [hlen] at hS
  obtain ⟨o, es, ep, t, ho, hex, hd, _, _, _, hf, hn⟩ := hS
  have I2 : Inv X pins σ H1 { s1 with heap := h', toks := tk } := I1.kept fun b o e => hk b o (Heap.lt_size e) e
  have hle : (dedI ns).length ≤ ns.length := PyProof.Rows.firstMet_length_le _ _
  have hn2 : es.size = (dedI ns).length := hn
  exact call_len_set ho hex hd hf (by rw [hn2] <;> omega) ⟨.int (dedI ns).length, H1, I2.tok _, ⟨_, by rw [hn2]⟩, q1⟩
theorem je_lenSet (hc : X.calm = true) (hg : Gl X "len") (hm : X.mg "len" = none) (hg2 : Gl X "set") (hm2 : X.mg "set" = none) (he : JE X E e me)
    (na : starEach [e] X.env = (false, eval e X.env) :: starEach [] X.env := by rfl) : JE X E (.Call (.Name "len" p) [.Call (.Name "set" p2) [e] [] q] [] pos) (mLenSet me) := by
  refine PE_imp (pe_lenSetD hc hg hm hg2 hm2 he na) fun σ H Q ⟨W, ρ, μ, k, st, q⟩ => ⟨W, ρ, μ, k, st, Po.bind (R := Rp (kwOf X)) (R' := Rp (kwOf X)) q fun t μ1 _ H1 W1 v f1 k1 r1 q1 => ?_⟩
  split at q1
  · rename_i ts h1
    split at q1
    · rename_i ns h2
      split at q1
      · rename_i hl
        obtain ⟨a, vs, rfl, z, l⟩ := asLst_sq k1 r1 h1
        have e2 := asInts_rp h2 l
        subst e2
        exact ⟨a, ns, rfl, z, Nat.le_of_ble_eq_true hl, Po.go (R := Rp (kwOf X)) q1 Fr.refl k1 (.int _)⟩
      · exact q1.elim
    · exact q1.elim
  · exact q1.elim
/-! ### <= of ints, of texts -/
def gLeS : G2 := fun x y μ => match x, y with
  | .int i, .int j => .ok (.bl (decide (i ≤ j))) μ
  | .str a, .str b => .ok (.bl (!decide (b < a))) μ
  | _, _ => .bad
theorem oLeS : OpR X (compareOp .LtE) (rM (kwOf X) E gLeS) := by
  intro pins s σ H x y v u Q I rx ry ⟨W, μ, tx, ty, k, r1, r2, q⟩
  unfold gLeS at q
  split at q
  · cases r1; cases r2
    exact op_le pins s σ H _ _ v u Q I rx ry ⟨_, _, rfl, rfl, Po.go (R := Rp (kwOf X)) q Fr.refl k (.bl _)⟩
  · cases r1; cases r2
    refine op_le_str pins s σ H _ _ v u Q I rx ry ⟨_, _, rfl, rfl, ?_⟩
    have z := Po.go (R := Rp (kwOf X)) q Fr.refl k (.bl _)
    simpa using z
  · exact q.elim
/-! ### a.join(e) -/
def asStrs : List T → Option (List (List Nat))
  | [] => some []
  | .str x :: ts => match asStrs ts with
    | some xs => some (x :: xs)
    | none => none
  | _ => none
theorem asStrs_rp {K : KW} {H : Hp} {W : Wd} : ∀ {ts : List T} {xs : List (List Nat)} {vs : List V}, asStrs ts = some xs → RpL K H W ts vs → vs = (xs.map fun x => (⟨x.toArray⟩ : Str)).map V.str
  | [], _, _, h, r => by cases h; cases r; rfl
  | t :: ts, is, _, h, r => by
    cases t with
    | str i =>
      unfold asStrs at h
      split at h
      · rename_i js e
        cases h
        cases r with
        | cons r rl =>
          cases r
          rw [asStrs_rp e rl] <;> rfl
      · cases h
    | _ => cases h
def mJoin (mo me : ME) : ME := fun ρ μ => (mo ρ μ).bind fun x μ1 => match x with
  | .str a => (me ρ μ1).bind fun t μ2 => match asSeq μ2 t with
    | some ts => match asStrs ts with
      | some xs => if Nat.ble ((xs.map (·.length)).sum + xs.length * a.length) 100000 = true then .ok (.str (joinL a xs)) μ2 else .bad
      | none => .bad
    | none => .bad
  | _ => .bad
theorem je_join (ho : JE X E o mo) (he : JE X E e me) (hs : starEach [e] X.env = [(false, eval e X.env)] := by rfl) (hbase : attributeBase o "join" X.env (eval o X.env) = eval o X.env := by rfl) (hline : (apos.endLine == pos.line) = true := by rfl) :
    JE X E (.Call (.Attribute o "join" apos) [e] [] pos) (mJoin mo me) := by
  refine PE_imp (pe_join ho he hs hbase hline) fun σ H Q ⟨W, ρ, μ, k, st, q⟩ => ⟨W, ρ, μ, k, st, Po.bind (R := Rp (kwOf X)) (R' := Rp (kwOf X)) q fun t μ1 _ H1 W1 v f1 k1 r1 q1 => ?_⟩
  cases t with
  | str a =>
    cases r1
    refine ⟨⟨_, rfl⟩, W1, ρ, μ1, k1, st.fr f1, Po.bind (R := Rp (kwOf X)) (R' := Rp (kwOf X)) q1 fun t μ2 _ H2 W2 v f2 k2 r2 q2 => ?_⟩
    split at q2
    · rename_i ts h1
      split at q2
      · rename_i xs h2
        split at q2
        · rename_i hl
          obtain ⟨b, vs, rfl, z, l⟩ := asSeq_sq k2 r2 h1
          have e2 := asStrs_rp h2 l
          subst e2
          refine ⟨_, b, _, rfl, rfl, z, ?_, ?_⟩
          · have hl' := Nat.le_of_ble_eq_true hl
            have e1 : ((xs.map fun x => (⟨x.toArray⟩ : Str)).map (·.length)).sum = (xs.map (·.length)).sum := by
              rw [List.map_map]
              congr 1
            rw [e1, List.length_map]
            have e3 : (⟨a.toArray⟩ : Str).length = a.length := by show a.toArray.size = _; simp
            rw [e3]
            omega
          · have z := Po.go (R := Rp (kwOf X)) q2 Fr.refl k2 (.str _)
            have e4 : Txt.join (⟨a.toArray⟩ : Str) (xs.map fun x => (⟨x.toArray⟩ : Str)) = ⟨(joinL a xs).toArray⟩ := by
              have h := tl_join (⟨a.toArray⟩ : Str) (xs.map fun x => (⟨x.toArray⟩ : Str))
              rw [List.map_map] at h
              have e5 : xs.map (tl ∘ fun x => (⟨x.toArray⟩ : Str)) = xs := by
                conv => rhs; rw [← List.map_id xs]
                apply List.map_congr_left
                intro x _
                simp [tl]
              rw [e5] at h
              have e6 : tl (⟨a.toArray⟩ : Str) = a := by simp [tl]
              rw [e6] at h
              rw [join_eq]
              unfold tl at h
              rw [← h]
            rw [e4]
            exact z
        · exact q2.elim
      · exact q2.elim
    · exact q2.elim
  | _ => exact q1.elim
end
end Mr

namespace Mr
open PySem PySem.Spec PyProof.Rows L2

/-! ### the head's facts: the kit's, and of own exceptions' __init__ -/
theorem ba {a b : Bool} (h : (a && b) = true) : a = true ∧ b = true := Bool.and_eq_true_iff.mp h
def oexB (K : PySem.W.Frag) (C : Addr) : Bool := match K.lookup C with
  | some ⟨.type "type", _, .cls cd, sl⟩ => (match cd.mro, sl.toList with
    | .ref C' :: bm, [_, _, _, _, some (.builtin n), _] => C' == C && (n == "ValueError.__new__" && (!cd.hasDel && (cd.hasDict && PySem.HandSPX.refsVE bm)))
    | _, _ => false)
  | _ => false
theorem oexB_ok {K : PySem.W.Frag} {C : Addr} (q : oexB K C = true) : ∃ nm q N bs bm sn sub ab col dd k0 k1 k2 k3 k5, K.lookup C = some (excClassObj nm q C N bs bm true sn sub ab col dd k0 k1 k2 k3 k5 "ValueError.__new__") ∧ PySem.HandSPX.refsVE bm = true := by
  unfold oexB at q
  split at q
  · rename_i dd cd sl ho
    split at q
    · rename_i C' bm k0 k1 k2 k3 n k5 hm hs
      simp only [Bool.and_eq_true, beq_iff_eq, Bool.not_eq_true'] at q
      obtain ⟨rfl, rfl, hdel, hd, ht⟩ := q
      obtain ⟨nm, bs, mro, ns, qn, hd', sn, sub, ab, col, del⟩ := cd
      dsimp only at hm hdel hd
      subst hm hdel hd
      have hsl : sl = #[k0, k1, k2, k3, some (.builtin "ValueError.__new__"), k5] := by
        obtain ⟨l⟩ := sl
        simp only at hs
        rw [hs]
      subst hsl
      exact ⟨nm, qn, ns, bs, bm, sn, sub, ab, col, dd, k0, k1, k2, k3, k5, ho, ht⟩
    · cases q
  · cases q
/-- an own exception's __init__ -/
structure ExD where
  x : Str
  fs : List Str
  qual : Str
  params : Arguments
  body : List Stmt
  scope : Scope
abbrev ExV : Type := Option (Str × Str × Arguments × FuncBody × Scope × Addr × List Str × Addr)
def exV (K : PySem.W.Frag) (x : Str) : ExV := match K.lookup (He.ma K (He.ga K x) "__init__") with
  | some ⟨_, _, .func fd, _⟩ => some (fd.name, fd.qualname, fd.params, fd.body, fd.scope, fd.globals, fd.closure.map (·.1), fd.builtins)
  | _ => none
def ExD.val (d : ExD) : ExV := some ("__init__", d.qual, d.params, .stmts d.body, d.scope, mainGlobals, ["__class__"], builtinsNs)
def noneV : Value → Bool
  | .none => true
  | _ => false
theorem noneV_ok {v : Value} (h : noneV v = true) : v = .none := by cases v <;> first | rfl | cases h
def cellB (K : PySem.W.Frag) (C : Addr) : List (Str × Addr) → Bool
  | [(_, cc)] => (match K.lookup cc with
    | some ⟨_, _, .cell (some (.ref c)), _⟩ => c == C
    | _ => false)
  | _ => false
def fileB (K : PySem.W.Frag) (file : Str) : Value → Bool
  | .ref c => (match K.lookup c with
    | some ⟨_, _, .fields vs, _⟩ => (match (vs[2]? : Option Value) with
      | some (.str f _) => decide (file = f)
      | _ => false)
    | _ => false)
  | _ => false
def ExD.ok (K : PySem.W.Frag) (file : Str) (d : ExD) : Bool :=
  oexB K (He.ga K d.x) && (decide (PySem.W.findIn K (.ref (He.ga K d.x)) "__setattr__" = some (some (.builtin "object.__setattr__"))) && (decide (PySem.W.subIn K (.ref (He.ga K d.x)) (.type "BaseException") = some true) && (decide (PySem.W.typeIn K (.ref (He.ga K d.x)) = some (.type "type")) &&
  (PySem.W.keepIn K (.ref (He.ga K d.x)) && (d.fs.all (fun f => decide (PySem.W.findIn K (.ref (He.ga K d.x)) f = some none)) && (decide (PySem.W.findIn K (.ref (He.ga K d.x)) "__init__" = some (some (.ref (He.ma K (He.ga K d.x) "__init__")))) && (decide (PySem.W.typeIn K (.ref (He.ma K (He.ga K d.x) "__init__")) = some (.type "function")) &&
  (decide (PySem.W.nsIn K PySem.cStatics "thirdparty.any" = some none) && (decide (PySem.W.mroIn K (He.ga K d.x) (.ref (He.ga K d.x)) = some true) && (decide (PySem.W.ks_superIn K (He.ga K d.x) (He.ga K d.x) "__init__" = some (some (.builtin "ValueError.__init__"))) && (decide (PySem.W.subIn K (.ref (He.ga K d.x)) (.type "ValueError") = some true) &&
  (match K.lookup (He.ma K (He.ga K d.x) "__init__") with
    | some ⟨_, _, .func fd, _⟩ => PySem.W.codeIn K fd.code d.qual && (noneV fd.defaults && (fileB K file fd.code && cellB K (He.ga K d.x) fd.closure))
    | _ => false))))))))))))
theorem ExD.exs {P : Program} {K : PySem.W.Frag} {d : ExD} (hfile : P.main.file = file) (top : (P.main.scope.names.lookup ("super" : Str)).isSome = false) (hb : InitBody d.fs d.body) (hsc : InitScope d.fs d.scope) (hself : ∃ ar, (d.params.posonlyargs ++ d.params.args).head? = some ar ∧ ar.arg = "self")
    (hbind : ∀ (kV doc pm : Value) (an : Option Addr) (cda : Addr) (ct : Value) (cc : Addr) (us : List Value), us.length = d.fs.length + 1 → bindArgs (PySem.W.ksFn "__init__" d.qual d.params d.body d.scope .none kV doc pm an (.ref cda) ct cc) ⟨us, []⟩ = pure ((("self" : Str) :: d.fs).zip us))
    (nd : (("self" : Str) :: d.fs).Nodup) (few : d.fs.length ≤ 800) (ne : d.fs ≠ []) (c : d.ok K file = true) (e : exV K d.x = d.val) : ExS P K (He.ga K d.x) d.fs := by
  obtain ⟨c1, c⟩ := ba c
  obtain ⟨c2, c⟩ := ba c
  obtain ⟨c3, c⟩ := ba c
  obtain ⟨c4, c⟩ := ba c
  obtain ⟨c5, c⟩ := ba c
  obtain ⟨c6, c⟩ := ba c
  obtain ⟨c7, c⟩ := ba c
  obtain ⟨c8, c⟩ := ba c
  obtain ⟨c9, c⟩ := ba c
  obtain ⟨c10, c⟩ := ba c
  obtain ⟨c11, c⟩ := ba c
  obtain ⟨c12, c⟩ := ba c
  refine ⟨⟨oexB_ok c1, of_decide_eq_true c2, of_decide_eq_true c3, of_decide_eq_true c4, c5⟩, fun f hf => of_decide_eq_true (List.all_eq_true.mp c6 f hf), nd, few, ne, ?_, top, of_decide_eq_true c9, of_decide_eq_true c10, of_decide_eq_true c11, of_decide_eq_true c12⟩
  unfold exV at e
  cases q : K.lookup (He.ma K (He.ga K d.x) "__init__") with
  | none => rw [q] at e; cases e
  | some o =>
    obtain ⟨oc, od, dt, osl⟩ := o
    rw [q] at e c
    cases dt with
    | func fd =>
      obtain ⟨n1, n2, n3, n4, n5, n6, n7, n8, n9, n10, n11, n12, n13, n14, n15⟩ := fd
      have e2 : (some (n1, n2, n3, n4, n5, n6, n7.map (·.1), n15) : ExV) = some (("__init__" : Str), d.qual, d.params, FuncBody.stmts d.body, d.scope, mainGlobals, [("__class__" : Str)], builtinsNs) := e
      simp only [Option.some.injEq, Prod.mk.injEq] at e2
      obtain ⟨h1, h2, h3, h4, h5, h6, h7, h8⟩ := e2
      subst h1 h2 h3 h4 h5 h6 h8
      have c' : (PySem.W.codeIn K n13 d.qual && (noneV n8 && (fileB K file n13 && cellB K (He.ga K d.x) n7))) = true := c
      obtain ⟨k1, k⟩ := ba c'
      obtain ⟨k2, k⟩ := ba k
      obtain ⟨k3, k4⟩ := ba k
      have k2 := noneV_ok k2
      subst k2
      obtain ⟨cda, rfl⟩ := He.codeIn_ref k1
      have hfl : ∃ (ocl : Value) (ocd : Option Addr) (vs : Array Value) (ocs : Array (Option Value)) (f : Str) (tf : Tok), K.lookup cda = some ⟨ocl, ocd, .fields vs, ocs⟩ ∧ vs[2]? = some (.str f tf) ∧ ((P.main.file : Str) == f) = true := by
        unfold fileB at k3
        dsimp only at k3
        split at k3
        · rename_i ocl ocd vs ocs hl
          split at k3
          · rename_i f tf hv
            have := of_decide_eq_true k3
            exact ⟨_, _, _, _, f, tf, hl, hv, by rw [hfile, this]; exact beq_self_eq_true _⟩
          · cases k3
        · cases k3
      cases n7 with
      | nil => cases h7
      | cons p l =>
        cases l with
        | cons p' l' =>
          have z := congrArg List.length h7
          simp at z
        | nil =>
          obtain ⟨nm, cc⟩ := p
          have h7 : nm = ("__class__" : Str) := (List.cons.inj h7).1
          subst h7
          have hcell : ∃ (l : Value) (ld : Option Addr) (ls : Array (Option Value)), K.lookup cc = some ⟨l, ld, .cell (some (.ref (He.ga K d.x))), ls⟩ := by
            have k4 : (match K.lookup cc with
              | some ⟨_, _, .cell (some (.ref c)), _⟩ => c == He.ga K d.x
              | _ => false) = true := k4
            split at k4
            · rename_i a1 a2 c0 a3 hl
              have hc := eq_of_beq k4
              rw [hc] at hl
              exact ⟨_, _, _, hl⟩
            · cases k4
          exact ⟨_, cc, cda, oc, od, osl, d.qual, d.params, d.body, d.scope, n9, n10, n11, n12, n14, of_decide_eq_true c7, of_decide_eq_true c8, q, k1, hfl, hcell, hb, hsc, hself, fun us hl => hbind _ _ _ _ _ _ _ us hl⟩
    | _ => cases c
/-! ### the Hook -/
theorem saysX_ofA {as : List Addr} {fa : List He.Fa} {fn : List He.DefD} {ts : List He.Tab} {tf : List He.Defn} {ex : PySem.W.Frag → Bool} {w : World} {h : Heap} (e : (He.obsT fa fn ts (He.frT h.get? as), ex (He.frT h.get? as) && He.tabsB h.get? tf (He.frT h.get? as)) = He.valX fn ts w) : He.SaysX fa fn ts tf ex w h (He.frT h.get? as) := by
  have e1 : He.obsT fa fn ts (He.frT h.get? as) = He.valT fn ts w := congrArg (fun z : He.AlX => z.1) e
  have e2 : (ex (He.frT h.get? as) && He.tabsB h.get? tf (He.frT h.get? as)) = true := congrArg (fun z : He.AlX => z.2) e
  obtain ⟨h1, h2⟩ := ba e2
  have key : ∀ p ∈ tf, PySem.W.codeHdIn (He.frT h.get? as) (He.cT (He.frT h.get? as) p).1 (He.cT (He.frT h.get? as) p).2 = true ∧ ∃ o, h.get? (He.cT (He.frT h.get? as) p).2 = some o ∧ He.emptyTab o = true := fun p hp => by
    obtain ⟨h3, h4⟩ := ba (List.all_eq_true.mp h2 p hp)
    refine ⟨h3, ?_⟩
    cases q : h.get? (He.cT (He.frT h.get? as) p).2 with
    | none => rw [q] at h4; cases h4
    | some o => rw [q] at h4; exact ⟨o, rfl, h4⟩
  exact ⟨e1, h1, fun p hp => (key p hp).1, fun p hp => by
    obtain ⟨_, o, q, z⟩ := key p hp
    exact He.frT_none q z, fun p hp => by
    obtain ⟨_, o, q, z⟩ := key p hp
    rw [q, He.emptyTab_eq z]⟩
abbrev AlM : Type := He.AlX × List ExV
/-- what is looked at: what the module's names reach, the statics -/
def asM (g : Addr → Option Obj) (n : Nat) : List Addr := PySem.cStatics :: He.asD g n
def obsM (n : Nat) (fa : List He.Fa) (fn : List He.DefD) (ts : List He.Tab) (tf : List He.Defn) (ex : PySem.W.Frag → Bool) (xs : List ExD) (g : Addr → Option Obj) : AlM :=
  ((He.obsT fa fn ts (He.frT g (asM g n)), ex (He.frT g (asM g n)) && He.tabsB g tf (He.frT g (asM g n))), xs.map fun d => exV (He.frT g (asM g n)) d.x)
def valM (fn : List He.DefD) (ts : List He.Tab) (xs : List ExD) (w : World) : AlM := (He.valX fn ts w, xs.map ExD.val)
def SaysM (fa : List He.Fa) (fn : List He.DefD) (ts : List He.Tab) (tf : List He.Defn) (ex : PySem.W.Frag → Bool) (xs : List ExD) (w : World) (h : Heap) (K : PySem.W.Frag) : Prop := He.SaysX fa fn ts tf ex w h K ∧ xs.map (fun d => exV K d.x) = xs.map ExD.val
def hookM (n : Nat) (fa : List He.Fa) (fn : List He.DefD) (ts : List He.Tab) (tf : List He.Defn) (ex : PySem.W.Frag → Bool) (xs : List ExD) : PySem.W.Hook where
  α := AlM
  obs := fun s => obsM n fa fn ts tf ex xs s.heap.get?
  val := fun w => valM fn ts xs w
  says := fun w h => ∃ K : PySem.W.Frag, K.In h ∧ SaysM fa fn ts tf ex xs w h K
  of := fun _ _ e => ⟨_, He.frT_in, saysX_ofA (congrArg (fun z : AlM => z.1) e), congrArg (fun z : AlM => z.2) e⟩
  keeps := fun _ _ _ ⟨K, hK, c⟩ k => ⟨K, PySem.W.Frag.In.keeps hK k, ⟨c.1.t, c.1.more, c.1.hd, c.1.out, fun p hp => k _ _ (c.1.empty p hp)⟩, c.2⟩
theorem obsM_eq {n : Nat} {fa : List He.Fa} {fn : List He.DefD} {ts : List He.Tab} {tf : List He.Defn} {ex : PySem.W.Frag → Bool} {xs : List ExD} {g : Addr → Option Obj} {s : Shared} (h : ∀ a, g a = s.heap.get? a) : obsM n fa fn ts tf ex xs g = (hookM n fa fn ts tf ex xs).obs s := by
  have e : g = s.heap.get? := funext h
  rw [e] <;> rfl
theorem SaysM.exv {fa : List He.Fa} {fn : List He.DefD} {ts : List He.Tab} {tf : List He.Defn} {ex : PySem.W.Frag → Bool} {xs : List ExD} {w : World} {h : Heap} {K : PySem.W.Frag} (c : SaysM fa fn ts tf ex xs w h K) (i : Nat) {d : ExD} (hi : xs[i]? = some d := by rfl) : exV K d.x = d.val := by
  have e2 : (xs.map fun d => exV K d.x)[i]? = (xs.map ExD.val)[i]? := by rw [c.2]
  rw [List.getElem?_map, List.getElem?_map, hi] at e2
  exact Option.some.inj e2
/-! ### more facts, by Bools -/
def efB (K : PySem.W.Frag) (es : List Nat) (f : Nat) : Bool := es.all fun c => L2.xfB K (He.ga K (nmS c)) && decide (PySem.W.findIn K (.ref (He.ga K (nmS c))) (nmS f) = some none)
theorem efB_ok {K : PySem.W.Frag} {es : List Nat} {f : Nat} (h : efB K es f = true) : EfOk K es f := fun c hc => by
  obtain ⟨h1, h2⟩ := ba (List.all_eq_true.mp h c hc)
  exact ⟨L2.xfB_ok h1, of_decide_eq_true h2⟩
def clB (K : PySem.W.Frag) (C : Addr) : Bool := PySem.W.plainGet K C Str.empty && (PySem.W.hasDictIn K C && (PySem.W.plainOver K C && decide (PySem.W.findIn K (.ref C) "__setattr__" = some (some (.builtin "object.__setattr__")))))
theorem clB_ok {K : PySem.W.Frag} {C : Addr} (c : clB K C = true) : Cls K C := by
  obtain ⟨c1, c⟩ := ba c
  obtain ⟨c2, c⟩ := ba c
  obtain ⟨c3, c4⟩ := ba c
  exact ⟨c1, c2, c3, of_decide_eq_true c4⟩
def fldB (K : PySem.W.Frag) (cs : List Nat) (f : Nat) : Bool := cs.all fun c => clB K (He.ga K (nmS c)) && decide (PySem.W.findIn K (.ref (He.ga K (nmS c))) (nmS f) = some none)
theorem fldB_ok {K : PySem.W.Frag} {cs : List Nat} {f : Nat} (h : fldB K cs f = true) : FldOk K cs f := fun c hc => by
  obtain ⟨h1, h2⟩ := ba (List.all_eq_true.mp h c hc)
  exact ⟨clB_ok h1, show PySem.W.findIn K (.ref (He.ga K (nmS c))) (nmS f) = some none from of_decide_eq_true h2⟩
def kindB (K : PySem.W.Frag) (C : Addr) : Bool := decide (PySem.W.findIn K (.ref C) "__class__" = some (some (.builtin "object.__class__"))) && (decide (PySem.W.specialIn K (.builtin "object.__class__") "__get__" = some (some (.builtin "getset_descriptor.__get__"))) && (decide (PySem.W.takesIn K (.builtin "object.__class__") = some true) && decide (PySem.W.mroIn K C (.type "object") = some true)))
theorem kindB_ok {K : PySem.W.Frag} {C : Addr} (c : kindB K C = true) : PySem.W.findIn K (.ref C) "__class__" = some (some (.builtin "object.__class__")) ∧ PySem.W.specialIn K (.builtin "object.__class__") "__get__" = some (some (.builtin "getset_descriptor.__get__")) ∧ PySem.W.takesIn K (.builtin "object.__class__") = some true ∧ PySem.W.mroIn K C (.type "object") = some true := by
  obtain ⟨c1, c⟩ := ba c
  obtain ⟨c2, c⟩ := ba c
  obtain ⟨c3, c4⟩ := ba c
  exact ⟨of_decide_eq_true c1, of_decide_eq_true c2, of_decide_eq_true c3, of_decide_eq_true c4⟩
def iscB (K : PySem.W.Frag) (cs : IsC) : Bool := (cs.cs.all fun c => clB K (He.ga K (nmS c)) && kindB K (He.ga K (nmS c))) && cs.es.all fun c => L2.xfB K (He.ga K (nmS c)) && kindB K (He.ga K (nmS c))
theorem iscB_ok {K : PySem.W.Frag} {cs : IsC} (h : iscB K cs = true) : IsCok K cs := by
  obtain ⟨h1, h2⟩ := ba h
  refine ⟨fun c hc => ?_, fun c hc => ?_⟩
  · obtain ⟨k1, k2⟩ := ba (List.all_eq_true.mp h1 c hc)
    obtain ⟨a, b, d, e⟩ := kindB_ok k2
    exact ⟨clB_ok k1, a, b, d, e⟩
  · obtain ⟨k1, k2⟩ := ba (List.all_eq_true.mp h2 c hc)
    obtain ⟨a, b, d, e⟩ := kindB_ok k2
    obtain ⟨x1, x2, x3, x4⟩ := L2.xfB_ok k1
    exact ⟨x1, x2, x3, x4, a, b, d, e⟩
def istB (K : PySem.W.Frag) (tb : IsTb) : Bool := tb.all fun p => decide (PySem.W.kitOne K (tv K p.1) (tv K p.2.1) = some p.2.2)
theorem istB_ok {K : PySem.W.Frag} {tb : IsTb} (h : istB K tb = true) : IsOk K tb := fun p hp => of_decide_eq_true (List.all_eq_true.mp h p hp)
def methB (K : PySem.W.Frag) (c m : Nat) (o : Str) : Bool := clB K (He.ga K (nmS c)) && (decide (PySem.W.findIn K (.ref (He.ga K (nmS c))) (nmS m) = some (some (.ref (He.ma K (He.ga K o) (nmS m))))) && (PySem.W.isFn K (.ref (He.ma K (He.ga K o) (nmS m))) && PySem.W.keepIn K (.ref (He.ma K (He.ga K o) (nmS m)))))
/-- the class c has the method m of the class named o -/
theorem methB_ok {K : PySem.W.Frag} {c m : Nat} {o : Str} (h : methB K c m o = true) : Cls K (He.ga K (nmS c)) ∧ Meth K (He.ga K (nmS c)) (nmS m) (He.ma K (He.ga K o) (nmS m)) := by
  obtain ⟨c1, c⟩ := ba h
  obtain ⟨c2, c⟩ := ba c
  obtain ⟨c3, c4⟩ := ba c
  exact ⟨clB_ok c1, of_decide_eq_true c2, c3, c4⟩
/-- the class c is made, its __init__ that of the class named o -/
def mkB (K : PySem.W.Frag) (c : Nat) (o : Str) : Bool := PySem.W.makesIn K (He.ga K (nmS c)) && (decide (PySem.W.findIn K (.ref (He.ga K (nmS c))) "__init__" = some (some (.ref (He.ma K (He.ga K o) "__init__")))) && (PySem.W.isFn K (.ref (He.ma K (He.ga K o) "__init__")) && PySem.W.keepIn K (.ref (He.ga K (nmS c)))))
theorem mkB_ok {K : PySem.W.Frag} {c : Nat} {o : Str} (h : mkB K c o = true) : Mk K (He.ga K (nmS c)) (He.ma K (He.ga K o) "__init__") := by
  obtain ⟨c1, c⟩ := ba h
  obtain ⟨c2, c⟩ := ba c
  obtain ⟨c3, c4⟩ := ba c
  exact ⟨c1, of_decide_eq_true c2, c3, c4⟩
def eqpB (K : PySem.W.Frag) (ps : List (Nat × Nat)) : Bool := ps.all fun p => PySem.W.notFirst K (He.ga K (nmS p.1)) (.ref (He.ga K (nmS p.2)))
theorem eqpB_ok {K : PySem.W.Frag} {ps : List (Nat × Nat)} (h : eqpB K ps = true) : EqP K ps := fun p hp => List.all_eq_true.mp h p hp
def slotB (K : PySem.W.Frag) (C : Addr) (x : Str) : Bool := match K.lookup C with
  | some o => (match (o.slots[2]? : Option (Option Value)) with
    | some (some (.str y _)) => decide (y = x)
    | _ => false)
  | none => false
def fcB (K : PySem.W.Frag) (C : Addr) : Bool := match PySem.W.findCls K (.ref C) (.type "type") "__name__" with
  | some (.get (.builtin g) (.builtin n) (.ref C') (.type t)) => decide (g = "getset_descriptor.__get__") && (decide (n = "type.__name__") && (decide (C' = C) && decide (t = "type")))
  | _ => false
def nmcB (K : PySem.W.Frag) (cs : List Nat) : Bool := cs.all fun c => clB K (He.ga K (nmS c)) && (kindB K (He.ga K (nmS c)) && (decide (PySem.W.nsIn K PySem.cStatics "thirdparty.any" = some none) && (decide (PySem.W.typeIn K (.ref (He.ga K (nmS c))) = some (.type "type")) && (fcB K (He.ga K (nmS c)) && slotB K (He.ga K (nmS c)) (nmS c)))))
theorem nmcB_ok {K : PySem.W.Frag} {cs : List Nat} (h : nmcB K cs = true) : ∀ c ∈ cs, Cls K (He.ga K (nmS c)) ∧ NmC K (He.ga K (nmS c)) (nmS c) := fun c hc => by
  obtain ⟨h1, h⟩ := ba (List.all_eq_true.mp h c hc)
  obtain ⟨h2, h⟩ := ba h
  obtain ⟨h3, h⟩ := ba h
  obtain ⟨h4, h⟩ := ba h
  obtain ⟨h5, h6⟩ := ba h
  obtain ⟨a, b, d, e⟩ := kindB_ok h2
  refine ⟨clB_ok h1, of_decide_eq_true h3, of_decide_eq_true h4, a, b, d, e, ?_, ?_⟩
  · unfold fcB at h5
    split at h5
    · rename_i g n C' t q
      obtain ⟨z1, z⟩ := ba h5
      obtain ⟨z2, z⟩ := ba z
      obtain ⟨z3, z4⟩ := ba z
      rw [q, of_decide_eq_true z1, of_decide_eq_true z2, of_decide_eq_true z3, of_decide_eq_true z4]
    · cases h5
  · unfold slotB at h6
    split at h6
    · rename_i o q
      split at h6
      · rename_i y t hs
        have := of_decide_eq_true h6
        subst this
        exact ⟨o, t, q, hs⟩
      · cases h6
    · cases h6
/-- a tuple of the module, its items -/
theorem tupB_at {K : PySem.W.Frag} {x : Str} {vs : List He.Dv} (h : He.tupB K x vs = true) : ∃ (o : Obj) (its : Array Value) (n : Nat), K.lookup (He.ga K x) = some o ∧ o.cls = .type "tuple" ∧ o.data = .seq its n ∧ its.size ≤ sizeLine ∧ Vals (vs.map (He.Dv.v K)) its.toList := by
  unfold He.tupB at h
  cases q : K.lookup (He.ga K x) with
  | none => rw [q] at h; cases h
  | some o =>
    obtain ⟨oc, od, dt, osl⟩ := o
    rw [q] at h
    cases oc with
    | type c =>
      cases dt with
      | seq its n =>
        obtain ⟨h1, h2⟩ := ba (show (decide (c = "tuple") && (decide (its.size ≤ sizeLine) && He.relAll (vs.map (He.Dv.v K)) its.toList)) = true from h)
        obtain ⟨h3, h4⟩ := ba h2
        exact ⟨_, its, n, rfl, congrArg Value.type (of_decide_eq_true h1), rfl, of_decide_eq_true h3, He.relAll_ok h4⟩
      | _ => cases h
    | _ => cases dt <;> cases h
end Mr

namespace Mr
open PySem PySem.Spec PyProof.Rows L2

/-! ### a def of the module without defaults, called by its name -/
structure Cal (P : Program) (w : World) (K : PySem.W.Frag) (mg : Str → Option Value) (base : Heap) (k : Nat) (nm : Str) (st : Stmt) (ps : List Str) (g : GL) : Prop where
  glo : mg nm = some (.ref (He.fAd K (nm, none)))
  D : DefK P w K mg base k (nm, none) nm nm st [] ps g
  b : Bnd P w K mg base k (He.fAd K (nm, none)) ps.length [] g
theorem Cal.of {P : Program} {w : World} {K : PySem.W.Frag} {mg : Str → Option Value} {base : Heap} {k : Nat} {nm : Str} {st : Stmt} {ps : List Str} {g : GL} (glo : mg nm = some (.ref (He.fAd K (nm, none)))) (D : DefK P w K mg base k (nm, none) nm nm st [] ps g) (hb : BindF nm nm st ps) : Cal P w K mg base k nm st ps g := ⟨glo, D, bnd0 D hb⟩
section
variable {X : Cx} {E : XK} {k : Nat} {st : Stmt} {ps : List Str} {g : GL} {x : Str} {p pos : Pos} {e : Expr} {es : List Expr} {ma : MA}
theorem je_cal (tk : TkE X E) (hG : X.A.guards = some []) (hr : Room k X.A) (hg : Gl X x) (C : Cal X.prog X.w X.K X.mg X.base k x st ps g) (ha : JA X E (e :: es) ma) (hdb : (x == ("__debug__" : Str)) = false := by decide)
    (he : starEach (e :: es) X.env = (false, eval e X.env) :: starEach es X.env := by rfl) (hpl : (backTo pos (starEach es X.env)).any (·.1) = false := by rfl) : JE X E (.Call (.Name x p) (e :: es) [] pos) (mCall g [] ma) := je_callD tk hG hr hg C.glo C.b ha hdb he hpl
theorem je_cal0 (tk : TkE X E) (hG : X.A.guards = some []) (hr : Room k X.A) (hg : Gl X x) (C : Cal X.prog X.w X.K X.mg X.base k x st ps g) (hdb : (x == ("__debug__" : Str)) = false := by decide) : JE X E (.Call (.Name x p) [] [] pos) (mCall g [] mNil) := je_callD0 tk hG hr hg C.glo C.b hdb
theorem je_calK {n : Nat} {ks : List Str} {ix : List Nat} {kws : List Keyword} {mk : MA} (tk : TkE X E) (hG : X.A.guards = some []) (hr : Room k X.A) (hg : Gl X x) (C : Cal X.prog X.w X.K X.mg X.base k x st ps g) (hb : BindKF x x st ps n ks ix) (ha : JA X E (e :: es) ma) (hkw : JK X E kws mk)
    (hall : (backToKw pos (keywordEach kws X.env)).all (·.1.isSome) = true := by rfl) (hks : (backToKw pos (keywordEach kws X.env)).filterMap (·.1) = ks := by rfl) (hdb : (x == ("__debug__" : Str)) = false := by decide)
    (he : starEach (e :: es) X.env = (false, eval e X.env) :: starEach es X.env := by rfl) (hpl : ((backTo pos (starEach (e :: es) X.env)).any (·.1) || (backToKw pos (keywordEach kws X.env)).any (·.1.isNone)) = false := by rfl) :
    JE X E (.Call (.Name x p) (e :: es) kws pos) (mCallK n ks.length ix g ma mk) := je_callDK tk hG hr hg C.glo C.D hb ha hkw hall hks hdb he hpl
theorem je_calK0 {ks : List Str} {ix : List Nat} {kws : List Keyword} {mk : MA} (tk : TkE X E) (hG : X.A.guards = some []) (hr : Room k X.A) (hg : Gl X x) (C : Cal X.prog X.w X.K X.mg X.base k x st ps g) (hb : BindKF x x st ps 0 ks ix) (hkw : JK X E kws mk)
    (hall : (backToKw pos (keywordEach kws X.env)).all (·.1.isSome) = true := by rfl) (hks : (backToKw pos (keywordEach kws X.env)).filterMap (·.1) = ks := by rfl) (hdb : (x == ("__debug__" : Str)) = false := by decide)
    (hpl : ((backTo pos (starEach [] X.env)).any (·.1) || (backToKw pos (keywordEach kws X.env)).any (·.1.isNone)) = false := by rfl) :
    JE X E (.Call (.Name x p) [] kws pos) (mCallK 0 ks.length ix g mNil mk) := je_callDK0 tk hG hr hg C.glo C.D hb hkw hall hks hdb hpl
end
/-- a method by its class -/
theorem Cnd.of {P : Program} {w : World} {K : PySem.W.Frag} {mg : Str → Option Value} {base : Heap} {k m : Nat} {c : Nat} {o : Str} {nm qual : Str} {st : Stmt} {ps : List Str} {g : GL} (h : Cls K (He.ga K (nmS c)) ∧ Meth K (He.ga K (nmS c)) (nmS m) (He.ma K (He.ga K o) (nmS m))) (D : DefK P w K mg base k (o, some (nmS m)) nm qual st [] ps g) (hb : BindF nm qual st ps) : Cnd P w K mg base k m ps.length (c, g, []) :=
  ⟨h.1, _, h.2, bnd0 D hb⟩
theorem Cnd.mono {P : Program} {w : World} {K : PySem.W.Frag} {mg : Str → Option Value} {base : Heap} {k k' m n : Nat} {p : Nat × GL × List T} (hk : k ≤ k') (c : Cnd P w K mg base k m n p) : Cnd P w K mg base k' m n p := by
  obtain ⟨f, h1, ⟨fd, ps, dvs, ds, F, rest⟩⟩ := c.ex
  exact ⟨c.cl, f, h1, ⟨fd, ps, dvs, ds, ⟨F.len, fun A outer s H args us vs Q E hG hr => F.run A outer s H args us vs Q E hG (hr.mono hk)⟩, rest⟩⟩
theorem cnds_nil {P : Program} {w : World} {K : PySem.W.Frag} {mg : Str → Option Value} {base : Heap} {k m n : Nat} : ∀ p ∈ ([] : List (Nat × GL × List T)), Cnd P w K mg base k m n p := fun _ h => nomatch h
theorem cnds_cons {P : Program} {w : World} {K : PySem.W.Frag} {mg : Str → Option Value} {base : Heap} {k m n : Nat} {p : Nat × GL × List T} {l : List (Nat × GL × List T)} (h : Cnd P w K mg base k m n p) (r : ∀ q ∈ l, Cnd P w K mg base k m n q) : ∀ q ∈ p :: l, Cnd P w K mg base k m n q := fun q hq => by
  rcases List.mem_cons.mp hq with e | e
  · rw [e]; exact h
  · exact r q e
/-- a statement of a class's body -/
def subSt (st : Stmt) (j : Nat) : Stmt := match st with
  | .ClassDef (body := b) .. => b.getD j (.Pass ⟨0, 0, 0, 0⟩)
  | _ => .Pass ⟨0, 0, 0, 0⟩

theorem boot_ValueError : bootBuiltins "ValueError" = some (.type "ValueError") := by kernel_rfl
instance : Kp2 gLeS := ⟨fun x y μ => by unfold gLeS; (repeat (first | exact Lk.refl | exact True.intro | split))⟩
instance {neg : Bool} : Kp2 (gIn neg) := ⟨fun x y μ => by unfold gIn; (repeat (first | exact Lk.refl | exact True.intro | split))⟩
instance {cs : List Nat} : KpL (gClsN cs) := ⟨fun x μ => by unfold gClsN; (repeat (first | exact Lk.refl | exact True.intro | split))⟩
instance {c : Nat} {ns : List Nat} : KpL (gExv c ns) := ⟨fun x μ => by unfold gExv; (repeat (first | exact Lk.refl | exact True.intro | split))⟩
instance {c : List Nat} {f : Nat} : KpL (gFlE c f) := ⟨fun x μ => by unfold gFlE; (repeat (first | exact Lk.refl | exact True.intro | split))⟩
instance : KpL gRepr := ⟨fun x μ => by unfold gRepr; (repeat (first | exact Lk.refl | exact True.intro | split))⟩
instance {tab : List (Nat × GL × List T)} [ht : KpTab tab] : KpL (gBool tab) := ⟨fun ts μ => by
  unfold gBool
  split
  · exact Lk.refl
  · exact Lk.refl
  · split
    · split
      · rename_i g hg
        refine ((ht.kp _ (fndC_mem hg)).kp _ _).bind fun r μ1 _ => ?_
        split
        · exact Lk.refl
        · exact True.intro
      · exact True.intro
    · exact True.intro
  · exact True.intro⟩
instance {tab : List (Nat × GL × List T)} {ps : List (Nat × Nat)} [ht : KpTab tab] : Kp2 (gEqO tab ps) := ⟨fun x y μ => by
  unfold gEqO
  split
  · split
    · split
      · split
        · rename_i g hg
          exact (ht.kp _ (fndC_mem hg)).kp _ _
        · exact True.intro
      · exact True.intro
    · exact True.intro
  · exact Kp2.kp _ _ _⟩
instance {fin : List T → Mu → Out T} {me : ME} [hf : KpL fin] [he : KpR me] : KpR (mSortSet fin me) := ⟨fun ρ μ => (he.kp ρ μ).bind fun t μ1 _ => by
  (repeat (first | exact hf.kp _ _ | exact Lk.refl | exact True.intro | split))⟩
instance {me : ME} [he : KpR me] : KpR (mLenSet me) := ⟨fun ρ μ => (he.kp ρ μ).bind fun t μ1 _ => by
  (repeat (first | exact Lk.refl | exact True.intro | split))⟩
instance {mo me : ME} [ho : KpR mo] [he : KpR me] : KpR (mJoin mo me) := ⟨fun ρ μ => (ho.kp ρ μ).bind fun x μ1 _ => by
  cases x with
  | str a =>
    exact (he.kp ρ μ1).bind fun t μ2 _ => by (repeat (first | exact Lk.refl | exact True.intro | split))
  | _ => exact True.intro⟩
end Mr

namespace Mr
open PySem PySem.Spec PyProof.Rows L2
def top (i : Nat) : Stmt := PySem.Challenge.pw_anydepth_k00_errors_papers_checks.main.body.getD i (.Pass ⟨0, 0, 0, 0⟩)
theorem cgl {K : PySem.W.Frag} {mg : Str → Option Value} {n : Nat} {x : Str} (h : nmS n = x) (c : mg (nmS n) = some (.ref (He.ga K (nmS n)))) : mg x = some (.ref (He.ga K x)) := by
  rw [← h]
  exact c
theorem cgl2 {K : PySem.W.Frag} {mg : Str → Option Value} {n : Nat} {x : Str} (h : nmS n = x) (c : mg (nmS n) = some (.ref (He.ga K (nmS n)))) : mg x = some (.ref (He.ga K x)) := cgl h c
def pfile : Str := PySem.Challenge.pw_anydepth_k00_errors_papers_checks.main.file
def xns0 : List Nat := [1953653104]
def xns1 : List Nat := [1953653104]
def xns2 : List Nat := [517097156201]
def xns3 : List Nat := [1702260589]
def xns4 : List Nat := [125780121316961]
def xns5 : List Nat := [1685221239]
def xns6 : List Nat := [1701667182]
def xns7 : List Nat := [1953653104]
def xns8 : List Nat := [1685221239]
def xns9 : List Nat := [1701734764, 1685221239]
def xns10 : List Nat := [1952540791, 1953722221]
def xns11 : List Nat := [7957695015192261990, 461229747298, 7827314]
def efs0 : List Nat := [7310868735422914882, 2110234346299031052610, 127996039227725]
def efs1 : List Nat := [133507968132003860404527426]
def efs2 : List Nat := [28559193059647810]
def efs3 : List Nat := [2110240263840328868162]
def efs4 : List Nat := [28273320204198210, 32783473901330754, 29113321604280142]
def efs5 : List Nat := [111520458370894]
def efs6 : List Nat := [32783473901330754]
def efs7 : List Nat := [34179836372021076]
def efs8 : List Nat := [131320007385410]
def efs9 : List Nat := [34179836372021076]
def efs10 : List Nat := [131320007385410]
def efs11 : List Nat := [131320007385410]
def isc0 : IsC := ⟨[491328135504, 119165636470084], [7310868735422914882, 2110234346299031052610, 133507968132003860404527426, 131320007385410, 28559193059647810, 2110240263840328868162, 28273320204198210, 32783473901330754, 111520458370894, 127996039227725, 29113321604280142, 34179836372021076]⟩
def ist0 : IsTb := [(491328135520, 491328135520, true), (491328135520, 540405614369503915828564, false), (491328135520, 7310868735422914898, false), (491328135520, 2110234346299031052626, false), (491328135520, 133507968132003860404527442, false), (491328135520, 131320007385426, false), (491328135520, 28559193059647826, false), (491328135520, 2110240263840328868178, false), (491328135520, 28273320204198226, false), (491328135520, 32783473901330770, false), (491328135520, 111520458370910, false), (491328135520, 127996039227741, false), (491328135520, 29113321604280158, false), (491328135520, 34179836372021092, false), (491328135520, 1, false), (491328135520, 2, false), (491328135520, 3, false), (491328135520, 4, false), (491328135520, 5, false), (491328135520, 8, false), (119165636470100, 491328135520, true), (119165636470100, 540405614369503915828564, false), (119165636470100, 7310868735422914898, false), (119165636470100, 2110234346299031052626, false), (119165636470100, 133507968132003860404527442, false), (119165636470100, 131320007385426, false), (119165636470100, 28559193059647826, false), (119165636470100, 2110240263840328868178, false), (119165636470100, 28273320204198226, false), (119165636470100, 32783473901330770, false), (119165636470100, 111520458370910, false), (119165636470100, 127996039227741, false), (119165636470100, 29113321604280158, false), (119165636470100, 34179836372021092, false), (119165636470100, 1, false), (119165636470100, 2, false), (119165636470100, 3, false), (119165636470100, 4, false), (119165636470100, 5, false), (119165636470100, 8, false), (7310868735422914898, 491328135520, false), (7310868735422914898, 540405614369503915828564, true), (7310868735422914898, 7310868735422914898, true), (7310868735422914898, 2110234346299031052626, false), (7310868735422914898, 133507968132003860404527442, false), (7310868735422914898, 131320007385426, false), (7310868735422914898, 28559193059647826, false), (7310868735422914898, 2110240263840328868178, false), (7310868735422914898, 28273320204198226, false), (7310868735422914898, 32783473901330770, false), (7310868735422914898, 111520458370910, false), (7310868735422914898, 127996039227741, false), (7310868735422914898, 29113321604280158, false), (7310868735422914898, 34179836372021092, false), (7310868735422914898, 1, false), (7310868735422914898, 2, false), (7310868735422914898, 3, false), (7310868735422914898, 4, false), (7310868735422914898, 5, false), (7310868735422914898, 8, true), (2110234346299031052626, 491328135520, false), (2110234346299031052626, 540405614369503915828564, true), (2110234346299031052626, 7310868735422914898, false), (2110234346299031052626, 2110234346299031052626, true), (2110234346299031052626, 133507968132003860404527442, false), (2110234346299031052626, 131320007385426, false), (2110234346299031052626, 28559193059647826, false), (2110234346299031052626, 2110240263840328868178, false), (2110234346299031052626, 28273320204198226, false), (2110234346299031052626, 32783473901330770, false), (2110234346299031052626, 111520458370910, false), (2110234346299031052626, 127996039227741, false), (2110234346299031052626, 29113321604280158, false), (2110234346299031052626, 34179836372021092, false), (2110234346299031052626, 1, false), (2110234346299031052626, 2, false), (2110234346299031052626, 3, false), (2110234346299031052626, 4, false), (2110234346299031052626, 5, false), (2110234346299031052626, 8, true), (133507968132003860404527442, 491328135520, false), (133507968132003860404527442, 540405614369503915828564, true), (133507968132003860404527442, 7310868735422914898, false), (133507968132003860404527442, 2110234346299031052626, false), (133507968132003860404527442, 133507968132003860404527442, true), (133507968132003860404527442, 131320007385426, false), (133507968132003860404527442, 28559193059647826, false), (133507968132003860404527442, 2110240263840328868178, false), (133507968132003860404527442, 28273320204198226, false), (133507968132003860404527442, 32783473901330770, false), (133507968132003860404527442, 111520458370910, false), (133507968132003860404527442, 127996039227741, false), (133507968132003860404527442, 29113321604280158, false), (133507968132003860404527442, 34179836372021092, false), (133507968132003860404527442, 1, false), (133507968132003860404527442, 2, false), (133507968132003860404527442, 3, false), (133507968132003860404527442, 4, false), (133507968132003860404527442, 5, false), (133507968132003860404527442, 8, true), (131320007385426, 491328135520, false), (131320007385426, 540405614369503915828564, true), (131320007385426, 7310868735422914898, false), (131320007385426, 2110234346299031052626, false), (131320007385426, 133507968132003860404527442, false), (131320007385426, 131320007385426, true), (131320007385426, 28559193059647826, false), (131320007385426, 2110240263840328868178, false), (131320007385426, 28273320204198226, false), (131320007385426, 32783473901330770, false), (131320007385426, 111520458370910, false), (131320007385426, 127996039227741, false), (131320007385426, 29113321604280158, false), (131320007385426, 34179836372021092, false), (131320007385426, 1, false), (131320007385426, 2, false), (131320007385426, 3, false), (131320007385426, 4, false), (131320007385426, 5, false), (131320007385426, 8, true), (28559193059647826, 491328135520, false), (28559193059647826, 540405614369503915828564, true), (28559193059647826, 7310868735422914898, false), (28559193059647826, 2110234346299031052626, false), (28559193059647826, 133507968132003860404527442, false), (28559193059647826, 131320007385426, false), (28559193059647826, 28559193059647826, true), (28559193059647826, 2110240263840328868178, false), (28559193059647826, 28273320204198226, false), (28559193059647826, 32783473901330770, false), (28559193059647826, 111520458370910, false), (28559193059647826, 127996039227741, false), (28559193059647826, 29113321604280158, false), (28559193059647826, 34179836372021092, false), (28559193059647826, 1, false), (28559193059647826, 2, false), (28559193059647826, 3, false), (28559193059647826, 4, false), (28559193059647826, 5, false), (28559193059647826, 8, true), (2110240263840328868178, 491328135520, false), (2110240263840328868178, 540405614369503915828564, true), (2110240263840328868178, 7310868735422914898, false), (2110240263840328868178, 2110234346299031052626, false), (2110240263840328868178, 133507968132003860404527442, false), (2110240263840328868178, 131320007385426, false), (2110240263840328868178, 28559193059647826, false), (2110240263840328868178, 2110240263840328868178, true), (2110240263840328868178, 28273320204198226, false), (2110240263840328868178, 32783473901330770, false), (2110240263840328868178, 111520458370910, false), (2110240263840328868178, 127996039227741, false), (2110240263840328868178, 29113321604280158, false), (2110240263840328868178, 34179836372021092, false), (2110240263840328868178, 1, false), (2110240263840328868178, 2, false), (2110240263840328868178, 3, false), (2110240263840328868178, 4, false), (2110240263840328868178, 5, false), (2110240263840328868178, 8, true), (28273320204198226, 491328135520, false), (28273320204198226, 540405614369503915828564, true), (28273320204198226, 7310868735422914898, false), (28273320204198226, 2110234346299031052626, false), (28273320204198226, 133507968132003860404527442, false), (28273320204198226, 131320007385426, false), (28273320204198226, 28559193059647826, false), (28273320204198226, 2110240263840328868178, false), (28273320204198226, 28273320204198226, true), (28273320204198226, 32783473901330770, false), (28273320204198226, 111520458370910, false), (28273320204198226, 127996039227741, false), (28273320204198226, 29113321604280158, false), (28273320204198226, 34179836372021092, false), (28273320204198226, 1, false), (28273320204198226, 2, false), (28273320204198226, 3, false), (28273320204198226, 4, false), (28273320204198226, 5, false), (28273320204198226, 8, true), (32783473901330770, 491328135520, false), (32783473901330770, 540405614369503915828564, true), (32783473901330770, 7310868735422914898, false), (32783473901330770, 2110234346299031052626, false), (32783473901330770, 133507968132003860404527442, false), (32783473901330770, 131320007385426, false), (32783473901330770, 28559193059647826, false), (32783473901330770, 2110240263840328868178, false), (32783473901330770, 28273320204198226, false), (32783473901330770, 32783473901330770, true), (32783473901330770, 111520458370910, false), (32783473901330770, 127996039227741, false), (32783473901330770, 29113321604280158, false), (32783473901330770, 34179836372021092, false), (32783473901330770, 1, false), (32783473901330770, 2, false), (32783473901330770, 3, false), (32783473901330770, 4, false), (32783473901330770, 5, false), (32783473901330770, 8, true), (111520458370910, 491328135520, false), (111520458370910, 540405614369503915828564, true), (111520458370910, 7310868735422914898, false), (111520458370910, 2110234346299031052626, false), (111520458370910, 133507968132003860404527442, false), (111520458370910, 131320007385426, false), (111520458370910, 28559193059647826, false), (111520458370910, 2110240263840328868178, false), (111520458370910, 28273320204198226, false), (111520458370910, 32783473901330770, false), (111520458370910, 111520458370910, true), (111520458370910, 127996039227741, false), (111520458370910, 29113321604280158, false), (111520458370910, 34179836372021092, false), (111520458370910, 1, false), (111520458370910, 2, false), (111520458370910, 3, false), (111520458370910, 4, false), (111520458370910, 5, false), (111520458370910, 8, true), (127996039227741, 491328135520, false), (127996039227741, 540405614369503915828564, true), (127996039227741, 7310868735422914898, false), (127996039227741, 2110234346299031052626, false), (127996039227741, 133507968132003860404527442, false), (127996039227741, 131320007385426, false), (127996039227741, 28559193059647826, false), (127996039227741, 2110240263840328868178, false), (127996039227741, 28273320204198226, false), (127996039227741, 32783473901330770, false), (127996039227741, 111520458370910, false), (127996039227741, 127996039227741, true), (127996039227741, 29113321604280158, false), (127996039227741, 34179836372021092, false), (127996039227741, 1, false), (127996039227741, 2, false), (127996039227741, 3, false), (127996039227741, 4, false), (127996039227741, 5, false), (127996039227741, 8, true), (29113321604280158, 491328135520, false), (29113321604280158, 540405614369503915828564, true), (29113321604280158, 7310868735422914898, false), (29113321604280158, 2110234346299031052626, false), (29113321604280158, 133507968132003860404527442, false), (29113321604280158, 131320007385426, false), (29113321604280158, 28559193059647826, false), (29113321604280158, 2110240263840328868178, false), (29113321604280158, 28273320204198226, false), (29113321604280158, 32783473901330770, false), (29113321604280158, 111520458370910, false), (29113321604280158, 127996039227741, false), (29113321604280158, 29113321604280158, true), (29113321604280158, 34179836372021092, false), (29113321604280158, 1, false), (29113321604280158, 2, false), (29113321604280158, 3, false), (29113321604280158, 4, false), (29113321604280158, 5, false), (29113321604280158, 8, true), (34179836372021092, 491328135520, false), (34179836372021092, 540405614369503915828564, true), (34179836372021092, 7310868735422914898, false), (34179836372021092, 2110234346299031052626, false), (34179836372021092, 133507968132003860404527442, false), (34179836372021092, 131320007385426, false), (34179836372021092, 28559193059647826, false), (34179836372021092, 2110240263840328868178, false), (34179836372021092, 28273320204198226, false), (34179836372021092, 32783473901330770, false), (34179836372021092, 111520458370910, false), (34179836372021092, 127996039227741, false), (34179836372021092, 29113321604280158, false), (34179836372021092, 34179836372021092, true), (34179836372021092, 1, false), (34179836372021092, 2, false), (34179836372021092, 3, false), (34179836372021092, 4, false), (34179836372021092, 5, false), (34179836372021092, 8, true), (0, 491328135520, false), (0, 540405614369503915828564, false), (0, 7310868735422914898, false), (0, 2110234346299031052626, false), (0, 133507968132003860404527442, false), (0, 131320007385426, false), (0, 28559193059647826, false), (0, 2110240263840328868178, false), (0, 28273320204198226, false), (0, 32783473901330770, false), (0, 111520458370910, false), (0, 127996039227741, false), (0, 29113321604280158, false), (0, 34179836372021092, false), (0, 8, false), (1, 491328135520, false), (1, 540405614369503915828564, false), (1, 7310868735422914898, false), (1, 2110234346299031052626, false), (1, 133507968132003860404527442, false), (1, 131320007385426, false), (1, 28559193059647826, false), (1, 2110240263840328868178, false), (1, 28273320204198226, false), (1, 32783473901330770, false), (1, 111520458370910, false), (1, 127996039227741, false), (1, 29113321604280158, false), (1, 34179836372021092, false), (1, 8, false), (2, 491328135520, false), (2, 540405614369503915828564, false), (2, 7310868735422914898, false), (2, 2110234346299031052626, false), (2, 133507968132003860404527442, false), (2, 131320007385426, false), (2, 28559193059647826, false), (2, 2110240263840328868178, false), (2, 28273320204198226, false), (2, 32783473901330770, false), (2, 111520458370910, false), (2, 127996039227741, false), (2, 29113321604280158, false), (2, 34179836372021092, false), (2, 8, false), (3, 491328135520, false), (3, 540405614369503915828564, false), (3, 7310868735422914898, false), (3, 2110234346299031052626, false), (3, 133507968132003860404527442, false), (3, 131320007385426, false), (3, 28559193059647826, false), (3, 2110240263840328868178, false), (3, 28273320204198226, false), (3, 32783473901330770, false), (3, 111520458370910, false), (3, 127996039227741, false), (3, 29113321604280158, false), (3, 34179836372021092, false), (3, 8, false), (4, 491328135520, false), (4, 540405614369503915828564, false), (4, 7310868735422914898, false), (4, 2110234346299031052626, false), (4, 133507968132003860404527442, false), (4, 131320007385426, false), (4, 28559193059647826, false), (4, 2110240263840328868178, false), (4, 28273320204198226, false), (4, 32783473901330770, false), (4, 111520458370910, false), (4, 127996039227741, false), (4, 29113321604280158, false), (4, 34179836372021092, false), (4, 8, false), (5, 491328135520, false), (5, 540405614369503915828564, false), (5, 7310868735422914898, false), (5, 2110234346299031052626, false), (5, 133507968132003860404527442, false), (5, 131320007385426, false), (5, 28559193059647826, false), (5, 2110240263840328868178, false), (5, 28273320204198226, false), (5, 32783473901330770, false), (5, 111520458370910, false), (5, 127996039227741, false), (5, 29113321604280158, false), (5, 34179836372021092, false), (5, 8, false), (6, 491328135520, false), (6, 540405614369503915828564, false), (6, 7310868735422914898, false), (6, 2110234346299031052626, false), (6, 133507968132003860404527442, false), (6, 131320007385426, false), (6, 28559193059647826, false), (6, 2110240263840328868178, false), (6, 28273320204198226, false), (6, 32783473901330770, false), (6, 111520458370910, false), (6, 127996039227741, false), (6, 29113321604280158, false), (6, 34179836372021092, false), (6, 8, false)]
def ocs0 : List Nat := [491328135504, 119165636470084]
def ocs1 : List Nat := [491328135504, 119165636470084]
def ncs0 : List Nat := [491328135504, 119165636470084]
def eqp0 : List (Nat × Nat) := [(491328135504, 491328135504), (119165636470084, 491328135504), (119165636470084, 119165636470084)]
/-- what the head gives -/
structure Fx (P : Program) (w : World) (K : PySem.W.Frag) (mg : Str → Option Value) : Prop where
  f_list : mg "list" = none
  f_range : mg "range" = none
  f_int : mg "int" = none
  f_len : mg "len" = none
  f_abs : mg "abs" = none
  f_tuple : mg "tuple" = none
  f_super : mg "super" = none
  ex_BadValue : ExN P K 7310868735422914882 xns0
  cg_BadValue : mg (nmS 7310868735422914882) = some (.ref (He.ga K (nmS 7310868735422914882)))
  ex_BadNumber : ExN P K 2110234346299031052610 xns1
  cg_BadNumber : mg (nmS 2110234346299031052610) = some (.ref (He.ga K (nmS 2110234346299031052610)))
  ex_BadFunction : ExN P K 133507968132003860404527426 xns2
  cg_BadFunction : mg (nmS 133507968132003860404527426) = some (.ref (He.ga K (nmS 133507968132003860404527426)))
  ex_BadMove : ExN P K 28559193059647810 xns3
  cg_BadMove : mg (nmS 28559193059647810) = some (.ref (He.ga K (nmS 28559193059647810)))
  ex_BadAnswer : ExN P K 2110240263840328868162 xns4
  cg_BadAnswer : mg (nmS 2110240263840328868162) = some (.ref (He.ga K (nmS 2110240263840328868162)))
  ex_BadWord : ExN P K 28273320204198210 xns5
  cg_BadWord : mg (nmS 28273320204198210) = some (.ref (He.ga K (nmS 28273320204198210)))
  ex_NoName : ExN P K 111520458370894 xns6
  cg_NoName : mg (nmS 111520458370894) = some (.ref (He.ga K (nmS 111520458370894)))
  ex_Misfit : ExN P K 127996039227725 xns7
  cg_Misfit : mg (nmS 127996039227725) = some (.ref (He.ga K (nmS 127996039227725)))
  ex_Nothing : ExN P K 29113321604280142 xns8
  cg_Nothing : mg (nmS 29113321604280142) = some (.ref (He.ga K (nmS 29113321604280142)))
  ex_BadText : ExN P K 32783473901330754 xns9
  cg_BadText : mg (nmS 32783473901330754) = some (.ref (He.ga K (nmS 32783473901330754)))
  ex_TooMany : ExN P K 34179836372021076 xns10
  cg_TooMany : mg (nmS 34179836372021076) = some (.ref (He.ga K (nmS 34179836372021076)))
  ex_BadRow : ExN P K 131320007385410 xns11
  cg_BadRow : mg (nmS 131320007385410) = some (.ref (He.ga K (nmS 131320007385410)))
  ef_part : EfOk K efs0 1953653104
  ef_index : EfOk K efs1 517097156201
  ef_move : EfOk K efs2 1702260589
  ef_answer : EfOk K efs3 125780121316961
  ef_word : EfOk K efs4 1685221239
  ef_name : EfOk K efs5 1701667182
  ef_line : EfOk K efs6 1701734764
  ef_what : EfOk K efs7 1952540791
  ef_function : EfOk K efs8 7957695015192261990
  ef_most : EfOk K efs9 1953722221
  ef_block : EfOk K efs10 461229747298
  ef_row : EfOk K efs11 7827314
  f_repr : mg "repr" = none
  f_enumerate : mg "enumerate" = none
  isc : IsCok K isc0
  ist : IsOk K ist0
  f_isinstance : mg "isinstance" = none
  f_ValueError : mg "ValueError" = none
  cg_DepthError : mg (nmS 540405614369503915828548) = some (.ref (He.ga K (nmS 540405614369503915828548)))
  f_zip : mg "zip" = none
  f_all : mg "all" = none
  me_Denial___bool__ : Cls K (He.ga K (nmS 119165636470084)) ∧ Meth K (He.ga K (nmS 119165636470084)) (nmS 6872330782256553823) (He.ma K (He.ga K (nmS 119165636470084)) (nmS 6872330782256553823))
  me_Paper___bool__ : Cls K (He.ga K (nmS 491328135504)) ∧ Meth K (He.ga K (nmS 491328135504)) (nmS 6872330782256553823) (He.ma K (He.ga K (nmS 491328135504)) (nmS 6872330782256553823))
  f_bool : mg "bool" = none
  fl_word : FldOk K ocs0 1685221239
  fl_parts : FldOk K ocs1 495874892144
  mk_Paper : Mk K (He.ga K (nmS 491328135504)) (He.ma K (He.ga K (nmS 491328135504)) (nmS 6872339552563453791))
  cg_Paper : mg (nmS 491328135504) = some (.ref (He.ga K (nmS 491328135504)))
  mk_Denial : Mk K (He.ga K (nmS 119165636470084)) (He.ma K (He.ga K (nmS 491328135504)) (nmS 6872339552563453791))
  cg_Denial : mg (nmS 119165636470084) = some (.ref (He.ga K (nmS 119165636470084)))
  nmc : ∀ c ∈ ncs0, Cls K (He.ga K (nmS c)) ∧ NmC K (He.ga K (nmS c)) (nmS c)
  me_Denial___eq__ : Cls K (He.ga K (nmS 119165636470084)) ∧ Meth K (He.ga K (nmS 119165636470084)) (nmS 104863529000799) (He.ma K (He.ga K (nmS 491328135504)) (nmS 104863529000799))
  me_Paper___eq__ : Cls K (He.ga K (nmS 491328135504)) ∧ Meth K (He.ga K (nmS 491328135504)) (nmS 104863529000799) (He.ma K (He.ga K (nmS 491328135504)) (nmS 104863529000799))
  eqp : EqP K eqp0
  k_LETTERS : ∃ t, mg "LETTERS" = some (.str "abcdefghijklmnopqrstuvwxyz" t)
  k_MOST_NAME : ∃ t, mg "MOST_NAME" = some (.int 8 t)
  f_str : mg "str" = none
  k_RESERVED : mg "RESERVED" = some (.ref (He.ga K "RESERVED")) ∧ ∃ (o : Obj) (its : Array Value) (n : Nat), K.lookup (He.ga K "RESERVED") = some o ∧ o.cls = .type "tuple" ∧ o.data = .seq its n ∧ its.size ≤ sizeLine ∧ Vals [V.str "load", V.str "store", V.str "call", V.str "give", V.str "go", V.str "in", V.str "ask"] its.toList
  f_set : mg "set" = none
  f_sorted : mg "sorted" = none
section
variable {P : Program} {w : World} {K : PySem.W.Frag} {mg : Str → Option Value} {base : Heap}
/-! _law_pen -/
def m__law_pen : MS := (mRet (mCl gLstM (mCons (mCl (gLstOf fzT) (mCons (mSl fzT (mVar 0) mPN (mPS (mC (.int 63)))) mNil)) (mCons (mC (.int 0)) (mCons (mC (.int 0)) mNil)))))
set_option synthInstance.maxHeartbeats 400000 in
set_option synthInstance.maxSize 4000 in
instance i__law_pen : KpR (m__law_pen) := by unfold m__law_pen; infer_instance
def g__law_pen : GL := arO 1 (fnK 1 m__law_pen)
instance : KpL g__law_pen := by unfold g__law_pen; infer_instance
theorem S__law_pen : FnScope ["script"] ["script"] (defScope (top 33)) := ⟨rfl, rfl, rfl, by decide +kernel, rfl, by decide +kernel, by decide +kernel⟩
theorem t__law_pen (F : Fx P w K mg) : BodyD P w K mg base ["script"] 0 ("_law_pen", none) "_law_pen" (top 33) m__law_pen := by
  intro cdv A outer s H E hG hr hcv tk
  have S := S__law_pen
  exact (jss_one (js_ret (je_lstM (ja_cons (je_callT (cLst lays_fz) rfl F.f_list boot_list (ja_cons (je_slice lays_fz (je_var 0 (pv 0)) jo_none (jo_some je_int)) ja_nil)) (ja_cons je_int (ja_cons je_int ja_nil))))))
theorem C__law_pen (F : Fx P w K mg) (hg : mg "_law_pen" = some (.ref (He.fAd K ("_law_pen", none)))) (hf : ∃ fd, FunD K "_law_pen" "_law_pen" (defArgs (top 33)) (defBody (top 33)) (defScope (top 33)) [] [] (He.fAd K ("_law_pen", none)) fd) : Cal P w K mg base 1 "_law_pen" (top 33) ["script"] g__law_pen :=
  Cal.of hg (defK hf S__law_pen 1 rfl (t__law_pen F)) (fun _ _ _ _ _ _ us hl => match us, hl with | [_], _ => rfl)
/-! _law_draw -/
def m__law_draw : MS := (mSeq (mIfS (mTst (mOp gLt (mVar 1) (mC (.int 2))))
  (mRet (mC (.int 0)))
  mNext)
  (mSeq (mIfS (mTst (mOp gGt (mOp gIx (mVar 0) (mC (.int 2))) (mC (.int 0))))
  (mSeq (mSet 2 (mOp gMod (mCl gInt (mCons (mOp gIx (mVar 0) (mC (.int 2))) mNil)) (mVar 1)))
  (mSeq (mAsg (mOp gDiv (mCl gInt (mCons (mOp gIx (mVar 0) (mC (.int 2))) mNil)) (mVar 1)) (gSt (mVar 0) (mC (.int 2))))
  (mRet (mVar 2))))
  mNext)
  (mSeq (mSet 3 (mOp gIx (mVar 0) (mC (.int 1))))
  (mSeq (mAsg (mOp (gAdd fzT) (mVar 3) (mC (.int 1))) (gSt (mVar 0) (mC (.int 1))))
  (mSeq (mSet 4 (mOp (gAdd fzT) (mOp (gMul fzT) (mC (.int 71011)) (mVar 3)) (mC (.int 9001))))
  (mSeq (mIfS (mTst (mOp gNe (mOp gIx (mVar 0) (mC (.int 0))) (mCl gLst mNil)))
  (mSet 4 (mOp gIx (mOp gIx (mVar 0) (mC (.int 0))) (mOp gMod (mCl gInt (mCons (mVar 3) mNil)) (mCl gLen (mCons (mOp gIx (mVar 0) (mC (.int 0))) mNil)))))
  mNext)
  (mSeq (mIfS (mAnd (mTst (mOp gLt (mVar 3) (mCl gLen (mCons (mOp gIx (mVar 0) (mC (.int 0))) mNil)))) (mTst (mOp gGe (mCl gAbs (mCons (mVar 4) mNil)) (mOp gPow (mC (.int 10)) (mC (.int 18))))))
  (mSeq (mSet 5 (mOp (gAdd fzT) (mOp (gMul fzT) (mC (.int 2)) (mOp gSub (mCl gAbs (mCons (mVar 4) mNil)) (mOp gPow (mC (.int 10)) (mC (.int 18))))) (mCl gInt (mCons (mOp gLt (mVar 4) (mC (.int 0))) mNil))))
  (mSeq (mAsg (mOp gDiv (mCl gInt (mCons (mVar 5) mNil)) (mVar 1)) (gSt (mVar 0) (mC (.int 2))))
  (mRet (mOp gMod (mCl gInt (mCons (mVar 5) mNil)) (mVar 1)))))
  mNext)
  (mSeq (mSet 6 (mOp gMod (mCl gInt (mCons (mOp gPow (mOp (gAdd fzT) (mOp (gAdd fzT) (mOp gMod (mCl gInt (mCons (mVar 4) mNil)) (mC (.int 2147483549))) (mOp (gMul fzT) (mC (.int 33013)) (mVar 3))) (mC (.int 9001))) (mC (.int 3))) mNil)) (mC (.int 2147483629))))
  (mSeq (mSet 6 (mOp gMod (mCl gInt (mCons (mOp gPow (mOp (gAdd fzT) (mOp (gAdd fzT) (mOp (gMul fzT) (mVar 6) (mOp (gAdd fzT) (mOp (gMul fzT) (mC (.int 2)) (mVar 3)) (mC (.int 6101)))) (mOp (gMul fzT) (mOp (gMul fzT) (mC (.int 71011)) (mVar 3)) (mVar 3))) (mC (.int 33013))) (mC (.int 5))) mNil)) (mC (.int 2147483563))))
  (mRet (mOp gMod (mCl gInt (mCons (mOp gDiv (mVar 6) (mC (.int 16))) mNil)) (mVar 1))))))))))))
set_option synthInstance.maxHeartbeats 400000 in
set_option synthInstance.maxSize 4000 in
instance i__law_draw : KpR (m__law_draw) := by unfold m__law_draw; infer_instance
def g__law_draw : GL := arO 2 (fnK 7 m__law_draw)
instance : KpL g__law_draw := by unfold g__law_draw; infer_instance
theorem S__law_draw : FnScope ["pen", "many", "digit", "at", "cell", "great", "mixed"] ["pen", "many"] (defScope (top 34)) := ⟨rfl, rfl, rfl, by decide +kernel, rfl, by decide +kernel, by decide +kernel⟩
theorem t__law_draw (F : Fx P w K mg) : BodyD P w K mg base ["pen", "many", "digit", "at", "cell", "great", "mixed"] 0 ("_law_draw", none) "_law_draw" (top 34) m__law_draw := by
  intro cdv A outer s H E hG hr hcv tk
  have S := S__law_draw
  exact (jss_cons (js_if (jt_cmp oLt (je_var 1 (pv 1)) je_int (nomark _))
  (jss_one (js_ret je_int))
  jss_nil)
  (jss_cons (js_if (jt_cmp oGt (je_ix (je_var 0 (pv 0)) je_int) je_int (nomark _))
  (jss_cons (js_set S.nd rfl (by first | exact .inl rfl | exact .inr rfl) (je_op oMod (je_callT cInt rfl F.f_int boot_int (ja_cons (je_ix (je_var 0 (pv 0)) je_int) ja_nil)) (je_var 1 (pv 1))))
  (jss_cons (js_asg (vs := []) (je_op oDiv (je_callT cInt rfl F.f_int boot_int (ja_cons (je_ix (je_var 0 (pv 0)) je_int) ja_nil)) (je_var 1 (pv 1))) (jg_sub (je_var 0 (pv 0)) je_int))
  (jss_one (js_ret (je_var 2 (pv 2))))))
  jss_nil)
  (jss_cons (js_set S.nd rfl (by first | exact .inl rfl | exact .inr rfl) (je_ix (je_var 0 (pv 0)) je_int))
  (jss_cons (js_asg (vs := []) (je_op (oAdd lays_fz) (je_var 3 (pv 3)) je_int) (jg_sub (je_var 0 (pv 0)) je_int))
  (jss_cons (js_set S.nd rfl (by first | exact .inl rfl | exact .inr rfl) (je_op (oAdd lays_fz) (je_op (oMul lays_fz) je_int (je_var 3 (pv 3))) je_int))
  (jss_cons (js_if (jt_cmp (oNe (unitsOf64 hr)) (je_ix (je_var 0 (pv 0)) je_int) (je_lst ja_nil) (nomark _))
  (jss_one (js_set S.nd rfl (by first | exact .inl rfl | exact .inr rfl) (je_ix (je_ix (je_var 0 (pv 0)) je_int) (je_op oMod (je_callT cInt rfl F.f_int boot_int (ja_cons (je_var 3 (pv 3)) ja_nil)) (je_callB cLen rfl F.f_len boot_len (ja_cons (je_ix (je_var 0 (pv 0)) je_int) ja_nil))))))
  jss_nil)
  (jss_cons (js_if (jt_w (jw_and (jt_cmp oLt (je_var 3 (pv 3)) (je_callB cLen rfl F.f_len boot_len (ja_cons (je_ix (je_var 0 (pv 0)) je_int) ja_nil)) (nomark _)) (jw_and1 (jt_cmp oGe (je_callB cAbs rfl F.f_abs boot_abs (ja_cons (je_var 4 (pv 4)) ja_nil)) (je_op oPow je_int je_int) (nomark _)))))
  (jss_cons (js_set S.nd rfl (by first | exact .inl rfl | exact .inr rfl) (je_op (oAdd lays_fz) (je_op (oMul lays_fz) je_int (je_op oSub (je_callB cAbs rfl F.f_abs boot_abs (ja_cons (je_var 4 (pv 4)) ja_nil)) (je_op oPow je_int je_int))) (je_callT cInt rfl F.f_int boot_int (ja_cons (je_cmp oLt (je_var 4 (pv 4)) je_int (nomark _)) ja_nil))))
  (jss_cons (js_asg (vs := []) (je_op oDiv (je_callT cInt rfl F.f_int boot_int (ja_cons (je_var 5 (pv 5)) ja_nil)) (je_var 1 (pv 1))) (jg_sub (je_var 0 (pv 0)) je_int))
  (jss_one (js_ret (je_op oMod (je_callT cInt rfl F.f_int boot_int (ja_cons (je_var 5 (pv 5)) ja_nil)) (je_var 1 (pv 1)))))))
  jss_nil)
  (jss_cons (js_set S.nd rfl (by first | exact .inl rfl | exact .inr rfl) (je_op oMod (je_callT cInt rfl F.f_int boot_int (ja_cons (je_op oPow (je_op (oAdd lays_fz) (je_op (oAdd lays_fz) (je_op oMod (je_callT cInt rfl F.f_int boot_int (ja_cons (je_var 4 (pv 4)) ja_nil)) je_int) (je_op (oMul lays_fz) je_int (je_var 3 (pv 3)))) je_int) je_int) ja_nil)) je_int))
  (jss_cons (js_set S.nd rfl (by first | exact .inl rfl | exact .inr rfl) (je_op oMod (je_callT cInt rfl F.f_int boot_int (ja_cons (je_op oPow (je_op (oAdd lays_fz) (je_op (oAdd lays_fz) (je_op (oMul lays_fz) (je_var 6 (pv 6)) (je_op (oAdd lays_fz) (je_op (oMul lays_fz) je_int (je_var 3 (pv 3))) je_int)) (je_op (oMul lays_fz) (je_op (oMul lays_fz) je_int (je_var 3 (pv 3))) (je_var 3 (pv 3)))) je_int) je_int) ja_nil)) je_int))
  (jss_one (js_ret (je_op oMod (je_callT cInt rfl F.f_int boot_int (ja_cons (je_op oDiv (je_var 6 (pv 6)) je_int) ja_nil)) (je_var 1 (pv 1))))))))))))))
theorem C__law_draw (F : Fx P w K mg) (hg : mg "_law_draw" = some (.ref (He.fAd K ("_law_draw", none)))) (hf : ∃ fd, FunD K "_law_draw" "_law_draw" (defArgs (top 34)) (defBody (top 34)) (defScope (top 34)) [] [] (He.fAd K ("_law_draw", none)) fd) : Cal P w K mg base 1 "_law_draw" (top 34) ["pen", "many"] g__law_draw :=
  Cal.of hg (defK hf S__law_draw 7 rfl (t__law_draw F)) (fun _ _ _ _ _ _ us hl => match us, hl with | [_, _], _ => rfl)
/-! _law_thing -/
def m__law_thing (r : GL) : MS := (mSeq (mSet 2 (mCall g__law_draw [] (mCons (mVar 0) (mCons (mC (.int 12)) mNil))))
  (mSeq (mIfS (mOr (mTst (mOp gEq (mVar 1) (mC (.int 0)))) (mTst (mOp gLt (mVar 2) (mC (.int 8)))))
  (mRet (mOp gIx (mCl gLst (mCons (mC .non) (mCons (mC (.bl true)) (mCons (mC (.bl false)) (mCons (mC (.int 0)) (mCons (mC (.int 1)) (mCons (mUn gNeg (mC (.int 7))) (mCons (mC (.str [97])) (mCons (mOp gPow (mC (.int 10)) (mC (.int 30))) mNil))))))))) (mOp gMod (mVar 2) (mC (.int 8)))))
  mNext)
  (mSeq (mSet 3 (mFin fzT (mLc [4] (mIt (mCons (mCall g__law_draw [] (mCons (mVar 0) (mCons (mC (.int 4)) mNil))) mNil) itR1) (gNm 4) mYes (mCall r [] (mCons (mVar 0) (mCons (mOp gSub (mVar 1) (mC (.int 1))) mNil))))))
  (mRet (mIf (mTst (mOp gLt (mVar 2) (mC (.int 10)))) (mVar 3) (mCl gTupOf (mCons (mVar 3) mNil)))))))
set_option synthInstance.maxHeartbeats 400000 in
set_option synthInstance.maxSize 4000 in
instance i__law_thing {r : GL} [KpL r] : KpR (m__law_thing r) := by unfold m__law_thing; infer_instance
def g__law_thing : Nat → GL
  | 0 => fun _ _ => .bad
  | j + 1 => arO 2 (fnK 5 (m__law_thing (g__law_thing j)))
instance ig__law_thing : ∀ j, KpL (g__law_thing j)
  | 0 => ⟨fun _ _ => True.intro⟩
  | j + 1 => by
    have := ig__law_thing j
    exact inferInstanceAs (KpL (arO 2 (fnK 5 (m__law_thing (g__law_thing j)))))
theorem S__law_thing : FnScope ["pen", "deep", "way", "some", "turn"] ["pen", "deep"] (defScope (top 37)) := ⟨rfl, rfl, rfl, by decide +kernel, rfl, by decide +kernel, by decide +kernel⟩
theorem t__law_thing (F : Fx P w K mg) (C__law_draw : Cal P w K mg base 1 "_law_draw" (top 34) ["pen", "many"] g__law_draw) {j : Nat} (C__law_thing : Cal P w K mg base (1 + j) "_law_thing" (top 37) ["pen", "deep"] (g__law_thing j)) : BodyD P w K mg base ["pen", "deep", "way", "some", "turn"] (1 + j) ("_law_thing", none) "_law_thing" (top 37) (m__law_thing (g__law_thing j)) := by
  intro cdv A outer s H E hG hr hcv tk
  have S := S__law_thing
  exact (jss_cons (js_set S.nd rfl (by first | exact .inl rfl | exact .inr rfl) (je_cal tk hG (hr.mono (by omega)) rfl C__law_draw (ja_cons (je_var 0 (pv 0)) (ja_cons je_int ja_nil))))
  (jss_cons (js_if (jt_w (jw_or (jt_cmp (oEq (unitsOf64 hr)) (je_var 1 (pv 1)) je_int (nomark _)) (jw_or1 (jt_cmp oLt (je_var 2 (pv 2)) je_int (nomark _)))))
  (jss_one (js_ret (je_ix (je_lst (ja_cons je_non (ja_cons je_bl (ja_cons je_bl (ja_cons je_int (ja_cons je_int (ja_cons (je_un uNeg je_int) (ja_cons (je_str [97]) (ja_cons (je_op oPow je_int je_int) ja_nil))))))))) (je_op oMod (je_var 2 (pv 2)) je_int))))
  jss_nil)
  (jss_cons (js_setLc keeps_fz rfl S.nd rfl rfl (sw_true rfl rfl rfl rfl) (ji_range1 rfl F.f_range (ja_cons (je_cal tk hG (hr.mono (by omega)) rfl C__law_draw (ja_cons (je_var 0 (pv 0)) (ja_cons je_int ja_nil))) ja_nil)) (blkOk_by (own := [("turn", 4)]) (by kernel_rfl)) rfl (fun s H C cl fp => (jg_name 4 (pg_name S.nd rfl (by first | exact .inl rfl | exact .inr rfl)) (by decide))) (fun s H C cl fp => jts_nil) (fun s H C cl fp => (je_cal tkN hG (hr.mono (by omega)) rfl C__law_thing (ja_cons (je_var 0 (pv 0)) (ja_cons (je_op oSub (je_var 1 (pv 1)) je_int) ja_nil)))))
  (jss_one (js_ret (je_if (jt_cmp oLt (je_var 2 (pv 2)) je_int (nomark _)) (je_var 3 (pv 3)) (je_callT cTup rfl F.f_tuple boot_tuple (ja_cons (je_var 3 (pv 3)) ja_nil))))))))
theorem C__law_thing (F : Fx P w K mg) (hg : mg "_law_thing" = some (.ref (He.fAd K ("_law_thing", none)))) (hf : ∃ fd, FunD K "_law_thing" "_law_thing" (defArgs (top 37)) (defBody (top 37)) (defScope (top 37)) [] [] (He.fAd K ("_law_thing", none)) fd) (C__law_draw : Cal P w K mg base 1 "_law_draw" (top 34) ["pen", "many"] g__law_draw) : ∀ j, Cal P w K mg base (1 + j) "_law_thing" (top 37) ["pen", "deep"] (g__law_thing j)
  | 0 => Cal.of hg (def0 hf _) (fun _ _ _ _ _ _ us hl => match us, hl with | [_, _], _ => rfl)
  | j + 1 => Cal.of hg (defK (mb := m__law_thing (g__law_thing j)) hf S__law_thing 5 rfl (t__law_thing F C__law_draw (C__law_thing F hg hf C__law_draw j))) (fun _ _ _ _ _ _ us hl => match us, hl with | [_, _], _ => rfl)
/-! _law_fixed -/
def m__law_fixed (r : GL) : MS := (mRet (mIf (mTru (mCl (gIsi isc0 ist0) (mCons (mVar 0) (mCons (mCl gTup (mCons (mC (.ty 4)) (mCons (mC (.ty 5)) mNil))) mNil)))) (mCl gTupOf (mCons (mFin fzT (mLc [1] (mItS2 (mVar 0)) (gNm 1) mYes (mCall r [] (mCons (mVar 1) mNil)))) mNil)) (mVar 0)))
set_option synthInstance.maxHeartbeats 400000 in
set_option synthInstance.maxSize 4000 in
instance i__law_fixed {r : GL} [KpL r] : KpR (m__law_fixed r) := by unfold m__law_fixed; infer_instance
def g__law_fixed : Nat → GL
  | 0 => fun _ _ => .bad
  | j + 1 => arO 1 (fnP 2 (m__law_fixed (g__law_fixed j)))
instance ig__law_fixed : ∀ j, KpL (g__law_fixed j)
  | 0 => ⟨fun _ _ => True.intro⟩
  | j + 1 => by
    have := ig__law_fixed j
    exact inferInstanceAs (KpL (arO 1 (fnP 2 (m__law_fixed (g__law_fixed j)))))
theorem S__law_fixed : FnScope ["value", "one"] ["value"] (defScope (top 38)) := ⟨rfl, rfl, rfl, by decide +kernel, rfl, by decide +kernel, by decide +kernel⟩
theorem t__law_fixed (F : Fx P w K mg) {j : Nat} (C__law_fixed : Cal P w K mg base (0 + j) "_law_fixed" (top 38) ["value"] (g__law_fixed j)) : BodyD P w K mg base ["value", "one"] (0 + j) ("_law_fixed", none) "_law_fixed" (top 38) (m__law_fixed (g__law_fixed j)) := by
  intro cdv A outer s H E hG hr hcv tk
  have S := S__law_fixed
  exact (jss_one (js_ret (je_if (jt_tru (je_callB (cIsi F.isc F.ist) rfl F.f_isinstance boot_isinstance (ja_cons (je_var 0 (pv 0)) (ja_cons (je_tup (ja_cons (je_ty (n := 4) rfl rfl F.f_list boot_list) (ja_cons (je_ty (n := 5) rfl rfl F.f_tuple boot_tuple) ja_nil))) ja_nil)))) (je_callT cTup rfl F.f_tuple boot_tuple (ja_cons (je_lc keeps_fz rfl S.nd (ji_seq2 (je_var 0 (pv 0))) (blkOk_by (own := [("one", 1)]) (by kernel_rfl)) rfl (fun s H C cl fp => (jg_name 1 (pg_name S.nd rfl (by first | exact .inl rfl | exact .inr rfl)) (by decide))) (fun s H C cl fp => jts_nil) (fun s H C cl fp => (je_cal tkN hG (hr.mono (by omega)) rfl C__law_fixed (ja_cons (je_var 1 (pv 1)) ja_nil)))) ja_nil)) (je_var 0 (pv 0)))))
theorem C__law_fixed (F : Fx P w K mg) (hg : mg "_law_fixed" = some (.ref (He.fAd K ("_law_fixed", none)))) (hf : ∃ fd, FunD K "_law_fixed" "_law_fixed" (defArgs (top 38)) (defBody (top 38)) (defScope (top 38)) [] [] (He.fAd K ("_law_fixed", none)) fd) : ∀ j, Cal P w K mg base (0 + j) "_law_fixed" (top 38) ["value"] (g__law_fixed j)
  | 0 => Cal.of hg (def0 hf _) (fun _ _ _ _ _ _ us hl => match us, hl with | [_], _ => rfl)
  | j + 1 => Cal.of hg (defP (mb := m__law_fixed (g__law_fixed j)) hf S__law_fixed 2 rfl (t__law_fixed F (C__law_fixed F hg hf j))) (fun _ _ _ _ _ _ us hl => match us, hl with | [_], _ => rfl)
/-! Paper.__bool__ -/
def m_Paper____bool__ : MS := (mRet (mC (.bl true)))
set_option synthInstance.maxHeartbeats 400000 in
set_option synthInstance.maxSize 4000 in
instance i_Paper____bool__ : KpR (m_Paper____bool__) := by unfold m_Paper____bool__; infer_instance
def g_Paper____bool__ : GL := arO 1 (fnP 1 m_Paper____bool__)
instance : KpL g_Paper____bool__ := by unfold g_Paper____bool__; infer_instance
theorem S_Paper____bool__ : FnScope ["self"] ["self"] (defScope (subSt (top 3) 2)) := ⟨rfl, rfl, rfl, by decide +kernel, rfl, by decide +kernel, by decide +kernel⟩
theorem t_Paper____bool__ (F : Fx P w K mg) : BodyD P w K mg base ["self"] 0 (nmS 491328135504, some (nmS 6872330782256553823)) "Paper.__bool__" (subSt (top 3) 2) m_Paper____bool__ := by
  intro cdv A outer s H E hG hr hcv tk
  have S := S_Paper____bool__
  exact (jss_one (js_ret je_bl))
theorem D_Paper____bool__ (F : Fx P w K mg) (hf : ∃ fd, FunD K "__bool__" "Paper.__bool__" (defArgs (subSt (top 3) 2)) (defBody (subSt (top 3) 2)) (defScope (subSt (top 3) 2)) [] [] (He.fAd K (nmS 491328135504, some (nmS 6872330782256553823))) fd) : DefK P w K mg base 1 (nmS 491328135504, some (nmS 6872330782256553823)) "__bool__" "Paper.__bool__" (subSt (top 3) 2) [] ["self"] g_Paper____bool__ :=
  defP hf S_Paper____bool__ 1 rfl (t_Paper____bool__ F)
/-! Denial.__bool__ -/
def m_Denial____bool__ : MS := (mRet (mC (.bl false)))
set_option synthInstance.maxHeartbeats 400000 in
set_option synthInstance.maxSize 4000 in
instance i_Denial____bool__ : KpR (m_Denial____bool__) := by unfold m_Denial____bool__; infer_instance
def g_Denial____bool__ : GL := arO 1 (fnP 1 m_Denial____bool__)
instance : KpL g_Denial____bool__ := by unfold g_Denial____bool__; infer_instance
theorem S_Denial____bool__ : FnScope ["self"] ["self"] (defScope (subSt (top 4) 0)) := ⟨rfl, rfl, rfl, by decide +kernel, rfl, by decide +kernel, by decide +kernel⟩
theorem t_Denial____bool__ (F : Fx P w K mg) : BodyD P w K mg base ["self"] 0 (nmS 119165636470084, some (nmS 6872330782256553823)) "Denial.__bool__" (subSt (top 4) 0) m_Denial____bool__ := by
  intro cdv A outer s H E hG hr hcv tk
  have S := S_Denial____bool__
  exact (jss_one (js_ret je_bl))
theorem D_Denial____bool__ (F : Fx P w K mg) (hf : ∃ fd, FunD K "__bool__" "Denial.__bool__" (defArgs (subSt (top 4) 0)) (defBody (subSt (top 4) 0)) (defScope (subSt (top 4) 0)) [] [] (He.fAd K (nmS 119165636470084, some (nmS 6872330782256553823))) fd) : DefK P w K mg base 1 (nmS 119165636470084, some (nmS 6872330782256553823)) "__bool__" "Denial.__bool__" (subSt (top 4) 0) [] ["self"] g_Denial____bool__ :=
  defP hf S_Denial____bool__ 1 rfl (t_Denial____bool__ F)
def tab0 : List (Nat × GL × List T) := [(491328135504, g_Paper____bool__, []), (119165636470084, g_Denial____bool__, [])]
instance : KpTab tab0 := by unfold tab0; infer_instance
/-! is_same -/
def m_is_same (r : GL) : MS := (mSeq (mIfS (mAnd (mTru (mCl (gIsi isc0 ist0) (mCons (mVar 0) (mCons (mC (.ty 5)) mNil)))) (mTru (mCl (gIsi isc0 ist0) (mCons (mVar 1) (mCons (mC (.ty 5)) mNil)))))
  (mRet (mAndV (mOp gEq (mCl gLen (mCons (mVar 0) mNil)) (mCl gLen (mCons (mVar 1) mNil))) (mCl gAll (mCons (mFin fzT (mLc [2, 3] (mIt (mCons (mVar 0) (mCons (mVar 1) mNil)) itZ) (gTp 2 (gsCons (gNm 2) (gsCons (gNm 3) gsNil))) mYes (mCall r [] (mCons (mVar 2) (mCons (mVar 3) mNil))))) mNil))))
  mNext)
  (mRet (mAndV (mOp gEq (mCl (gIsi isc0 ist0) (mCons (mVar 0) (mCons (mC (.ty 1)) mNil))) (mCl (gIsi isc0 ist0) (mCons (mVar 1) (mCons (mC (.ty 1)) mNil)))) (mCl (gBool tab0) (mCons (mOp gEq (mVar 0) (mVar 1)) mNil)))))
set_option synthInstance.maxHeartbeats 400000 in
set_option synthInstance.maxSize 4000 in
instance i_is_same {r : GL} [KpL r] : KpR (m_is_same r) := by unfold m_is_same; infer_instance
def g_is_same : Nat → GL
  | 0 => fun _ _ => .bad
  | j + 1 => arO 2 (fnP 4 (m_is_same (g_is_same j)))
instance ig_is_same : ∀ j, KpL (g_is_same j)
  | 0 => ⟨fun _ _ => True.intro⟩
  | j + 1 => by
    have := ig_is_same j
    exact inferInstanceAs (KpL (arO 2 (fnP 4 (m_is_same (g_is_same j)))))
theorem S_is_same : FnScope ["one", "other", "part", "its"] ["one", "other"] (defScope (top 2)) := ⟨rfl, rfl, rfl, by decide +kernel, rfl, by decide +kernel, by decide +kernel⟩
theorem t_is_same (F : Fx P w K mg) (D_Paper____bool__ : DefK P w K mg base 1 (nmS 491328135504, some (nmS 6872330782256553823)) "__bool__" "Paper.__bool__" (subSt (top 3) 2) [] ["self"] g_Paper____bool__) (D_Denial____bool__ : DefK P w K mg base 1 (nmS 119165636470084, some (nmS 6872330782256553823)) "__bool__" "Denial.__bool__" (subSt (top 4) 0) [] ["self"] g_Denial____bool__) {j : Nat} (C_is_same : Cal P w K mg base (3 + j) "is_same" (top 2) ["one", "other"] (g_is_same j)) : BodyD P w K mg base ["one", "other", "part", "its"] (3 + j) ("is_same", none) "is_same" (top 2) (m_is_same (g_is_same j)) := by
  intro cdv A outer s H E hG hr hcv tk
  have S := S_is_same
  exact (jss_cons (js_if (jt_w (jw_and (jt_tru (je_callB (cIsi F.isc F.ist) rfl F.f_isinstance boot_isinstance (ja_cons (je_var 0 (pv 0)) (ja_cons (je_ty (n := 5) rfl rfl F.f_tuple boot_tuple) ja_nil)))) (jw_and1 (jt_tru (je_callB (cIsi F.isc F.ist) rfl F.f_isinstance boot_isinstance (ja_cons (je_var 1 (pv 1)) (ja_cons (je_ty (n := 5) rfl rfl F.f_tuple boot_tuple) ja_nil)))))))
  (jss_one (js_ret (je_and (je_cmp (oEq (unitsOf64 hr)) (je_callB cLen rfl F.f_len boot_len (ja_cons (je_var 0 (pv 0)) ja_nil)) (je_callB cLen rfl F.f_len boot_len (ja_cons (je_var 1 (pv 1)) ja_nil)) (nomark _)) (je_one (je_callB (cAll rfl) rfl F.f_all boot_all (ja_cons (je_lc keeps_fz rfl S.nd (ji_zip rfl F.f_zip (ja_cons (je_var 0 (pv 0)) (ja_cons (je_var 1 (pv 1)) ja_nil))) (blkOk_by (own := [("part", 2), ("its", 3)]) (by kernel_rfl)) rfl (fun s H C cl fp => (jg_tup rfl (jgs_cons (jg_name 2 (pg_name S.nd rfl (by first | exact .inl rfl | exact .inr rfl)) (by decide)) (jgs_cons (jg_name 3 (pg_name S.nd rfl (by first | exact .inl rfl | exact .inr rfl)) (by decide)) jgs_nil)))) (fun s H C cl fp => jts_nil) (fun s H C cl fp => (je_cal tkN hG (hr.mono (by omega)) rfl C_is_same (ja_cons (je_var 2 (pv 2)) (ja_cons (je_var 3 (pv 3)) ja_nil))))) ja_nil))))))
  jss_nil)
  (jss_one (js_ret (je_and (je_cmp (oEq (unitsOf64 hr)) (je_callB (cIsi F.isc F.ist) rfl F.f_isinstance boot_isinstance (ja_cons (je_var 0 (pv 0)) (ja_cons (je_ty (n := 1) rfl rfl F.f_bool boot_bool) ja_nil))) (je_callB (cIsi F.isc F.ist) rfl F.f_isinstance boot_isinstance (ja_cons (je_var 1 (pv 1)) (ja_cons (je_ty (n := 1) rfl rfl F.f_bool boot_bool) ja_nil))) (nomark _)) (je_one (je_callT (cBool (m := 6872330782256553823) (k := 1) (by decide +kernel) tk hG (hr.mono (by omega)) (cnds_cons (Cnd.mono (k := 1) (by omega) (Cnd.of F.me_Paper___bool__ D_Paper____bool__ (fun _ _ _ _ _ _ us hl => match us, hl with | [_], _ => rfl))) (cnds_cons (Cnd.mono (k := 1) (by omega) (Cnd.of F.me_Denial___bool__ D_Denial____bool__ (fun _ _ _ _ _ _ us hl => match us, hl with | [_], _ => rfl))) cnds_nil))) rfl F.f_bool boot_bool (ja_cons (je_cmp (oEq (unitsOf64 hr)) (je_var 0 (pv 0)) (je_var 1 (pv 1)) (nomark _)) ja_nil)))))))
theorem C_is_same (F : Fx P w K mg) (hg : mg "is_same" = some (.ref (He.fAd K ("is_same", none)))) (hf : ∃ fd, FunD K "is_same" "is_same" (defArgs (top 2)) (defBody (top 2)) (defScope (top 2)) [] [] (He.fAd K ("is_same", none)) fd) (D_Paper____bool__ : DefK P w K mg base 1 (nmS 491328135504, some (nmS 6872330782256553823)) "__bool__" "Paper.__bool__" (subSt (top 3) 2) [] ["self"] g_Paper____bool__) (D_Denial____bool__ : DefK P w K mg base 1 (nmS 119165636470084, some (nmS 6872330782256553823)) "__bool__" "Denial.__bool__" (subSt (top 4) 0) [] ["self"] g_Denial____bool__) : ∀ j, Cal P w K mg base (3 + j) "is_same" (top 2) ["one", "other"] (g_is_same j)
  | 0 => Cal.of hg (def0 hf _) (fun _ _ _ _ _ _ us hl => match us, hl with | [_, _], _ => rfl)
  | j + 1 => Cal.of hg (defP (mb := m_is_same (g_is_same j)) hf S_is_same 4 rfl (t_is_same F D_Paper____bool__ D_Denial____bool__ (C_is_same F hg hf D_Paper____bool__ D_Denial____bool__ j))) (fun _ _ _ _ _ _ us hl => match us, hl with | [_, _], _ => rfl)
/-! fixed -/
def m_fixed (r : GL) : MS := (mSeq (mIfS (mTru (mCl (gIsi isc0 ist0) (mCons (mVar 0) (mCons (mCl gTup (mCons (mC (.ty 4)) (mCons (mC (.ty 5)) mNil))) mNil))))
  (mRet (mCl gTupOf (mCons (mFin fzT (mLc [1] (mItS2 (mVar 0)) (gNm 1) mYes (mCall r [] (mCons (mVar 1) mNil)))) mNil)))
  mNext)
  (mRet (mVar 0)))
set_option synthInstance.maxHeartbeats 400000 in
set_option synthInstance.maxSize 4000 in
instance i_fixed {r : GL} [KpL r] : KpR (m_fixed r) := by unfold m_fixed; infer_instance
def g_fixed : Nat → GL
  | 0 => fun _ _ => .bad
  | j + 1 => arO 1 (fnP 2 (m_fixed (g_fixed j)))
instance ig_fixed : ∀ j, KpL (g_fixed j)
  | 0 => ⟨fun _ _ => True.intro⟩
  | j + 1 => by
    have := ig_fixed j
    exact inferInstanceAs (KpL (arO 1 (fnP 2 (m_fixed (g_fixed j)))))
theorem S_fixed : FnScope ["value", "part"] ["value"] (defScope (top 1)) := ⟨rfl, rfl, rfl, by decide +kernel, rfl, by decide +kernel, by decide +kernel⟩
theorem t_fixed (F : Fx P w K mg) {j : Nat} (C_fixed : Cal P w K mg base (0 + j) "fixed" (top 1) ["value"] (g_fixed j)) : BodyD P w K mg base ["value", "part"] (0 + j) ("fixed", none) "fixed" (top 1) (m_fixed (g_fixed j)) := by
  intro cdv A outer s H E hG hr hcv tk
  have S := S_fixed
  exact (jss_cons (js_if (jt_tru (je_callB (cIsi F.isc F.ist) rfl F.f_isinstance boot_isinstance (ja_cons (je_var 0 (pv 0)) (ja_cons (je_tup (ja_cons (je_ty (n := 4) rfl rfl F.f_list boot_list) (ja_cons (je_ty (n := 5) rfl rfl F.f_tuple boot_tuple) ja_nil))) ja_nil))))
  (jss_one (js_ret (je_callT cTup rfl F.f_tuple boot_tuple (ja_cons (je_lc keeps_fz rfl S.nd (ji_seq2 (je_var 0 (pv 0))) (blkOk_by (own := [("part", 1)]) (by kernel_rfl)) rfl (fun s H C cl fp => (jg_name 1 (pg_name S.nd rfl (by first | exact .inl rfl | exact .inr rfl)) (by decide))) (fun s H C cl fp => jts_nil) (fun s H C cl fp => (je_cal tkN hG (hr.mono (by omega)) rfl C_fixed (ja_cons (je_var 1 (pv 1)) ja_nil)))) ja_nil))))
  jss_nil)
  (jss_one (js_ret (je_var 0 (pv 0)))))
theorem C_fixed (F : Fx P w K mg) (hg : mg "fixed" = some (.ref (He.fAd K ("fixed", none)))) (hf : ∃ fd, FunD K "fixed" "fixed" (defArgs (top 1)) (defBody (top 1)) (defScope (top 1)) [] [] (He.fAd K ("fixed", none)) fd) : ∀ j, Cal P w K mg base (0 + j) "fixed" (top 1) ["value"] (g_fixed j)
  | 0 => Cal.of hg (def0 hf _) (fun _ _ _ _ _ _ us hl => match us, hl with | [_], _ => rfl)
  | j + 1 => Cal.of hg (defP (mb := m_fixed (g_fixed j)) hf S_fixed 2 rfl (t_fixed F (C_fixed F hg hf j))) (fun _ _ _ _ _ _ us hl => match us, hl with | [_], _ => rfl)
/-! Paper.__init__ -/
def m_Paper____init__ : MS := (mSeq (mStO ocs0 1685221239 (mVar 0) (mVar 1))
  (mStO ocs1 495874892144 (mVar 0) (mCall (g_fixed 6) [] (mCons (mVar 2) mNil))))
set_option synthInstance.maxHeartbeats 400000 in
set_option synthInstance.maxSize 4000 in
instance i_Paper____init__ : KpR (m_Paper____init__) := by unfold m_Paper____init__; infer_instance
def g_Paper____init__ : GL := starG 2 (fnK 3 m_Paper____init__)
instance : KpL g_Paper____init__ := by unfold g_Paper____init__; infer_instance
theorem S_Paper____init__ : FnScope ["self", "word", "parts"] ["self", "word", "parts"] (defScope (subSt (top 3) 0)) := ⟨rfl, rfl, rfl, by decide +kernel, rfl, by decide +kernel, by decide +kernel⟩
theorem t_Paper____init__ (F : Fx P w K mg) (C_fixed : Cal P w K mg base 6 "fixed" (top 1) ["value"] (g_fixed 6)) : BodyD P w K mg base ["self", "word", "parts"] 6 (nmS 491328135504, some (nmS 6872339552563453791)) "Paper.__init__" (subSt (top 3) 0) m_Paper____init__ := by
  intro cdv A outer s H E hG hr hcv tk
  have S := S_Paper____init__
  exact (jss_cons (js_stO (f := 1685221239) (by decide +kernel) F.fl_word (je_var 0 (pv 0)) (je_var 1 (pv 1)))
  (jss_one (js_stO (f := 495874892144) (by decide +kernel) F.fl_parts (je_var 0 (pv 0)) (je_cal tk hG (hr.mono (by omega)) rfl C_fixed (ja_cons (je_var 2 (pv 2)) ja_nil)))))
theorem D_Paper____init__ (F : Fx P w K mg) (hf : ∃ fd, FunD K "__init__" "Paper.__init__" (defArgs (subSt (top 3) 0)) (defBody (subSt (top 3) 0)) (defScope (subSt (top 3) 0)) [] [] (He.fAd K (nmS 491328135504, some (nmS 6872339552563453791))) fd) (C_fixed : Cal P w K mg base 6 "fixed" (top 1) ["value"] (g_fixed 6)) : FnS P w K mg base (L2.CX P w) 7 (He.fAd K (nmS 491328135504, some (nmS 6872339552563453791))) (spS ⟨K, w⟩ g_Paper____init__) :=
  defS (ps := ["self", "word"]) (pv := "parts") hf S_Paper____init__ 3 rfl (fun _ _ _ _ _ _ us rest hl => match us, rest, hl with | [_, _], [], _ => rfl | [_, _], _ :: _, _ => rfl) (t_Paper____init__ F C_fixed)
/-! Paper.__eq__ -/
def m_Paper____eq__ : MS := (mSeq (mIfS (mOr (mNot (mTru (mCl (gIsi isc0 ist0) (mCons (mVar 1) (mCons (mC (.cls 491328135504)) mNil))))) (mTst (mOp gNe (mUn (gClsN ncs0) (mVar 0)) (mUn (gClsN ncs0) (mVar 1)))))
  (mRet (mC (.bl false)))
  mNext)
  (mRet (mAndV (mCall (g_is_same 6) [] (mCons (mUn (gFld ocs0 1685221239) (mVar 0)) (mCons (mUn (gFld ocs0 1685221239) (mVar 1)) mNil))) (mCall (g_is_same 6) [] (mCons (mUn (gFld ocs1 495874892144) (mVar 0)) (mCons (mUn (gFld ocs1 495874892144) (mVar 1)) mNil))))))
set_option synthInstance.maxHeartbeats 400000 in
set_option synthInstance.maxSize 4000 in
instance i_Paper____eq__ : KpR (m_Paper____eq__) := by unfold m_Paper____eq__; infer_instance
def g_Paper____eq__ : GL := arO 2 (fnP 2 m_Paper____eq__)
instance : KpL g_Paper____eq__ := by unfold g_Paper____eq__; infer_instance
theorem S_Paper____eq__ : FnScope ["self", "other"] ["self", "other"] (defScope (subSt (top 3) 1)) := ⟨rfl, rfl, rfl, by decide +kernel, rfl, by decide +kernel, by decide +kernel⟩
theorem t_Paper____eq__ (F : Fx P w K mg) (C_is_same : Cal P w K mg base 9 "is_same" (top 2) ["one", "other"] (g_is_same 6)) : BodyD P w K mg base ["self", "other"] 9 (nmS 491328135504, some (nmS 104863529000799)) "Paper.__eq__" (subSt (top 3) 1) m_Paper____eq__ := by
  intro cdv A outer s H E hG hr hcv tk
  have S := S_Paper____eq__
  exact (jss_cons (js_if (jt_w (jw_or (jt_not (jt_tru (je_callB (cIsi F.isc F.ist) rfl F.f_isinstance boot_isinstance (ja_cons (je_var 1 (pv 1)) (ja_cons (je_gcls (c := 491328135504) (by decide +kernel) rfl (cgl (by decide +kernel) F.cg_Paper)) ja_nil))))) (jw_or1 (jt_cmp (oNe (unitsOf64 hr)) (je_clsN F.nmc (je_var 0 (pv 0))) (je_clsN F.nmc (je_var 1 (pv 1))) (nomark _)))))
  (jss_one (js_ret je_bl))
  jss_nil)
  (jss_one (js_ret (je_and (je_cal tk hG (hr.mono (by omega)) rfl C_is_same (ja_cons (je_fld (f := 1685221239) (by decide +kernel) F.fl_word (je_var 0 (pv 0))) (ja_cons (je_fld (f := 1685221239) (by decide +kernel) F.fl_word (je_var 1 (pv 1))) ja_nil))) (je_one (je_cal tk hG (hr.mono (by omega)) rfl C_is_same (ja_cons (je_fld (f := 495874892144) (by decide +kernel) F.fl_parts (je_var 0 (pv 0))) (ja_cons (je_fld (f := 495874892144) (by decide +kernel) F.fl_parts (je_var 1 (pv 1))) ja_nil))))))))
theorem D_Paper____eq__ (F : Fx P w K mg) (hf : ∃ fd, FunD K "__eq__" "Paper.__eq__" (defArgs (subSt (top 3) 1)) (defBody (subSt (top 3) 1)) (defScope (subSt (top 3) 1)) [] [] (He.fAd K (nmS 491328135504, some (nmS 104863529000799))) fd) (C_is_same : Cal P w K mg base 9 "is_same" (top 2) ["one", "other"] (g_is_same 6)) : DefK P w K mg base 10 (nmS 491328135504, some (nmS 104863529000799)) "__eq__" "Paper.__eq__" (subSt (top 3) 1) [] ["self", "other"] g_Paper____eq__ :=
  defP hf S_Paper____eq__ 2 rfl (t_Paper____eq__ F C_is_same)
def tab1 : List (Nat × GL × List T) := [(491328135504, g_Paper____eq__, []), (119165636470084, g_Paper____eq__, [])]
instance : KpTab tab1 := by unfold tab1; infer_instance
/-! _law_is_number -/
def m__law_is_number : MS := (mRet (mAndV (mCl (gIsi isc0 ist0) (mCons (mVar 0) (mCons (mC (.ty 2)) mNil))) (mNotV (mCl (gIsi isc0 ist0) (mCons (mVar 0) (mCons (mC (.ty 1)) mNil))))))
set_option synthInstance.maxHeartbeats 400000 in
set_option synthInstance.maxSize 4000 in
instance i__law_is_number : KpR (m__law_is_number) := by unfold m__law_is_number; infer_instance
def g__law_is_number : GL := arO 1 (fnP 1 m__law_is_number)
instance : KpL g__law_is_number := by unfold g__law_is_number; infer_instance
theorem S__law_is_number : FnScope ["value"] ["value"] (defScope (top 36)) := ⟨rfl, rfl, rfl, by decide +kernel, rfl, by decide +kernel, by decide +kernel⟩
theorem t__law_is_number (F : Fx P w K mg) : BodyD P w K mg base ["value"] 0 ("_law_is_number", none) "_law_is_number" (top 36) m__law_is_number := by
  intro cdv A outer s H E hG hr hcv tk
  have S := S__law_is_number
  exact (jss_one (js_ret (je_and (je_callB (cIsi F.isc F.ist) rfl F.f_isinstance boot_isinstance (ja_cons (je_var 0 (pv 0)) (ja_cons (je_ty (n := 2) rfl rfl F.f_int boot_int) ja_nil))) (je_one (je_not (je_callB (cIsi F.isc F.ist) rfl F.f_isinstance boot_isinstance (ja_cons (je_var 0 (pv 0)) (ja_cons (je_ty (n := 1) rfl rfl F.f_bool boot_bool) ja_nil))))))))
theorem C__law_is_number (F : Fx P w K mg) (hg : mg "_law_is_number" = some (.ref (He.fAd K ("_law_is_number", none)))) (hf : ∃ fd, FunD K "_law_is_number" "_law_is_number" (defArgs (top 36)) (defBody (top 36)) (defScope (top 36)) [] [] (He.fAd K ("_law_is_number", none)) fd) : Cal P w K mg base 1 "_law_is_number" (top 36) ["value"] g__law_is_number :=
  Cal.of hg (defP hf S__law_is_number 1 rfl (t__law_is_number F)) (fun _ _ _ _ _ _ us hl => match us, hl with | [_], _ => rfl)
/-! is_integer -/
def m_is_integer : MS := (mRet (mAndV (mCl (gIsi isc0 ist0) (mCons (mVar 0) (mCons (mC (.ty 2)) mNil))) (mNotV (mCl (gIsi isc0 ist0) (mCons (mVar 0) (mCons (mC (.ty 1)) mNil))))))
set_option synthInstance.maxHeartbeats 400000 in
set_option synthInstance.maxSize 4000 in
instance i_is_integer : KpR (m_is_integer) := by unfold m_is_integer; infer_instance
def g_is_integer : GL := arO 1 (fnP 1 m_is_integer)
instance : KpL g_is_integer := by unfold g_is_integer; infer_instance
theorem S_is_integer : FnScope ["value"] ["value"] (defScope (top 9)) := ⟨rfl, rfl, rfl, by decide +kernel, rfl, by decide +kernel, by decide +kernel⟩
theorem t_is_integer (F : Fx P w K mg) : BodyD P w K mg base ["value"] 0 ("is_integer", none) "is_integer" (top 9) m_is_integer := by
  intro cdv A outer s H E hG hr hcv tk
  have S := S_is_integer
  exact (jss_one (js_ret (je_and (je_callB (cIsi F.isc F.ist) rfl F.f_isinstance boot_isinstance (ja_cons (je_var 0 (pv 0)) (ja_cons (je_ty (n := 2) rfl rfl F.f_int boot_int) ja_nil))) (je_one (je_not (je_callB (cIsi F.isc F.ist) rfl F.f_isinstance boot_isinstance (ja_cons (je_var 0 (pv 0)) (ja_cons (je_ty (n := 1) rfl rfl F.f_bool boot_bool) ja_nil))))))))
theorem C_is_integer (F : Fx P w K mg) (hg : mg "is_integer" = some (.ref (He.fAd K ("is_integer", none)))) (hf : ∃ fd, FunD K "is_integer" "is_integer" (defArgs (top 9)) (defBody (top 9)) (defScope (top 9)) [] [] (He.fAd K ("is_integer", none)) fd) : Cal P w K mg base 1 "is_integer" (top 9) ["value"] g_is_integer :=
  Cal.of hg (defP hf S_is_integer 1 rfl (t_is_integer F)) (fun _ _ _ _ _ _ us hl => match us, hl with | [_], _ => rfl)
/-! is_within -/
def m_is_within : MS := (mRet (mAndV (mCall g_is_integer [] (mCons (mVar 0) mNil)) (mChain gLeS gLeS (mVar 1) (mVar 0) (mVar 2))))
set_option synthInstance.maxHeartbeats 400000 in
set_option synthInstance.maxSize 4000 in
instance i_is_within : KpR (m_is_within) := by unfold m_is_within; infer_instance
def g_is_within : GL := arO 3 (fnP 3 m_is_within)
instance : KpL g_is_within := by unfold g_is_within; infer_instance
theorem S_is_within : FnScope ["value", "least", "most"] ["value", "least", "most"] (defScope (top 10)) := ⟨rfl, rfl, rfl, by decide +kernel, rfl, by decide +kernel, by decide +kernel⟩
theorem t_is_within (F : Fx P w K mg) (C_is_integer : Cal P w K mg base 1 "is_integer" (top 9) ["value"] g_is_integer) : BodyD P w K mg base ["value", "least", "most"] 1 ("is_within", none) "is_within" (top 10) m_is_within := by
  intro cdv A outer s H E hG hr hcv tk
  have S := S_is_within
  exact (jss_one (js_ret (je_and (je_cal tk hG (hr.mono (by omega)) rfl C_is_integer (ja_cons (je_var 0 (pv 0)) ja_nil)) (je_one (je_chain oLeS oLeS (je_var 1 (pv 1)) (je_var 0 (pv 0)) (je_var 2 (pv 2)))))))
theorem C_is_within (F : Fx P w K mg) (hg : mg "is_within" = some (.ref (He.fAd K ("is_within", none)))) (hf : ∃ fd, FunD K "is_within" "is_within" (defArgs (top 10)) (defBody (top 10)) (defScope (top 10)) [] [] (He.fAd K ("is_within", none)) fd) (C_is_integer : Cal P w K mg base 1 "is_integer" (top 9) ["value"] g_is_integer) : Cal P w K mg base 2 "is_within" (top 10) ["value", "least", "most"] g_is_within :=
  Cal.of hg (defP hf S_is_within 3 rfl (t_is_within F C_is_integer)) (fun _ _ _ _ _ _ us hl => match us, hl with | [_, _, _], _ => rfl)
/-! is_listed -/
def m_is_listed : MS := (mRet (mCl (gIsi isc0 ist0) (mCons (mVar 0) (mCons (mCl gTup (mCons (mC (.ty 4)) (mCons (mC (.ty 5)) mNil))) mNil))))
set_option synthInstance.maxHeartbeats 400000 in
set_option synthInstance.maxSize 4000 in
instance i_is_listed : KpR (m_is_listed) := by unfold m_is_listed; infer_instance
def g_is_listed : GL := arO 1 (fnP 1 m_is_listed)
instance : KpL g_is_listed := by unfold g_is_listed; infer_instance
theorem S_is_listed : FnScope ["value"] ["value"] (defScope (top 11)) := ⟨rfl, rfl, rfl, by decide +kernel, rfl, by decide +kernel, by decide +kernel⟩
theorem t_is_listed (F : Fx P w K mg) : BodyD P w K mg base ["value"] 0 ("is_listed", none) "is_listed" (top 11) m_is_listed := by
  intro cdv A outer s H E hG hr hcv tk
  have S := S_is_listed
  exact (jss_one (js_ret (je_callB (cIsi F.isc F.ist) rfl F.f_isinstance boot_isinstance (ja_cons (je_var 0 (pv 0)) (ja_cons (je_tup (ja_cons (je_ty (n := 4) rfl rfl F.f_list boot_list) (ja_cons (je_ty (n := 5) rfl rfl F.f_tuple boot_tuple) ja_nil))) ja_nil)))))
theorem C_is_listed (F : Fx P w K mg) (hg : mg "is_listed" = some (.ref (He.fAd K ("is_listed", none)))) (hf : ∃ fd, FunD K "is_listed" "is_listed" (defArgs (top 11)) (defBody (top 11)) (defScope (top 11)) [] [] (He.fAd K ("is_listed", none)) fd) : Cal P w K mg base 1 "is_listed" (top 11) ["value"] g_is_listed :=
  Cal.of hg (defP hf S_is_listed 1 rfl (t_is_listed F)) (fun _ _ _ _ _ _ us hl => match us, hl with | [_], _ => rfl)
/-! is_row -/
def m_is_row : MS := (mRet (mAndV (mCall g_is_listed [] (mCons (mVar 0) mNil)) (mChain gLeS gLeS (mVar 1) (mCl gLen (mCons (mVar 0) mNil)) (mVar 2))))
set_option synthInstance.maxHeartbeats 400000 in
set_option synthInstance.maxSize 4000 in
instance i_is_row : KpR (m_is_row) := by unfold m_is_row; infer_instance
def g_is_row : GL := arO 3 (fnP 3 m_is_row)
instance : KpL g_is_row := by unfold g_is_row; infer_instance
theorem S_is_row : FnScope ["value", "least", "most"] ["value", "least", "most"] (defScope (top 12)) := ⟨rfl, rfl, rfl, by decide +kernel, rfl, by decide +kernel, by decide +kernel⟩
theorem t_is_row (F : Fx P w K mg) (C_is_listed : Cal P w K mg base 1 "is_listed" (top 11) ["value"] g_is_listed) : BodyD P w K mg base ["value", "least", "most"] 1 ("is_row", none) "is_row" (top 12) m_is_row := by
  intro cdv A outer s H E hG hr hcv tk
  have S := S_is_row
  exact (jss_one (js_ret (je_and (je_cal tk hG (hr.mono (by omega)) rfl C_is_listed (ja_cons (je_var 0 (pv 0)) ja_nil)) (je_one (je_chain oLeS oLeS (je_var 1 (pv 1)) (je_callB cLen rfl F.f_len boot_len (ja_cons (je_var 0 (pv 0)) ja_nil)) (je_var 2 (pv 2)))))))
theorem C_is_row (F : Fx P w K mg) (hg : mg "is_row" = some (.ref (He.fAd K ("is_row", none)))) (hf : ∃ fd, FunD K "is_row" "is_row" (defArgs (top 12)) (defBody (top 12)) (defScope (top 12)) [] [] (He.fAd K ("is_row", none)) fd) (C_is_listed : Cal P w K mg base 1 "is_listed" (top 11) ["value"] g_is_listed) : Cal P w K mg base 2 "is_row" (top 12) ["value", "least", "most"] g_is_row :=
  Cal.of hg (defP hf S_is_row 3 rfl (t_is_row F C_is_listed)) (fun _ _ _ _ _ _ us hl => match us, hl with | [_, _, _], _ => rfl)
/-! _law_pick -/
def m__law_pick : MS := (mRet (mOp gIx (mVar 1) (mCall g__law_draw [] (mCons (mVar 0) (mCons (mCl gLen (mCons (mVar 1) mNil)) mNil)))))
set_option synthInstance.maxHeartbeats 400000 in
set_option synthInstance.maxSize 4000 in
instance i__law_pick : KpR (m__law_pick) := by unfold m__law_pick; infer_instance
def g__law_pick : GL := arO 2 (fnK 2 m__law_pick)
instance : KpL g__law_pick := by unfold g__law_pick; infer_instance
theorem S__law_pick : FnScope ["pen", "some"] ["pen", "some"] (defScope (top 35)) := ⟨rfl, rfl, rfl, by decide +kernel, rfl, by decide +kernel, by decide +kernel⟩
theorem t__law_pick (F : Fx P w K mg) (C__law_draw : Cal P w K mg base 1 "_law_draw" (top 34) ["pen", "many"] g__law_draw) : BodyD P w K mg base ["pen", "some"] 1 ("_law_pick", none) "_law_pick" (top 35) m__law_pick := by
  intro cdv A outer s H E hG hr hcv tk
  have S := S__law_pick
  exact (jss_one (js_ret (je_ix (je_var 1 (pv 1)) (je_cal tk hG (hr.mono (by omega)) rfl C__law_draw (ja_cons (je_var 0 (pv 0)) (ja_cons (je_callB cLen rfl F.f_len boot_len (ja_cons (je_var 1 (pv 1)) ja_nil)) ja_nil))))))
theorem C__law_pick (F : Fx P w K mg) (hg : mg "_law_pick" = some (.ref (He.fAd K ("_law_pick", none)))) (hf : ∃ fd, FunD K "_law_pick" "_law_pick" (defArgs (top 35)) (defBody (top 35)) (defScope (top 35)) [] [] (He.fAd K ("_law_pick", none)) fd) (C__law_draw : Cal P w K mg base 1 "_law_draw" (top 34) ["pen", "many"] g__law_draw) : Cal P w K mg base 2 "_law_pick" (top 35) ["pen", "some"] g__law_pick :=
  Cal.of hg (defK hf S__law_pick 2 rfl (t__law_pick F C__law_draw)) (fun _ _ _ _ _ _ us hl => match us, hl with | [_, _], _ => rfl)
/-! is_name -/
def m_is_name : MS := (mRet (mAndV (mCl (gIsi isc0 ist0) (mCons (mVar 0) (mCons (mC (.ty 3)) mNil))) (mAndV (mChain gLeS gLeS (mC (.int 1)) (mCl gLen (mCons (mVar 0) mNil)) (mC (.int 8))) (mCl gAll (mCons (mFin fzT (mLc [1] (mItS2 (mVar 0)) (gNm 1) mYes (mOp (gIn false) (mVar 1) (mC (.str [97, 98, 99, 100, 101, 102, 103, 104, 105, 106, 107, 108, 109, 110, 111, 112, 113, 114, 115, 116, 117, 118, 119, 120, 121, 122]))))) mNil)))))
set_option synthInstance.maxHeartbeats 400000 in
set_option synthInstance.maxSize 4000 in
instance i_is_name : KpR (m_is_name) := by unfold m_is_name; infer_instance
def g_is_name : GL := arO 1 (fnP 2 m_is_name)
instance : KpL g_is_name := by unfold g_is_name; infer_instance
theorem S_is_name : FnScope ["value", "sign"] ["value"] (defScope (top 13)) := ⟨rfl, rfl, rfl, by decide +kernel, rfl, by decide +kernel, by decide +kernel⟩
theorem t_is_name (F : Fx P w K mg) : BodyD P w K mg base ["value", "sign"] 0 ("is_name", none) "is_name" (top 13) m_is_name := by
  intro cdv A outer s H E hG hr hcv tk
  have S := S_is_name
  exact (jss_one (js_ret (je_and (je_callB (cIsi F.isc F.ist) rfl F.f_isinstance boot_isinstance (ja_cons (je_var 0 (pv 0)) (ja_cons (je_ty (n := 3) rfl rfl F.f_str boot_str) ja_nil))) (je_and (je_chain oLeS oLeS je_int (je_callB cLen rfl F.f_len boot_len (ja_cons (je_var 0 (pv 0)) ja_nil)) (je_gint rfl F.k_MOST_NAME)) (je_one (je_callB (cAll rfl) rfl F.f_all boot_all (ja_cons (je_lc keeps_fz rfl S.nd (ji_seq2 (je_var 0 (pv 0))) (blkOk_by (own := [("sign", 1)]) (by kernel_rfl)) rfl (fun s H C cl fp => (jg_name 1 (pg_name S.nd rfl (by first | exact .inl rfl | exact .inr rfl)) (by decide))) (fun s H C cl fp => jts_nil) (fun s H C cl fp => (je_cmp oIn (je_var 1 (pv 1)) (je_gstr [97, 98, 99, 100, 101, 102, 103, 104, 105, 106, 107, 108, 109, 110, 111, 112, 113, 114, 115, 116, 117, 118, 119, 120, 121, 122] rfl rfl F.k_LETTERS) rfl))) ja_nil)))))))
theorem C_is_name (F : Fx P w K mg) (hg : mg "is_name" = some (.ref (He.fAd K ("is_name", none)))) (hf : ∃ fd, FunD K "is_name" "is_name" (defArgs (top 13)) (defBody (top 13)) (defScope (top 13)) [] [] (He.fAd K ("is_name", none)) fd) : Cal P w K mg base 1 "is_name" (top 13) ["value"] g_is_name :=
  Cal.of hg (defP hf S_is_name 2 rfl (t_is_name F)) (fun _ _ _ _ _ _ us hl => match us, hl with | [_], _ => rfl)
/-! are_names -/
def m_are_names : MS := (mRet (mAndV (mCall g_is_row [] (mCons (mVar 0) (mCons (mVar 1) (mCons (mVar 2) mNil)))) (mCl gAll (mCons (mFin fzT (mLc [3] (mItS2 (mVar 0)) (gNm 3) mYes (mCall g_is_name [] (mCons (mVar 3) mNil)))) mNil))))
set_option synthInstance.maxHeartbeats 400000 in
set_option synthInstance.maxSize 4000 in
instance i_are_names : KpR (m_are_names) := by unfold m_are_names; infer_instance
def g_are_names : GL := arO 3 (fnP 4 m_are_names)
instance : KpL g_are_names := by unfold g_are_names; infer_instance
theorem S_are_names : FnScope ["value", "least", "most", "name"] ["value", "least", "most"] (defScope (top 17)) := ⟨rfl, rfl, rfl, by decide +kernel, rfl, by decide +kernel, by decide +kernel⟩
theorem t_are_names (F : Fx P w K mg) (C_is_name : Cal P w K mg base 1 "is_name" (top 13) ["value"] g_is_name) (C_is_row : Cal P w K mg base 2 "is_row" (top 12) ["value", "least", "most"] g_is_row) : BodyD P w K mg base ["value", "least", "most", "name"] 2 ("are_names", none) "are_names" (top 17) m_are_names := by
  intro cdv A outer s H E hG hr hcv tk
  have S := S_are_names
  exact (jss_one (js_ret (je_and (je_cal tk hG (hr.mono (by omega)) rfl C_is_row (ja_cons (je_var 0 (pv 0)) (ja_cons (je_var 1 (pv 1)) (ja_cons (je_var 2 (pv 2)) ja_nil)))) (je_one (je_callB (cAll rfl) rfl F.f_all boot_all (ja_cons (je_lc keeps_fz rfl S.nd (ji_seq2 (je_var 0 (pv 0))) (blkOk_by (own := [("name", 3)]) (by kernel_rfl)) rfl (fun s H C cl fp => (jg_name 3 (pg_name S.nd rfl (by first | exact .inl rfl | exact .inr rfl)) (by decide))) (fun s H C cl fp => jts_nil) (fun s H C cl fp => (je_cal tkN hG (hr.mono (by omega)) rfl C_is_name (ja_cons (je_var 3 (pv 3)) ja_nil)))) ja_nil))))))
theorem C_are_names (F : Fx P w K mg) (hg : mg "are_names" = some (.ref (He.fAd K ("are_names", none)))) (hf : ∃ fd, FunD K "are_names" "are_names" (defArgs (top 17)) (defBody (top 17)) (defScope (top 17)) [] [] (He.fAd K ("are_names", none)) fd) (C_is_name : Cal P w K mg base 1 "is_name" (top 13) ["value"] g_is_name) (C_is_row : Cal P w K mg base 2 "is_row" (top 12) ["value", "least", "most"] g_is_row) : Cal P w K mg base 3 "are_names" (top 17) ["value", "least", "most"] g_are_names :=
  Cal.of hg (defP hf S_are_names 4 rfl (t_are_names F C_is_name C_is_row)) (fun _ _ _ _ _ _ us hl => match us, hl with | [_, _, _], _ => rfl)
/-! is_word -/
def m_is_word : MS := (mRet (mAndV (mCall g_is_name [] (mCons (mVar 0) mNil)) (mOp (gIn true) (mVar 0) (mC (.tup [.str [108, 111, 97, 100], .str [115, 116, 111, 114, 101], .str [99, 97, 108, 108], .str [103, 105, 118, 101], .str [103, 111], .str [105, 110], .str [97, 115, 107]])))))
set_option synthInstance.maxHeartbeats 400000 in
set_option synthInstance.maxSize 4000 in
instance i_is_word : KpR (m_is_word) := by unfold m_is_word; infer_instance
def g_is_word : GL := arO 1 (fnP 1 m_is_word)
instance : KpL g_is_word := by unfold g_is_word; infer_instance
theorem S_is_word : FnScope ["value"] ["value"] (defScope (top 14)) := ⟨rfl, rfl, rfl, by decide +kernel, rfl, by decide +kernel, by decide +kernel⟩
theorem t_is_word (F : Fx P w K mg) (C_is_name : Cal P w K mg base 1 "is_name" (top 13) ["value"] g_is_name) : BodyD P w K mg base ["value"] 1 ("is_word", none) "is_word" (top 14) m_is_word := by
  intro cdv A outer s H E hG hr hcv tk
  have S := S_is_word
  exact (jss_one (js_ret (je_and (je_cal tk hG (hr.mono (by omega)) rfl C_is_name (ja_cons (je_var 0 (pv 0)) ja_nil)) (je_one (je_cmp oNotIn (je_var 0 (pv 0)) (je_gtup (ts := [.str [108, 111, 97, 100], .str [115, 116, 111, 114, 101], .str [99, 97, 108, 108], .str [103, 105, 118, 101], .str [103, 111], .str [105, 110], .str [97, 115, 107]]) rfl F.k_RESERVED.1 F.k_RESERVED.2 (fun _ _ => (.cons (.str _) (.cons (.str _) (.cons (.str _) (.cons (.str _) (.cons (.str _) (.cons (.str _) (.cons (.str _) .nil))))))))) rfl)))))
theorem C_is_word (F : Fx P w K mg) (hg : mg "is_word" = some (.ref (He.fAd K ("is_word", none)))) (hf : ∃ fd, FunD K "is_word" "is_word" (defArgs (top 14)) (defBody (top 14)) (defScope (top 14)) [] [] (He.fAd K ("is_word", none)) fd) (C_is_name : Cal P w K mg base 1 "is_name" (top 13) ["value"] g_is_name) : Cal P w K mg base 2 "is_word" (top 14) ["value"] g_is_word :=
  Cal.of hg (defP hf S_is_word 1 rfl (t_is_word F C_is_name)) (fun _ _ _ _ _ _ us hl => match us, hl with | [_], _ => rfl)
/-! is_ascending -/
def m_is_ascending : MS := (mRet (mCl gAll (mCons (mFin fzT (mLc [1, 2] (mIt (mCons (mVar 0) (mCons (mSl fzT (mVar 0) (mPS (mC (.int 1))) mPN) mNil)) itZ) (gTp 2 (gsCons (gNm 1) (gsCons (gNm 2) gsNil))) mYes (mOp gLt (mVar 1) (mVar 2)))) mNil)))
set_option synthInstance.maxHeartbeats 400000 in
set_option synthInstance.maxSize 4000 in
instance i_is_ascending : KpR (m_is_ascending) := by unfold m_is_ascending; infer_instance
def g_is_ascending : GL := arO 1 (fnP 3 m_is_ascending)
instance : KpL g_is_ascending := by unfold g_is_ascending; infer_instance
theorem S_is_ascending : FnScope ["rows", "one", "other"] ["rows"] (defScope (top 15)) := ⟨rfl, rfl, rfl, by decide +kernel, rfl, by decide +kernel, by decide +kernel⟩
theorem t_is_ascending (F : Fx P w K mg) : BodyD P w K mg base ["rows", "one", "other"] 0 ("is_ascending", none) "is_ascending" (top 15) m_is_ascending := by
  intro cdv A outer s H E hG hr hcv tk
  have S := S_is_ascending
  exact (jss_one (js_ret (je_callB (cAll rfl) rfl F.f_all boot_all (ja_cons (je_lc keeps_fz rfl S.nd (ji_zip rfl F.f_zip (ja_cons (je_var 0 (pv 0)) (ja_cons (je_slice lays_fz (je_var 0 (pv 0)) (jo_some je_int) jo_none) ja_nil))) (blkOk_by (own := [("one", 1), ("other", 2)]) (by kernel_rfl)) rfl (fun s H C cl fp => (jg_tup rfl (jgs_cons (jg_name 1 (pg_name S.nd rfl (by first | exact .inl rfl | exact .inr rfl)) (by decide)) (jgs_cons (jg_name 2 (pg_name S.nd rfl (by first | exact .inl rfl | exact .inr rfl)) (by decide)) jgs_nil)))) (fun s H C cl fp => jts_nil) (fun s H C cl fp => (je_cmp oLt (je_var 1 (pv 1)) (je_var 2 (pv 2)) (nomark _)))) ja_nil))))
theorem C_is_ascending (F : Fx P w K mg) (hg : mg "is_ascending" = some (.ref (He.fAd K ("is_ascending", none)))) (hf : ∃ fd, FunD K "is_ascending" "is_ascending" (defArgs (top 15)) (defBody (top 15)) (defScope (top 15)) [] [] (He.fAd K ("is_ascending", none)) fd) : Cal P w K mg base 1 "is_ascending" (top 15) ["rows"] g_is_ascending :=
  Cal.of hg (defP hf S_is_ascending 3 rfl (t_is_ascending F)) (fun _ _ _ _ _ _ us hl => match us, hl with | [_], _ => rfl)
/-! are_unlike -/
def m_are_unlike : MS := (mRet (mOp gEq (mLenSet (mVar 0)) (mCl gLen (mCons (mVar 0) mNil))))
set_option synthInstance.maxHeartbeats 400000 in
set_option synthInstance.maxSize 4000 in
instance i_are_unlike : KpR (m_are_unlike) := by unfold m_are_unlike; infer_instance
def g_are_unlike : GL := arO 1 (fnP 1 m_are_unlike)
instance : KpL g_are_unlike := by unfold g_are_unlike; infer_instance
theorem S_are_unlike : FnScope ["rows"] ["rows"] (defScope (top 16)) := ⟨rfl, rfl, rfl, by decide +kernel, rfl, by decide +kernel, by decide +kernel⟩
theorem t_are_unlike (F : Fx P w K mg) : BodyD P w K mg base ["rows"] 0 ("are_unlike", none) "are_unlike" (top 16) m_are_unlike := by
  intro cdv A outer s H E hG hr hcv tk
  have S := S_are_unlike
  exact (jss_one (js_ret (je_cmp (oEq (unitsOf64 hr)) (je_lenSet rfl rfl F.f_len rfl F.f_set (je_var 0 (pv 0))) (je_callB cLen rfl F.f_len boot_len (ja_cons (je_var 0 (pv 0)) ja_nil)) (nomark _))))
theorem C_are_unlike (F : Fx P w K mg) (hg : mg "are_unlike" = some (.ref (He.fAd K ("are_unlike", none)))) (hf : ∃ fd, FunD K "are_unlike" "are_unlike" (defArgs (top 16)) (defBody (top 16)) (defScope (top 16)) [] [] (He.fAd K ("are_unlike", none)) fd) : Cal P w K mg base 1 "are_unlike" (top 16) ["rows"] g_are_unlike :=
  Cal.of hg (defP hf S_are_unlike 1 rfl (t_are_unlike F)) (fun _ _ _ _ _ _ us hl => match us, hl with | [_], _ => rfl)
/-! law -/
def q_law_1 : MS := (mPar2 3 4 (mCons (mCall (g__law_thing 6) [] (mCons (mVar 1) (mCons (mC (.int 2)) mNil))) (mCons (mCall (g__law_thing 6) [] (mCons (mVar 1) (mCons (mC (.int 3)) mNil))) mNil)))
set_option synthInstance.maxHeartbeats 400000 in
set_option synthInstance.maxSize 4000 in
instance : KpR q_law_1 := by unfold q_law_1; infer_instance
def q_law_2 : MS := (mSet 5 (mCl gLst (mCons (mCl (gExv 7310868735422914882 xns0) (mCons (mVar 3) mNil)) (mCons (mCl (gExv 2110234346299031052610 xns1) (mCons (mVar 3) mNil)) (mCons (mCl (gExv 133507968132003860404527426 xns2) (mCons (mVar 3) mNil)) (mCons (mCl (gExv 28559193059647810 xns3) (mCons (mVar 3) mNil)) (mCons (mCl (gExv 2110240263840328868162 xns4) (mCons (mVar 3) mNil)) (mCons (mCl (gExv 28273320204198210 xns5) (mCons (mVar 3) mNil)) (mCons (mCl (gExv 111520458370894 xns6) (mCons (mVar 3) mNil)) (mCons (mCl (gExv 127996039227725 xns7) (mCons (mVar 3) mNil)) (mCons (mCl (gExv 29113321604280142 xns8) (mCons (mVar 3) mNil)) (mCons (mCl (gExv 32783473901330754 xns9) (mCons (mVar 3) (mCons (mVar 4) mNil))) (mCons (mCl (gExv 34179836372021076 xns10) (mCons (mVar 3) (mCons (mVar 4) mNil))) (mCons (mCl (gExv 131320007385410 xns11) (mCons (mVar 3) (mCons (mVar 4) (mCons (mC (.int 5)) mNil)))) mNil))))))))))))))
set_option synthInstance.maxHeartbeats 400000 in
set_option synthInstance.maxSize 4000 in
instance : KpR q_law_2 := by unfold q_law_2; infer_instance
def q_law_3 : MS := (mSet 6 (mCl gLst (mCons (mUn (gFlE efs0 1953653104) (mOp gIx (mVar 5) (mC (.int 0)))) (mCons (mUn (gFlE efs0 1953653104) (mOp gIx (mVar 5) (mC (.int 1)))) (mCons (mUn (gFlE efs1 517097156201) (mOp gIx (mVar 5) (mC (.int 2)))) (mCons (mUn (gFlE efs2 1702260589) (mOp gIx (mVar 5) (mC (.int 3)))) (mCons (mUn (gFlE efs3 125780121316961) (mOp gIx (mVar 5) (mC (.int 4)))) (mCons (mUn (gFlE efs4 1685221239) (mOp gIx (mVar 5) (mC (.int 5)))) (mCons (mUn (gFlE efs5 1701667182) (mOp gIx (mVar 5) (mC (.int 6)))) (mCons (mUn (gFlE efs0 1953653104) (mOp gIx (mVar 5) (mC (.int 7)))) (mCons (mUn (gFlE efs4 1685221239) (mOp gIx (mVar 5) (mC (.int 8)))) (mCons (mUn (gFlE efs6 1701734764) (mOp gIx (mVar 5) (mC (.int 9)))) (mCons (mUn (gFlE efs7 1952540791) (mOp gIx (mVar 5) (mC (.int 10)))) (mCons (mUn (gFlE efs8 7957695015192261990) (mOp gIx (mVar 5) (mC (.int 11)))) mNil))))))))))))))
set_option synthInstance.maxHeartbeats 400000 in
set_option synthInstance.maxSize 4000 in
instance : KpR q_law_3 := by unfold q_law_3; infer_instance
def q_law_4 : MS := (mIfS (mOr (mTst (mOp gNe (mCl gRepr (mCons (mVar 6) mNil)) (mCl gRepr (mCons (mOp (gMul fzT) (mCl gLst (mCons (mVar 3) mNil)) (mC (.int 12))) mNil)))) (mTst (mOp gNe (mCl gRepr (mCons (mCl gLst (mCons (mUn (gFlE efs4 1685221239) (mOp gIx (mVar 5) (mC (.int 9)))) (mCons (mUn (gFlE efs9 1953722221) (mOp gIx (mVar 5) (mC (.int 10)))) (mCons (mUn (gFlE efs10 461229747298) (mOp gIx (mVar 5) (mC (.int 11)))) (mCons (mUn (gFlE efs11 7827314) (mOp gIx (mVar 5) (mC (.int 11)))) mNil))))) mNil)) (mCl gRepr (mCons (mCl gLst (mCons (mVar 4) (mCons (mVar 4) (mCons (mVar 4) (mCons (mC (.int 5)) mNil))))) mNil)))))
  (mRet (mC (.bl false)))
  mNext)
set_option synthInstance.maxHeartbeats 400000 in
set_option synthInstance.maxSize 4000 in
instance : KpR q_law_4 := by unfold q_law_4; infer_instance
def q_law_5 : MS := (mSet 9 (mCl gLst (mCons (mCl (gIsi isc0 ist0) (mCons (mVar 8) (mCons (mC (.cls 7310868735422914882)) mNil))) (mCons (mCl (gIsi isc0 ist0) (mCons (mVar 8) (mCons (mC (.cls 2110234346299031052610)) mNil))) (mCons (mCl (gIsi isc0 ist0) (mCons (mVar 8) (mCons (mC (.cls 133507968132003860404527426)) mNil))) (mCons (mCl (gIsi isc0 ist0) (mCons (mVar 8) (mCons (mC (.cls 28559193059647810)) mNil))) (mCons (mCl (gIsi isc0 ist0) (mCons (mVar 8) (mCons (mC (.cls 2110240263840328868162)) mNil))) (mCons (mCl (gIsi isc0 ist0) (mCons (mVar 8) (mCons (mC (.cls 28273320204198210)) mNil))) mNil))))))))
set_option synthInstance.maxHeartbeats 400000 in
set_option synthInstance.maxSize 4000 in
instance : KpR q_law_5 := by unfold q_law_5; infer_instance
def q_law_6 : MS := (mSet 9 (mOp (gAdd fzT) (mVar 9) (mCl gLst (mCons (mCl (gIsi isc0 ist0) (mCons (mVar 8) (mCons (mC (.cls 111520458370894)) mNil))) (mCons (mCl (gIsi isc0 ist0) (mCons (mVar 8) (mCons (mC (.cls 127996039227725)) mNil))) (mCons (mCl (gIsi isc0 ist0) (mCons (mVar 8) (mCons (mC (.cls 29113321604280142)) mNil))) (mCons (mCl (gIsi isc0 ist0) (mCons (mVar 8) (mCons (mC (.cls 32783473901330754)) mNil))) (mCons (mCl (gIsi isc0 ist0) (mCons (mVar 8) (mCons (mC (.cls 34179836372021076)) mNil))) (mCons (mCl (gIsi isc0 ist0) (mCons (mVar 8) (mCons (mC (.cls 131320007385410)) mNil))) mNil)))))))))
set_option synthInstance.maxHeartbeats 400000 in
set_option synthInstance.maxSize 4000 in
instance : KpR q_law_6 := by unfold q_law_6; infer_instance
def q_law_7 : MS := (mIfS (mOr (mTst (mOp gNe (mVar 9) (mFin fzT (mLc [10] (mIt (mCons (mC (.int 12)) mNil) itR1) (gNm 10) mYes (mOp gEq (mVar 10) (mVar 7)))))) (mOr (mNot (mTru (mCl (gIsi isc0 ist0) (mCons (mVar 8) (mCons (mC (.cls 540405614369503915828548)) mNil))))) (mNot (mTru (mCl (gIsi isc0 ist0) (mCons (mVar 8) (mCons (mC (.ty 8)) mNil)))))))
  (mRet (mC (.bl false)))
  mNext)
set_option synthInstance.maxHeartbeats 400000 in
set_option synthInstance.maxSize 4000 in
instance : KpR q_law_7 := by unfold q_law_7; infer_instance
def q_law_8 : MS := (mFor (mIt (mCons (mVar 5) mNil) itE) (gTp 2 (gsCons (gNm 7) (gsCons (gNm 8) gsNil)))
  (mSeq (q_law_5)
  (mSeq (q_law_6)
  (q_law_7))))
set_option synthInstance.maxHeartbeats 400000 in
set_option synthInstance.maxSize 4000 in
instance : KpR q_law_8 := by unfold q_law_8; infer_instance
def q_law_9 : MS := (mPar2 11 12 (mCons (mCall (g__law_fixed 6) [] (mCons (mVar 3) mNil)) (mCons (mCall (g__law_fixed 6) [] (mCons (mVar 4) mNil)) mNil)))
set_option synthInstance.maxHeartbeats 400000 in
set_option synthInstance.maxSize 4000 in
instance : KpR q_law_9 := by unfold q_law_9; infer_instance
def q_law_10 : MS := (mIfS (mOr (mTst (mOp gNe (mCl gRepr (mCons (mCl gLst (mCons (mCall (g_fixed 6) [] (mCons (mVar 3) mNil)) (mCons (mCallK 0 1 [0] (g_fixed 6) mNil (mCons (mVar 4) mNil)) mNil))) mNil)) (mCl gRepr (mCons (mCl gLst (mCons (mVar 11) (mCons (mVar 12) mNil))) mNil)))) (mOr (mTst (mOp gNe (mCall (g_is_same 6) [] (mCons (mVar 11) (mCons (mVar 12) mNil))) (mOp gEq (mCl gRepr (mCons (mVar 11) mNil)) (mCl gRepr (mCons (mVar 12) mNil))))) (mTst (mOp gIsNot (mCallK 0 2 [0, 1] (g_is_same 6) mNil (mCons (mVar 11) (mCons (mVar 11) mNil))) (mC (.bl true))))))
  (mRet (mC (.bl false)))
  mNext)
set_option synthInstance.maxHeartbeats 400000 in
set_option synthInstance.maxSize 4000 in
instance : KpR q_law_10 := by unfold q_law_10; infer_instance
def q_law_11 : MS := (mSet 13 (mCl gLst (mCons (mMk makeP 491328135504 g_Paper____init__ [] (mCons (mC (.str [97])) (mCons (mVar 3) (mCons (mC (.int 5)) mNil)))) (mCons (mMk makeP 119165636470084 g_Paper____init__ [] (mCons (mC (.str [97])) (mCons (mVar 3) (mCons (mC (.int 5)) mNil)))) (mCons (mMk makeP 491328135504 g_Paper____init__ [] (mCons (mC (.str [98])) (mCons (mVar 3) (mCons (mC (.int 5)) mNil)))) (mCons (mMk makeP 491328135504 g_Paper____init__ [] (mCons (mC (.str [97])) (mCons (mVar 3) mNil))) mNil))))))
set_option synthInstance.maxHeartbeats 400000 in
set_option synthInstance.maxSize 4000 in
instance : KpR q_law_11 := by unfold q_law_11; infer_instance
def q_law_12 : MS := (mIfS (mOr (mTst (mOp gNe (mCl gRepr (mCons (mCl gLst (mCons (mUn (gFld ocs0 1685221239) (mOp gIx (mVar 13) (mC (.int 0)))) (mCons (mUn (gFld ocs1 495874892144) (mOp gIx (mVar 13) (mC (.int 0)))) mNil))) mNil)) (mCl gRepr (mCons (mCl gLst (mCons (mC (.str [97])) (mCons (mCl gTup (mCons (mVar 11) (mCons (mC (.int 5)) mNil))) mNil))) mNil)))) (mOr (mTst (mOp gNe (mFin fzT (mLc [14] (mItS2 (mVar 13)) (gNm 14) mYes (mCl (gBool tab0) (mCons (mVar 14) mNil)))) (mCl gLst (mCons (mC (.bl true)) (mCons (mC (.bl false)) (mCons (mC (.bl true)) (mCons (mC (.bl true)) mNil))))))) (mTst (mOp gNe (mFin fzT (mLc [14] (mItS2 (mSl fzT (mVar 13) (mPS (mC (.int 1))) mPN)) (gNm 14) mYes (mOp (gEqO tab1 eqp0) (mVar 14) (mOp gIx (mVar 13) (mC (.int 0)))))) (mOp (gMul fzT) (mCl gLst (mCons (mC (.bl false)) mNil)) (mC (.int 3)))))))
  (mRet (mC (.bl false)))
  mNext)
set_option synthInstance.maxHeartbeats 400000 in
set_option synthInstance.maxSize 4000 in
instance : KpR q_law_12 := by unfold q_law_12; infer_instance
def q_law_13 : MS := (mPar2 15 16 (mCons (mCall g__law_is_number [] (mCons (mVar 3) mNil)) (mCons (mOp gSub (mCall g__law_draw [] (mCons (mVar 1) (mCons (mC (.int 5)) mNil))) (mC (.int 2))) mNil)))
set_option synthInstance.maxHeartbeats 400000 in
set_option synthInstance.maxSize 4000 in
instance : KpR q_law_13 := by unfold q_law_13; infer_instance
def q_law_14 : MS := (mIfS (mTst (mOp gNe (mCl gLst (mCons (mCall g_is_integer [] (mCons (mVar 3) mNil)) (mCons (mCall g_is_within [] (mCons (mVar 3) (mCons (mVar 16) (mCons (mOp (gAdd fzT) (mVar 16) (mC (.int 3))) mNil)))) (mCons (mCall g_is_listed [] (mCons (mVar 4) mNil)) (mCons (mCall g_is_row [] (mCons (mVar 4) (mCons (mC (.int 1)) (mCons (mC (.int 2)) mNil)))) mNil))))) (mCl gLst (mCons (mVar 15) (mCons (mAndV (mVar 15) (mChain gLeS gLeS (mVar 16) (mVar 3) (mOp (gAdd fzT) (mVar 16) (mC (.int 3))))) (mCons (mCl (gIsi isc0 ist0) (mCons (mVar 4) (mCons (mCl gTup (mCons (mC (.ty 4)) (mCons (mC (.ty 5)) mNil))) mNil))) (mCons (mAndV (mCl (gIsi isc0 ist0) (mCons (mVar 4) (mCons (mCl gTup (mCons (mC (.ty 4)) (mCons (mC (.ty 5)) mNil))) mNil))) (mChain gLeS gLeS (mC (.int 1)) (mCl gLen (mCons (mVar 4) mNil)) (mC (.int 2)))) mNil)))))))
  (mRet (mC (.bl false)))
  mNext)
set_option synthInstance.maxHeartbeats 400000 in
set_option synthInstance.maxSize 4000 in
instance : KpR q_law_14 := by unfold q_law_14; infer_instance
def q_law_15 : MS := (mSet 17 (mJoin (mC (.str [])) (mFin fzT (mLc [10] (mIt (mCons (mCall g__law_draw [] (mCons (mVar 1) (mCons (mC (.int 10)) mNil))) mNil) itR1) (gNm 10) mYes (mIf (mTst (mOp gEq (mCall g__law_draw [] (mCons (mVar 1) (mCons (mC (.int 9)) mNil))) (mC (.int 0)))) (mCall g__law_pick [] (mCons (mVar 1) (mCons (mC (.str [97, 98, 121, 122, 48, 65, 95, 32])) mNil))) (mCall g__law_pick [] (mCons (mVar 1) (mCons (mC (.str [97, 109, 122])) mNil))))))))
set_option synthInstance.maxHeartbeats 400000 in
set_option synthInstance.maxSize 4000 in
instance : KpR q_law_15 := by unfold q_law_15; infer_instance
def q_law_16 : MS := (mSet 18 (mAndV (mChain gLeS gLeS (mC (.int 1)) (mCl gLen (mCons (mVar 17) mNil)) (mC (.int 8))) (mOp gEq (mFin fzT (mLc [19] (mItS2 (mVar 17)) (gNm 19) (mNot (mTst (mChain gLeS gLeS (mC (.str [97])) (mVar 19) (mC (.str [122]))))) (mVar 19))) (mCl gLst mNil))))
set_option synthInstance.maxHeartbeats 400000 in
set_option synthInstance.maxSize 4000 in
instance : KpR q_law_16 := by unfold q_law_16; infer_instance
def q_law_17 : MS := (mSet 20 (mCall g__law_pick [] (mCons (mVar 1) (mCons (mCl gLst (mCons (mC (.str [108, 111, 97, 100])) (mCons (mC (.str [115, 116, 111, 114, 101])) (mCons (mC (.str [99, 97, 108, 108])) (mCons (mC (.str [103, 105, 118, 101])) (mCons (mC (.str [103, 111])) (mCons (mC (.str [105, 110])) (mCons (mC (.str [97, 115, 107])) mNil)))))))) mNil))))
set_option synthInstance.maxHeartbeats 400000 in
set_option synthInstance.maxSize 4000 in
instance : KpR q_law_17 := by unfold q_law_17; infer_instance
def q_law_18 : MS := (mIfS (mOr (mTst (mOp gNe (mCl gLst (mCons (mCall g_is_name [] (mCons (mVar 17) mNil)) (mCons (mCall g_is_word [] (mCons (mVar 17) mNil)) (mCons (mCall g_is_name [] (mCons (mVar 20) mNil)) (mCons (mCall g_is_word [] (mCons (mVar 20) mNil)) (mCons (mCall g_is_word [] (mCons (mOp (gAdd fzT) (mVar 20) (mC (.str [115]))) mNil)) (mCons (mAndV (mCall g_is_name [] (mCons (mVar 3) mNil)) (mOp gNe (mVar 3) (mC (.str [97])))) mNil))))))) (mCl gLst (mCons (mVar 18) (mCons (mVar 18) (mCons (mC (.bl true)) (mCons (mC (.bl false)) (mCons (mC (.bl true)) (mCons (mC (.bl false)) mNil))))))))) (mOr (mTst (mOp gNe (mCall g_are_names [] (mCons (mCl gLst (mCons (mVar 17) (mCons (mC (.str [97])) mNil))) (mCons (mC (.int 1)) (mCons (mC (.int 2)) mNil)))) (mVar 18))) (mTst (mOp gIsNot (mCall g_are_names [] (mCons (mCl gTup (mCons (mVar 17) mNil)) (mCons (mC (.int 2)) (mCons (mC (.int 3)) mNil)))) (mC (.bl false))))))
  (mRet (mC (.bl false)))
  mNext)
set_option synthInstance.maxHeartbeats 400000 in
set_option synthInstance.maxSize 4000 in
instance : KpR q_law_18 := by unfold q_law_18; infer_instance
def q_law_19 : MS := (mSet 21 (mFin fzT (mLc [10] (mIt (mCons (mCall g__law_draw [] (mCons (mVar 1) (mCons (mC (.int 4)) mNil))) mNil) itR1) (gNm 10) mYes (mCall g__law_draw [] (mCons (mVar 1) (mCons (mC (.int 4)) mNil))))))
set_option synthInstance.maxHeartbeats 400000 in
set_option synthInstance.maxSize 4000 in
instance : KpR q_law_19 := by unfold q_law_19; infer_instance
def q_law_20 : MS := (mIfS (mTst (mOp gNe (mCl gLst (mCons (mCall g_is_ascending [] (mCons (mVar 21) mNil)) (mCons (mCall g_are_unlike [] (mCons (mVar 21) mNil)) mNil))) (mCl gLst (mCons (mOp gEq (mVar 21) (mSortSet fzT (mVar 21))) (mCons (mOp gEq (mLenSet (mVar 21)) (mCl gLen (mCons (mVar 21) mNil))) mNil)))))
  (mRet (mC (.bl false)))
  mNext)
set_option synthInstance.maxHeartbeats 400000 in
set_option synthInstance.maxSize 4000 in
instance : KpR q_law_20 := by unfold q_law_20; infer_instance
def q_law_21 : MS := (mFor (mIt (mCons (mC (.int 8)) mNil) itR1) (gNm 2)
  (mSeq (q_law_1)
  (mSeq (q_law_2)
  (mSeq (q_law_3)
  (mSeq (q_law_4)
  (mSeq (q_law_8)
  (mSeq (q_law_9)
  (mSeq (q_law_10)
  (mSeq (q_law_11)
  (mSeq (q_law_12)
  (mSeq (q_law_13)
  (mSeq (q_law_14)
  (mSeq (q_law_15)
  (mSeq (q_law_16)
  (mSeq (q_law_17)
  (mSeq (q_law_18)
  (mSeq (q_law_19)
  (q_law_20))))))))))))))))))
set_option synthInstance.maxHeartbeats 400000 in
set_option synthInstance.maxSize 4000 in
instance : KpR q_law_21 := by unfold q_law_21; infer_instance
def m_law : MS := (mSeq (mSet 1 (mCall g__law_pen [] (mCons (mVar 0) mNil)))
  (mSeq (q_law_21)
  (mRet (mC (.bl true)))))
def g_law : GL := arO 1 (fnK 22 m_law)
theorem S_law : FnScope ["script", "pen", "turn", "one", "other", "some", "told", "at", "error", "kinds", "spot", "its", "due", "papers", "paper", "whole", "least", "name", "is_so", "sign", "kept", "rows"] ["script"] (defScope (top 39)) := ⟨rfl, rfl, rfl, by decide +kernel, rfl, by decide +kernel, by decide +kernel⟩
theorem t_law (F : Fx P w K mg) (C__law_pen : Cal P w K mg base 1 "_law_pen" (top 33) ["script"] g__law_pen) (C__law_thing : Cal P w K mg base 7 "_law_thing" (top 37) ["pen", "deep"] (g__law_thing 6)) (C__law_fixed : Cal P w K mg base 6 "_law_fixed" (top 38) ["value"] (g__law_fixed 6)) (C_is_same : Cal P w K mg base 9 "is_same" (top 2) ["one", "other"] (g_is_same 6)) (C_fixed : Cal P w K mg base 6 "fixed" (top 1) ["value"] (g_fixed 6)) (D_Paper____init__ : FnS P w K mg base (L2.CX P w) 7 (He.fAd K (nmS 491328135504, some (nmS 6872339552563453791))) (spS ⟨K, w⟩ g_Paper____init__)) (D_Paper____eq__ : DefK P w K mg base 10 (nmS 491328135504, some (nmS 104863529000799)) "__eq__" "Paper.__eq__" (subSt (top 3) 1) [] ["self", "other"] g_Paper____eq__) (D_Paper____bool__ : DefK P w K mg base 1 (nmS 491328135504, some (nmS 6872330782256553823)) "__bool__" "Paper.__bool__" (subSt (top 3) 2) [] ["self"] g_Paper____bool__) (D_Denial____bool__ : DefK P w K mg base 1 (nmS 119165636470084, some (nmS 6872330782256553823)) "__bool__" "Denial.__bool__" (subSt (top 4) 0) [] ["self"] g_Denial____bool__) (C__law_is_number : Cal P w K mg base 1 "_law_is_number" (top 36) ["value"] g__law_is_number) (C__law_draw : Cal P w K mg base 1 "_law_draw" (top 34) ["pen", "many"] g__law_draw) (C_is_integer : Cal P w K mg base 1 "is_integer" (top 9) ["value"] g_is_integer) (C_is_within : Cal P w K mg base 2 "is_within" (top 10) ["value", "least", "most"] g_is_within) (C_is_listed : Cal P w K mg base 1 "is_listed" (top 11) ["value"] g_is_listed) (C_is_row : Cal P w K mg base 2 "is_row" (top 12) ["value", "least", "most"] g_is_row) (C__law_pick : Cal P w K mg base 2 "_law_pick" (top 35) ["pen", "some"] g__law_pick) (C_are_names : Cal P w K mg base 3 "are_names" (top 17) ["value", "least", "most"] g_are_names) (C_is_name : Cal P w K mg base 1 "is_name" (top 13) ["value"] g_is_name) (C_is_word : Cal P w K mg base 2 "is_word" (top 14) ["value"] g_is_word) (C_is_ascending : Cal P w K mg base 1 "is_ascending" (top 15) ["rows"] g_is_ascending) (C_are_unlike : Cal P w K mg base 1 "are_unlike" (top 16) ["rows"] g_are_unlike) : BodyD P w K mg base ["script", "pen", "turn", "one", "other", "some", "told", "at", "error", "kinds", "spot", "its", "due", "papers", "paper", "whole", "least", "name", "is_so", "sign", "kept", "rows"] 10 ("law", none) "law" (top 39) m_law := by
  intro cdv A outer s H E hG hr hcv tk
  have S := S_law
  exact (jss_cons (js_set S.nd rfl (by first | exact .inl rfl | exact .inr rfl) (je_cal tk hG (hr.mono (by omega)) rfl C__law_pen (ja_cons (je_var 0 (pv 0)) ja_nil)))
  (jss_cons (js_for (vs := [2]) (passes_of rfl) rfl (ji_range1 rfl F.f_range (ja_cons je_int ja_nil)) (jg_name 2 (pg_name S.nd rfl (by first | exact .inl rfl | exact .inr rfl)) (by decide))
  (jss_cons (js_par2 rfl S.nd rfl rfl (by decide) rfl rfl (ja_cons (je_cal tk hG (hr.mono (by omega)) rfl C__law_thing (ja_cons (je_var 1 (pv 1)) (ja_cons je_int ja_nil))) (ja_cons (je_cal tk hG (hr.mono (by omega)) rfl C__law_thing (ja_cons (je_var 1 (pv 1)) (ja_cons je_int ja_nil))) ja_nil)))
  (jss_cons (js_set S.nd rfl (by first | exact .inl rfl | exact .inr rfl) (je_lst (ja_cons (je_exv (by decide +kernel) F.ex_BadValue F.f_super (hr.mono (by omega)) rfl (cgl2 (by decide +kernel) F.cg_BadValue) (ja_cons (je_var 3 (pv 3)) ja_nil)) (ja_cons (je_exv (by decide +kernel) F.ex_BadNumber F.f_super (hr.mono (by omega)) rfl (cgl2 (by decide +kernel) F.cg_BadNumber) (ja_cons (je_var 3 (pv 3)) ja_nil)) (ja_cons (je_exv (by decide +kernel) F.ex_BadFunction F.f_super (hr.mono (by omega)) rfl (cgl2 (by decide +kernel) F.cg_BadFunction) (ja_cons (je_var 3 (pv 3)) ja_nil)) (ja_cons (je_exv (by decide +kernel) F.ex_BadMove F.f_super (hr.mono (by omega)) rfl (cgl2 (by decide +kernel) F.cg_BadMove) (ja_cons (je_var 3 (pv 3)) ja_nil)) (ja_cons (je_exv (by decide +kernel) F.ex_BadAnswer F.f_super (hr.mono (by omega)) rfl (cgl2 (by decide +kernel) F.cg_BadAnswer) (ja_cons (je_var 3 (pv 3)) ja_nil)) (ja_cons (je_exv (by decide +kernel) F.ex_BadWord F.f_super (hr.mono (by omega)) rfl (cgl2 (by decide +kernel) F.cg_BadWord) (ja_cons (je_var 3 (pv 3)) ja_nil)) (ja_cons (je_exv (by decide +kernel) F.ex_NoName F.f_super (hr.mono (by omega)) rfl (cgl2 (by decide +kernel) F.cg_NoName) (ja_cons (je_var 3 (pv 3)) ja_nil)) (ja_cons (je_exv (by decide +kernel) F.ex_Misfit F.f_super (hr.mono (by omega)) rfl (cgl2 (by decide +kernel) F.cg_Misfit) (ja_cons (je_var 3 (pv 3)) ja_nil)) (ja_cons (je_exv (by decide +kernel) F.ex_Nothing F.f_super (hr.mono (by omega)) rfl (cgl2 (by decide +kernel) F.cg_Nothing) (ja_cons (je_var 3 (pv 3)) ja_nil)) (ja_cons (je_exv (by decide +kernel) F.ex_BadText F.f_super (hr.mono (by omega)) rfl (cgl2 (by decide +kernel) F.cg_BadText) (ja_cons (je_var 3 (pv 3)) (ja_cons (je_var 4 (pv 4)) ja_nil))) (ja_cons (je_exv (by decide +kernel) F.ex_TooMany F.f_super (hr.mono (by omega)) rfl (cgl2 (by decide +kernel) F.cg_TooMany) (ja_cons (je_var 3 (pv 3)) (ja_cons (je_var 4 (pv 4)) ja_nil))) (ja_cons (je_exv (by decide +kernel) F.ex_BadRow F.f_super (hr.mono (by omega)) rfl (cgl2 (by decide +kernel) F.cg_BadRow) (ja_cons (je_var 3 (pv 3)) (ja_cons (je_var 4 (pv 4)) (ja_cons je_int ja_nil)))) ja_nil))))))))))))))
  (jss_cons (js_set S.nd rfl (by first | exact .inl rfl | exact .inr rfl) (je_lst (ja_cons (je_flE (f := 1953653104) (by decide +kernel) F.ef_part (je_ix (je_var 5 (pv 5)) je_int)) (ja_cons (je_flE (f := 1953653104) (by decide +kernel) F.ef_part (je_ix (je_var 5 (pv 5)) je_int)) (ja_cons (je_flE (f := 517097156201) (by decide +kernel) F.ef_index (je_ix (je_var 5 (pv 5)) je_int)) (ja_cons (je_flE (f := 1702260589) (by decide +kernel) F.ef_move (je_ix (je_var 5 (pv 5)) je_int)) (ja_cons (je_flE (f := 125780121316961) (by decide +kernel) F.ef_answer (je_ix (je_var 5 (pv 5)) je_int)) (ja_cons (je_flE (f := 1685221239) (by decide +kernel) F.ef_word (je_ix (je_var 5 (pv 5)) je_int)) (ja_cons (je_flE (f := 1701667182) (by decide +kernel) F.ef_name (je_ix (je_var 5 (pv 5)) je_int)) (ja_cons (je_flE (f := 1953653104) (by decide +kernel) F.ef_part (je_ix (je_var 5 (pv 5)) je_int)) (ja_cons (je_flE (f := 1685221239) (by decide +kernel) F.ef_word (je_ix (je_var 5 (pv 5)) je_int)) (ja_cons (je_flE (f := 1701734764) (by decide +kernel) F.ef_line (je_ix (je_var 5 (pv 5)) je_int)) (ja_cons (je_flE (f := 1952540791) (by decide +kernel) F.ef_what (je_ix (je_var 5 (pv 5)) je_int)) (ja_cons (je_flE (f := 7957695015192261990) (by decide +kernel) F.ef_function (je_ix (je_var 5 (pv 5)) je_int)) ja_nil))))))))))))))
  (jss_cons (js_if (jt_w (jw_or (jt_cmp (oNe (unitsOf64 hr)) (je_callB (cRepr hG (unitsOf hr)) rfl F.f_repr boot_repr (ja_cons (je_var 6 (pv 6)) ja_nil)) (je_callB (cRepr hG (unitsOf hr)) rfl F.f_repr boot_repr (ja_cons (je_op (oMul lays_fz) (je_lst (ja_cons (je_var 3 (pv 3)) ja_nil)) je_int) ja_nil)) (nomark _)) (jw_or1 (jt_cmp (oNe (unitsOf64 hr)) (je_callB (cRepr hG (unitsOf hr)) rfl F.f_repr boot_repr (ja_cons (je_lst (ja_cons (je_flE (f := 1685221239) (by decide +kernel) F.ef_word (je_ix (je_var 5 (pv 5)) je_int)) (ja_cons (je_flE (f := 1953722221) (by decide +kernel) F.ef_most (je_ix (je_var 5 (pv 5)) je_int)) (ja_cons (je_flE (f := 461229747298) (by decide +kernel) F.ef_block (je_ix (je_var 5 (pv 5)) je_int)) (ja_cons (je_flE (f := 7827314) (by decide +kernel) F.ef_row (je_ix (je_var 5 (pv 5)) je_int)) ja_nil))))) ja_nil)) (je_callB (cRepr hG (unitsOf hr)) rfl F.f_repr boot_repr (ja_cons (je_lst (ja_cons (je_var 4 (pv 4)) (ja_cons (je_var 4 (pv 4)) (ja_cons (je_var 4 (pv 4)) (ja_cons je_int ja_nil))))) ja_nil)) (nomark _)))))
  (jss_one (js_ret je_bl))
  jss_nil)
  (jss_cons (js_for (vs := [7, 8]) (passes_of rfl) rfl (ji_enum rfl F.f_enumerate (ja_cons (je_var 5 (pv 5)) ja_nil)) (jg_tup rfl (jgs_cons (jg_name 7 (pg_name S.nd rfl (by first | exact .inl rfl | exact .inr rfl)) (by decide)) (jgs_cons (jg_name 8 (pg_name S.nd rfl (by first | exact .inl rfl | exact .inr rfl)) (by decide)) jgs_nil)))
  (jss_cons (js_set S.nd rfl (by first | exact .inl rfl | exact .inr rfl) (je_lst (ja_cons (je_callB (cIsi F.isc F.ist) rfl F.f_isinstance boot_isinstance (ja_cons (je_var 8 (pv 8)) (ja_cons (je_gcls (c := 7310868735422914882) (by decide +kernel) rfl (cgl (by decide +kernel) F.cg_BadValue)) ja_nil))) (ja_cons (je_callB (cIsi F.isc F.ist) rfl F.f_isinstance boot_isinstance (ja_cons (je_var 8 (pv 8)) (ja_cons (je_gcls (c := 2110234346299031052610) (by decide +kernel) rfl (cgl (by decide +kernel) F.cg_BadNumber)) ja_nil))) (ja_cons (je_callB (cIsi F.isc F.ist) rfl F.f_isinstance boot_isinstance (ja_cons (je_var 8 (pv 8)) (ja_cons (je_gcls (c := 133507968132003860404527426) (by decide +kernel) rfl (cgl (by decide +kernel) F.cg_BadFunction)) ja_nil))) (ja_cons (je_callB (cIsi F.isc F.ist) rfl F.f_isinstance boot_isinstance (ja_cons (je_var 8 (pv 8)) (ja_cons (je_gcls (c := 28559193059647810) (by decide +kernel) rfl (cgl (by decide +kernel) F.cg_BadMove)) ja_nil))) (ja_cons (je_callB (cIsi F.isc F.ist) rfl F.f_isinstance boot_isinstance (ja_cons (je_var 8 (pv 8)) (ja_cons (je_gcls (c := 2110240263840328868162) (by decide +kernel) rfl (cgl (by decide +kernel) F.cg_BadAnswer)) ja_nil))) (ja_cons (je_callB (cIsi F.isc F.ist) rfl F.f_isinstance boot_isinstance (ja_cons (je_var 8 (pv 8)) (ja_cons (je_gcls (c := 28273320204198210) (by decide +kernel) rfl (cgl (by decide +kernel) F.cg_BadWord)) ja_nil))) ja_nil))))))))
  (jss_cons (js_set S.nd rfl (by first | exact .inl rfl | exact .inr rfl) (je_op (oAdd lays_fz) (je_var 9 (pv 9)) (je_lst (ja_cons (je_callB (cIsi F.isc F.ist) rfl F.f_isinstance boot_isinstance (ja_cons (je_var 8 (pv 8)) (ja_cons (je_gcls (c := 111520458370894) (by decide +kernel) rfl (cgl (by decide +kernel) F.cg_NoName)) ja_nil))) (ja_cons (je_callB (cIsi F.isc F.ist) rfl F.f_isinstance boot_isinstance (ja_cons (je_var 8 (pv 8)) (ja_cons (je_gcls (c := 127996039227725) (by decide +kernel) rfl (cgl (by decide +kernel) F.cg_Misfit)) ja_nil))) (ja_cons (je_callB (cIsi F.isc F.ist) rfl F.f_isinstance boot_isinstance (ja_cons (je_var 8 (pv 8)) (ja_cons (je_gcls (c := 29113321604280142) (by decide +kernel) rfl (cgl (by decide +kernel) F.cg_Nothing)) ja_nil))) (ja_cons (je_callB (cIsi F.isc F.ist) rfl F.f_isinstance boot_isinstance (ja_cons (je_var 8 (pv 8)) (ja_cons (je_gcls (c := 32783473901330754) (by decide +kernel) rfl (cgl (by decide +kernel) F.cg_BadText)) ja_nil))) (ja_cons (je_callB (cIsi F.isc F.ist) rfl F.f_isinstance boot_isinstance (ja_cons (je_var 8 (pv 8)) (ja_cons (je_gcls (c := 34179836372021076) (by decide +kernel) rfl (cgl (by decide +kernel) F.cg_TooMany)) ja_nil))) (ja_cons (je_callB (cIsi F.isc F.ist) rfl F.f_isinstance boot_isinstance (ja_cons (je_var 8 (pv 8)) (ja_cons (je_gcls (c := 131320007385410) (by decide +kernel) rfl (cgl (by decide +kernel) F.cg_BadRow)) ja_nil))) ja_nil)))))))))
  (jss_one (js_if (jt_w (jw_or (jt_cmp (oNe (unitsOf64 hr)) (je_var 9 (pv 9)) (je_lc keeps_fz rfl S.nd (ji_range1 rfl F.f_range (ja_cons je_int ja_nil)) (blkOk_by (own := [("spot", 10)]) (by kernel_rfl)) rfl (fun s H C cl fp => (jg_name 10 (pg_name S.nd rfl (by first | exact .inl rfl | exact .inr rfl)) (by decide))) (fun s H C cl fp => jts_nil) (fun s H C cl fp => (je_cmp (oEq (unitsOf64 hr)) (je_var 10 (pv 10)) (je_var 7 (pv 7)) (nomark _)))) (nomark _)) (jw_or (jt_not (jt_tru (je_callB (cIsi F.isc F.ist) rfl F.f_isinstance boot_isinstance (ja_cons (je_var 8 (pv 8)) (ja_cons (je_gcls (c := 540405614369503915828548) (by decide +kernel) rfl (cgl (by decide +kernel) F.cg_DepthError)) ja_nil))))) (jw_or1 (jt_not (jt_tru (je_callB (cIsi F.isc F.ist) rfl F.f_isinstance boot_isinstance (ja_cons (je_var 8 (pv 8)) (ja_cons (je_ty (n := 8) rfl rfl F.f_ValueError boot_ValueError) ja_nil)))))))))
  (jss_one (js_ret je_bl))
  jss_nil)))))
  (jss_cons (js_par2 rfl S.nd rfl rfl (by decide) rfl rfl (ja_cons (je_cal tk hG (hr.mono (by omega)) rfl C__law_fixed (ja_cons (je_var 3 (pv 3)) ja_nil)) (ja_cons (je_cal tk hG (hr.mono (by omega)) rfl C__law_fixed (ja_cons (je_var 4 (pv 4)) ja_nil)) ja_nil)))
  (jss_cons (js_if (jt_w (jw_or (jt_cmp (oNe (unitsOf64 hr)) (je_callB (cRepr hG (unitsOf hr)) rfl F.f_repr boot_repr (ja_cons (je_lst (ja_cons (je_cal tk hG (hr.mono (by omega)) rfl C_fixed (ja_cons (je_var 3 (pv 3)) ja_nil)) (ja_cons (je_calK0 (ks := ["value"]) (ix := [0]) tk hG (hr.mono (by omega)) rfl C_fixed (fun _ _ _ _ _ _ us ws hl hw => match us, ws, hl, hw with | [], [_], _, _ => rfl) (jk_cons (je_var 4 (pv 4)) jk_nil)) ja_nil))) ja_nil)) (je_callB (cRepr hG (unitsOf hr)) rfl F.f_repr boot_repr (ja_cons (je_lst (ja_cons (je_var 11 (pv 11)) (ja_cons (je_var 12 (pv 12)) ja_nil))) ja_nil)) (nomark _)) (jw_or (jt_cmp (oNe (unitsOf64 hr)) (je_cal tk hG (hr.mono (by omega)) rfl C_is_same (ja_cons (je_var 11 (pv 11)) (ja_cons (je_var 12 (pv 12)) ja_nil))) (je_cmp (oEq (unitsOf64 hr)) (je_callB (cRepr hG (unitsOf hr)) rfl F.f_repr boot_repr (ja_cons (je_var 11 (pv 11)) ja_nil)) (je_callB (cRepr hG (unitsOf hr)) rfl F.f_repr boot_repr (ja_cons (je_var 12 (pv 12)) ja_nil)) (nomark _)) (nomark _)) (jw_or1 (jt_cmp oIsNot (je_calK0 (ks := ["one", "other"]) (ix := [0, 1]) tk hG (hr.mono (by omega)) rfl C_is_same (fun _ _ _ _ _ _ us ws hl hw => match us, ws, hl, hw with | [], [_, _], _, _ => rfl) (jk_cons (je_var 11 (pv 11)) (jk_cons (je_var 11 (pv 11)) jk_nil))) je_bl (nomark _))))))
  (jss_one (js_ret je_bl))
  jss_nil)
  (jss_cons (js_set S.nd rfl (by first | exact .inl rfl | exact .inr rfl) (je_lst (ja_cons (je_mkS lkC_lkX (by decide +kernel) tk hG (hr.mono (by omega)) rfl ⟨F.cg_Paper, _, F.mk_Paper, D_Paper____init__⟩ (ja_cons (je_str [97]) (ja_cons (je_var 3 (pv 3)) (ja_cons je_int ja_nil)))) (ja_cons (je_mkS lkC_lkX (by decide +kernel) tk hG (hr.mono (by omega)) rfl ⟨F.cg_Denial, _, F.mk_Denial, D_Paper____init__⟩ (ja_cons (je_str [97]) (ja_cons (je_var 3 (pv 3)) (ja_cons je_int ja_nil)))) (ja_cons (je_mkS lkC_lkX (by decide +kernel) tk hG (hr.mono (by omega)) rfl ⟨F.cg_Paper, _, F.mk_Paper, D_Paper____init__⟩ (ja_cons (je_str [98]) (ja_cons (je_var 3 (pv 3)) (ja_cons je_int ja_nil)))) (ja_cons (je_mkS lkC_lkX (by decide +kernel) tk hG (hr.mono (by omega)) rfl ⟨F.cg_Paper, _, F.mk_Paper, D_Paper____init__⟩ (ja_cons (je_str [97]) (ja_cons (je_var 3 (pv 3)) ja_nil))) ja_nil))))))
  (jss_cons (js_if (jt_w (jw_or (jt_cmp (oNe (unitsOf64 hr)) (je_callB (cRepr hG (unitsOf hr)) rfl F.f_repr boot_repr (ja_cons (je_lst (ja_cons (je_fld (f := 1685221239) (by decide +kernel) F.fl_word (je_ix (je_var 13 (pv 13)) je_int)) (ja_cons (je_fld (f := 495874892144) (by decide +kernel) F.fl_parts (je_ix (je_var 13 (pv 13)) je_int)) ja_nil))) ja_nil)) (je_callB (cRepr hG (unitsOf hr)) rfl F.f_repr boot_repr (ja_cons (je_lst (ja_cons (je_str [97]) (ja_cons (je_tup (ja_cons (je_var 11 (pv 11)) (ja_cons je_int ja_nil))) ja_nil))) ja_nil)) (nomark _)) (jw_or (jt_cmp (oNe (unitsOf64 hr)) (je_lc keeps_fz rfl S.nd (ji_seq2 (je_var 13 (pv 13))) (blkOk_by (own := [("paper", 14)]) (by kernel_rfl)) rfl (fun s H C cl fp => (jg_name 14 (pg_name S.nd rfl (by first | exact .inl rfl | exact .inr rfl)) (by decide))) (fun s H C cl fp => jts_nil) (fun s H C cl fp => (je_callT (cBool (m := 6872330782256553823) (k := 1) (by decide +kernel) tkN hG (hr.mono (by omega)) (cnds_cons (Cnd.mono (k := 1) (by omega) (Cnd.of F.me_Paper___bool__ D_Paper____bool__ (fun _ _ _ _ _ _ us hl => match us, hl with | [_], _ => rfl))) (cnds_cons (Cnd.mono (k := 1) (by omega) (Cnd.of F.me_Denial___bool__ D_Denial____bool__ (fun _ _ _ _ _ _ us hl => match us, hl with | [_], _ => rfl))) cnds_nil))) rfl F.f_bool boot_bool (ja_cons (je_var 14 (pv 14)) ja_nil)))) (je_lst (ja_cons je_bl (ja_cons je_bl (ja_cons je_bl (ja_cons je_bl ja_nil))))) (nomark _)) (jw_or1 (jt_cmp (oNe (unitsOf64 hr)) (je_lc keeps_fz rfl S.nd (ji_seq2 (je_slice lays_fz (je_var 13 (pv 13)) (jo_some je_int) jo_none)) (blkOk_by (own := [("paper", 14)]) (by kernel_rfl)) rfl (fun s H C cl fp => (jg_name 14 (pg_name S.nd rfl (by first | exact .inl rfl | exact .inr rfl)) (by decide))) (fun s H C cl fp => jts_nil) (fun s H C cl fp => (je_cmp (oEqO (m := 104863529000799) (k := 10) (by decide +kernel) tkN hG (hr.mono (by omega)) (unitsOf64 hr) (cnds_cons (Cnd.mono (k := 10) (by omega) (Cnd.of F.me_Paper___eq__ D_Paper____eq__ (fun _ _ _ _ _ _ us hl => match us, hl with | [_, _], _ => rfl))) (cnds_cons (Cnd.mono (k := 10) (by omega) (Cnd.of F.me_Denial___eq__ D_Paper____eq__ (fun _ _ _ _ _ _ us hl => match us, hl with | [_, _], _ => rfl))) cnds_nil)) F.eqp) (je_var 14 (pv 14)) (je_ix (je_var 13 (pv 13)) je_int) (nomark _)))) (je_op (oMul lays_fz) (je_lst (ja_cons je_bl ja_nil)) je_int) (nomark _))))))
  (jss_one (js_ret je_bl))
  jss_nil)
  (jss_cons (js_par2 rfl S.nd rfl rfl (by decide) rfl rfl (ja_cons (je_cal tk hG (hr.mono (by omega)) rfl C__law_is_number (ja_cons (je_var 3 (pv 3)) ja_nil)) (ja_cons (je_op oSub (je_cal tk hG (hr.mono (by omega)) rfl C__law_draw (ja_cons (je_var 1 (pv 1)) (ja_cons je_int ja_nil))) je_int) ja_nil)))
  (jss_cons (js_if (jt_cmp (oNe (unitsOf64 hr)) (je_lst (ja_cons (je_cal tk hG (hr.mono (by omega)) rfl C_is_integer (ja_cons (je_var 3 (pv 3)) ja_nil)) (ja_cons (je_cal tk hG (hr.mono (by omega)) rfl C_is_within (ja_cons (je_var 3 (pv 3)) (ja_cons (je_var 16 (pv 16)) (ja_cons (je_op (oAdd lays_fz) (je_var 16 (pv 16)) je_int) ja_nil)))) (ja_cons (je_cal tk hG (hr.mono (by omega)) rfl C_is_listed (ja_cons (je_var 4 (pv 4)) ja_nil)) (ja_cons (je_cal tk hG (hr.mono (by omega)) rfl C_is_row (ja_cons (je_var 4 (pv 4)) (ja_cons je_int (ja_cons je_int ja_nil)))) ja_nil))))) (je_lst (ja_cons (je_var 15 (pv 15)) (ja_cons (je_and (je_var 15 (pv 15)) (je_one (je_chain oLeS oLeS (je_var 16 (pv 16)) (je_var 3 (pv 3)) (je_op (oAdd lays_fz) (je_var 16 (pv 16)) je_int)))) (ja_cons (je_callB (cIsi F.isc F.ist) rfl F.f_isinstance boot_isinstance (ja_cons (je_var 4 (pv 4)) (ja_cons (je_tup (ja_cons (je_ty (n := 4) rfl rfl F.f_list boot_list) (ja_cons (je_ty (n := 5) rfl rfl F.f_tuple boot_tuple) ja_nil))) ja_nil))) (ja_cons (je_and (je_callB (cIsi F.isc F.ist) rfl F.f_isinstance boot_isinstance (ja_cons (je_var 4 (pv 4)) (ja_cons (je_tup (ja_cons (je_ty (n := 4) rfl rfl F.f_list boot_list) (ja_cons (je_ty (n := 5) rfl rfl F.f_tuple boot_tuple) ja_nil))) ja_nil))) (je_one (je_chain oLeS oLeS je_int (je_callB cLen rfl F.f_len boot_len (ja_cons (je_var 4 (pv 4)) ja_nil)) je_int))) ja_nil))))) (nomark _))
  (jss_one (js_ret je_bl))
  jss_nil)
  (jss_cons (js_set S.nd rfl (by first | exact .inl rfl | exact .inr rfl) (je_join (je_str []) (je_lc keeps_fz rfl S.nd (ji_range1 rfl F.f_range (ja_cons (je_cal tk hG (hr.mono (by omega)) rfl C__law_draw (ja_cons (je_var 1 (pv 1)) (ja_cons je_int ja_nil))) ja_nil)) (blkOk_by (own := [("spot", 10)]) (by kernel_rfl)) rfl (fun s H C cl fp => (jg_name 10 (pg_name S.nd rfl (by first | exact .inl rfl | exact .inr rfl)) (by decide))) (fun s H C cl fp => jts_nil) (fun s H C cl fp => (je_if (jt_cmp (oEq (unitsOf64 hr)) (je_cal tkN hG (hr.mono (by omega)) rfl C__law_draw (ja_cons (je_var 1 (pv 1)) (ja_cons je_int ja_nil))) je_int (nomark _)) (je_cal tkN hG (hr.mono (by omega)) rfl C__law_pick (ja_cons (je_var 1 (pv 1)) (ja_cons (je_str [97, 98, 121, 122, 48, 65, 95, 32]) ja_nil))) (je_cal tkN hG (hr.mono (by omega)) rfl C__law_pick (ja_cons (je_var 1 (pv 1)) (ja_cons (je_str [97, 109, 122]) ja_nil))))))))
  (jss_cons (js_set S.nd rfl (by first | exact .inl rfl | exact .inr rfl) (je_and (je_chain oLeS oLeS je_int (je_callB cLen rfl F.f_len boot_len (ja_cons (je_var 17 (pv 17)) ja_nil)) je_int) (je_one (je_cmp (oEq (unitsOf64 hr)) (je_lc keeps_fz rfl S.nd (ji_seq2 (je_var 17 (pv 17))) (blkOk_by (own := [("sign", 19)]) (by kernel_rfl)) rfl (fun s H C cl fp => (jg_name 19 (pg_name S.nd rfl (by first | exact .inl rfl | exact .inr rfl)) (by decide))) (fun s H C cl fp => (jts_one (jt_not (jt_chain oLeS oLeS (je_str [97]) (je_var 19 (pv 19)) (je_str [122]))))) (fun s H C cl fp => (je_var 19 (pv 19)))) (je_lst ja_nil) (nomark _)))))
  (jss_cons (js_set S.nd rfl (by first | exact .inl rfl | exact .inr rfl) (je_cal tk hG (hr.mono (by omega)) rfl C__law_pick (ja_cons (je_var 1 (pv 1)) (ja_cons (je_lst (ja_cons (je_str [108, 111, 97, 100]) (ja_cons (je_str [115, 116, 111, 114, 101]) (ja_cons (je_str [99, 97, 108, 108]) (ja_cons (je_str [103, 105, 118, 101]) (ja_cons (je_str [103, 111]) (ja_cons (je_str [105, 110]) (ja_cons (je_str [97, 115, 107]) ja_nil)))))))) ja_nil))))
  (jss_cons (js_if (jt_w (jw_or (jt_cmp (oNe (unitsOf64 hr)) (je_lst (ja_cons (je_cal tk hG (hr.mono (by omega)) rfl C_is_name (ja_cons (je_var 17 (pv 17)) ja_nil)) (ja_cons (je_cal tk hG (hr.mono (by omega)) rfl C_is_word (ja_cons (je_var 17 (pv 17)) ja_nil)) (ja_cons (je_cal tk hG (hr.mono (by omega)) rfl C_is_name (ja_cons (je_var 20 (pv 20)) ja_nil)) (ja_cons (je_cal tk hG (hr.mono (by omega)) rfl C_is_word (ja_cons (je_var 20 (pv 20)) ja_nil)) (ja_cons (je_cal tk hG (hr.mono (by omega)) rfl C_is_word (ja_cons (je_op (oAdd lays_fz) (je_var 20 (pv 20)) (je_str [115])) ja_nil)) (ja_cons (je_and (je_cal tk hG (hr.mono (by omega)) rfl C_is_name (ja_cons (je_var 3 (pv 3)) ja_nil)) (je_one (je_cmp (oNe (unitsOf64 hr)) (je_var 3 (pv 3)) (je_str [97]) (nomark _)))) ja_nil))))))) (je_lst (ja_cons (je_var 18 (pv 18)) (ja_cons (je_var 18 (pv 18)) (ja_cons je_bl (ja_cons je_bl (ja_cons je_bl (ja_cons je_bl ja_nil))))))) (nomark _)) (jw_or (jt_cmp (oNe (unitsOf64 hr)) (je_cal tk hG (hr.mono (by omega)) rfl C_are_names (ja_cons (je_lst (ja_cons (je_var 17 (pv 17)) (ja_cons (je_str [97]) ja_nil))) (ja_cons je_int (ja_cons je_int ja_nil)))) (je_var 18 (pv 18)) (nomark _)) (jw_or1 (jt_cmp oIsNot (je_cal tk hG (hr.mono (by omega)) rfl C_are_names (ja_cons (je_tup (ja_cons (je_var 17 (pv 17)) ja_nil)) (ja_cons je_int (ja_cons je_int ja_nil)))) je_bl (nomark _))))))
  (jss_one (js_ret je_bl))
  jss_nil)
  (jss_cons (js_setLc keeps_fz rfl S.nd rfl rfl (sw_true rfl rfl rfl rfl) (ji_range1 rfl F.f_range (ja_cons (je_cal tk hG (hr.mono (by omega)) rfl C__law_draw (ja_cons (je_var 1 (pv 1)) (ja_cons je_int ja_nil))) ja_nil)) (blkOk_by (own := [("spot", 10)]) (by kernel_rfl)) rfl (fun s H C cl fp => (jg_name 10 (pg_name S.nd rfl (by first | exact .inl rfl | exact .inr rfl)) (by decide))) (fun s H C cl fp => jts_nil) (fun s H C cl fp => (je_cal tkN hG (hr.mono (by omega)) rfl C__law_draw (ja_cons (je_var 1 (pv 1)) (ja_cons je_int ja_nil)))))
  (jss_one (js_if (jt_cmp (oNe (unitsOf64 hr)) (je_lst (ja_cons (je_cal tk hG (hr.mono (by omega)) rfl C_is_ascending (ja_cons (je_var 21 (pv 21)) ja_nil)) (ja_cons (je_cal tk hG (hr.mono (by omega)) rfl C_are_unlike (ja_cons (je_var 21 (pv 21)) ja_nil)) ja_nil))) (je_lst (ja_cons (je_cmp (oEq (unitsOf64 hr)) (je_var 21 (pv 21)) (je_sortSet lays_fz rfl rfl F.f_sorted rfl F.f_set (je_var 21 (pv 21))) (nomark _)) (ja_cons (je_cmp (oEq (unitsOf64 hr)) (je_lenSet rfl rfl F.f_len rfl F.f_set (je_var 21 (pv 21))) (je_callB cLen rfl F.f_len boot_len (ja_cons (je_var 21 (pv 21)) ja_nil)) (nomark _)) ja_nil))) (nomark _))
  (jss_one (js_ret je_bl))
  jss_nil)))))))))))))))))))
  (jss_one (js_ret je_bl))))
end
def d0 : He.DefD := ⟨("_law_pen", none), "_law_pen", "_law_pen", defArgs (top 33), defBody (top 33), defScope (top 33), [], []⟩
def d1 : He.DefD := ⟨("_law_draw", none), "_law_draw", "_law_draw", defArgs (top 34), defBody (top 34), defScope (top 34), [], []⟩
def d2 : He.DefD := ⟨("_law_thing", none), "_law_thing", "_law_thing", defArgs (top 37), defBody (top 37), defScope (top 37), [], []⟩
def d3 : He.DefD := ⟨("_law_fixed", none), "_law_fixed", "_law_fixed", defArgs (top 38), defBody (top 38), defScope (top 38), [], []⟩
def d4 : He.DefD := ⟨(nmS 491328135504, some (nmS 6872330782256553823)), "__bool__", "Paper.__bool__", defArgs (subSt (top 3) 2), defBody (subSt (top 3) 2), defScope (subSt (top 3) 2), [], []⟩
def d5 : He.DefD := ⟨(nmS 119165636470084, some (nmS 6872330782256553823)), "__bool__", "Denial.__bool__", defArgs (subSt (top 4) 0), defBody (subSt (top 4) 0), defScope (subSt (top 4) 0), [], []⟩
def d6 : He.DefD := ⟨("is_same", none), "is_same", "is_same", defArgs (top 2), defBody (top 2), defScope (top 2), [], []⟩
def d7 : He.DefD := ⟨("fixed", none), "fixed", "fixed", defArgs (top 1), defBody (top 1), defScope (top 1), [], []⟩
def d8 : He.DefD := ⟨(nmS 491328135504, some (nmS 6872339552563453791)), "__init__", "Paper.__init__", defArgs (subSt (top 3) 0), defBody (subSt (top 3) 0), defScope (subSt (top 3) 0), [], []⟩
def d9 : He.DefD := ⟨(nmS 491328135504, some (nmS 104863529000799)), "__eq__", "Paper.__eq__", defArgs (subSt (top 3) 1), defBody (subSt (top 3) 1), defScope (subSt (top 3) 1), [], []⟩
def d10 : He.DefD := ⟨("_law_is_number", none), "_law_is_number", "_law_is_number", defArgs (top 36), defBody (top 36), defScope (top 36), [], []⟩
def d11 : He.DefD := ⟨("is_integer", none), "is_integer", "is_integer", defArgs (top 9), defBody (top 9), defScope (top 9), [], []⟩
def d12 : He.DefD := ⟨("is_within", none), "is_within", "is_within", defArgs (top 10), defBody (top 10), defScope (top 10), [], []⟩
def d13 : He.DefD := ⟨("is_listed", none), "is_listed", "is_listed", defArgs (top 11), defBody (top 11), defScope (top 11), [], []⟩
def d14 : He.DefD := ⟨("is_row", none), "is_row", "is_row", defArgs (top 12), defBody (top 12), defScope (top 12), [], []⟩
def d15 : He.DefD := ⟨("_law_pick", none), "_law_pick", "_law_pick", defArgs (top 35), defBody (top 35), defScope (top 35), [], []⟩
def d16 : He.DefD := ⟨("is_name", none), "is_name", "is_name", defArgs (top 13), defBody (top 13), defScope (top 13), [], []⟩
def d17 : He.DefD := ⟨("are_names", none), "are_names", "are_names", defArgs (top 17), defBody (top 17), defScope (top 17), [], []⟩
def d18 : He.DefD := ⟨("is_word", none), "is_word", "is_word", defArgs (top 14), defBody (top 14), defScope (top 14), [], []⟩
def d19 : He.DefD := ⟨("is_ascending", none), "is_ascending", "is_ascending", defArgs (top 15), defBody (top 15), defScope (top 15), [], []⟩
def d20 : He.DefD := ⟨("are_unlike", none), "are_unlike", "are_unlike", defArgs (top 16), defBody (top 16), defScope (top 16), [], []⟩
def d21 : He.DefD := ⟨("law", none), "law", "law", defArgs (top 39), defBody (top 39), defScope (top 39), [], []⟩
def fn : List He.DefD := [d0, d1, d2, d3, d4, d5, d6, d7, d8, d9, d10, d11, d12, d13, d14, d15, d16, d17, d18, d19, d20, d21]
def x_BadValue : ExD := ⟨nmS 7310868735422914882, xns0.map nmS, "BadValue.__init__", defArgs (subSt (top 20) 0), defBody (subSt (top 20) 0), defScope (subSt (top 20) 0)⟩
def x_BadNumber : ExD := ⟨nmS 2110234346299031052610, xns1.map nmS, "BadNumber.__init__", defArgs (subSt (top 21) 0), defBody (subSt (top 21) 0), defScope (subSt (top 21) 0)⟩
def x_BadFunction : ExD := ⟨nmS 133507968132003860404527426, xns2.map nmS, "BadFunction.__init__", defArgs (subSt (top 22) 0), defBody (subSt (top 22) 0), defScope (subSt (top 22) 0)⟩
def x_BadMove : ExD := ⟨nmS 28559193059647810, xns3.map nmS, "BadMove.__init__", defArgs (subSt (top 24) 0), defBody (subSt (top 24) 0), defScope (subSt (top 24) 0)⟩
def x_BadAnswer : ExD := ⟨nmS 2110240263840328868162, xns4.map nmS, "BadAnswer.__init__", defArgs (subSt (top 25) 0), defBody (subSt (top 25) 0), defScope (subSt (top 25) 0)⟩
def x_BadWord : ExD := ⟨nmS 28273320204198210, xns5.map nmS, "BadWord.__init__", defArgs (subSt (top 26) 0), defBody (subSt (top 26) 0), defScope (subSt (top 26) 0)⟩
def x_NoName : ExD := ⟨nmS 111520458370894, xns6.map nmS, "NoName.__init__", defArgs (subSt (top 28) 0), defBody (subSt (top 28) 0), defScope (subSt (top 28) 0)⟩
def x_Misfit : ExD := ⟨nmS 127996039227725, xns7.map nmS, "Misfit.__init__", defArgs (subSt (top 29) 0), defBody (subSt (top 29) 0), defScope (subSt (top 29) 0)⟩
def x_Nothing : ExD := ⟨nmS 29113321604280142, xns8.map nmS, "Nothing.__init__", defArgs (subSt (top 30) 0), defBody (subSt (top 30) 0), defScope (subSt (top 30) 0)⟩
def x_BadText : ExD := ⟨nmS 32783473901330754, xns9.map nmS, "BadText.__init__", defArgs (subSt (top 27) 0), defBody (subSt (top 27) 0), defScope (subSt (top 27) 0)⟩
def x_TooMany : ExD := ⟨nmS 34179836372021076, xns10.map nmS, "TooMany.__init__", defArgs (subSt (top 31) 0), defBody (subSt (top 31) 0), defScope (subSt (top 31) 0)⟩
def x_BadRow : ExD := ⟨nmS 131320007385410, xns11.map nmS, "BadRow.__init__", defArgs (subSt (top 23) 0), defBody (subSt (top 23) 0), defScope (subSt (top 23) 0)⟩
def fa : List He.Fa := [.glo "_law_pen", .glo "_law_draw", .glo "_law_thing", .glo "_law_fixed", .glo "is_same", .glo "fixed", .glo "_law_is_number", .glo "is_integer", .glo "is_within", .glo "is_listed", .glo "is_row", .glo "_law_pick", .glo "is_name", .glo "are_names", .glo "is_word", .glo "is_ascending", .glo "are_unlike", .glo "law", .free "list", .free "range", .free "int", .free "len", .free "abs", .free "tuple", .free "super", .glo (nmS 7310868735422914882), .glo (nmS 2110234346299031052610), .glo (nmS 133507968132003860404527426), .glo (nmS 28559193059647810), .glo (nmS 2110240263840328868162), .glo (nmS 28273320204198210), .glo (nmS 111520458370894), .glo (nmS 127996039227725), .glo (nmS 29113321604280142), .glo (nmS 32783473901330754), .glo (nmS 34179836372021076), .glo (nmS 131320007385410), .free "repr", .free "enumerate", .free "isinstance", .free "ValueError", .glo (nmS 540405614369503915828548), .free "zip", .free "all", .free "bool", .glo (nmS 491328135504), .glo (nmS 119165636470084), .str "LETTERS" "abcdefghijklmnopqrstuvwxyz", .int "MOST_NAME" 8, .free "str", .glo "RESERVED", .free "set", .free "sorted"]
def tf : List He.Defn := []
def exs : List (PySem.W.Frag → Bool) := [fun K => ExD.ok K pfile x_BadValue, fun K => ExD.ok K pfile x_BadNumber, fun K => ExD.ok K pfile x_BadFunction, fun K => ExD.ok K pfile x_BadMove, fun K => ExD.ok K pfile x_BadAnswer, fun K => ExD.ok K pfile x_BadWord, fun K => ExD.ok K pfile x_NoName, fun K => ExD.ok K pfile x_Misfit, fun K => ExD.ok K pfile x_Nothing, fun K => ExD.ok K pfile x_BadText, fun K => ExD.ok K pfile x_TooMany, fun K => ExD.ok K pfile x_BadRow, fun K => efB K efs0 1953653104, fun K => efB K efs1 517097156201, fun K => efB K efs2 1702260589, fun K => efB K efs3 125780121316961, fun K => efB K efs4 1685221239, fun K => efB K efs5 1701667182, fun K => efB K efs6 1701734764, fun K => efB K efs7 1952540791, fun K => efB K efs8 7957695015192261990, fun K => efB K efs9 1953722221, fun K => efB K efs10 461229747298, fun K => efB K efs11 7827314, fun K => iscB K isc0, fun K => istB K ist0, fun K => methB K 119165636470084 6872330782256553823 (nmS 119165636470084), fun K => methB K 491328135504 6872330782256553823 (nmS 491328135504), fun K => fldB K ocs0 1685221239, fun K => fldB K ocs1 495874892144, fun K => mkB K 491328135504 (nmS 491328135504), fun K => mkB K 119165636470084 (nmS 491328135504), fun K => nmcB K ncs0, fun K => methB K 119165636470084 104863529000799 (nmS 491328135504), fun K => methB K 491328135504 104863529000799 (nmS 491328135504), fun K => eqpB K eqp0, fun K => He.tupB K "RESERVED" [.str "load", .str "store", .str "call", .str "give", .str "go", .str "in", .str "ask"]]
def ex : PySem.W.Frag → Bool := fun K => exs.all fun b => b K
theorem ex_at {K : PySem.W.Frag} (h : ex K = true) (i : Nat) {b : PySem.W.Frag → Bool} (hi : exs[i]? = some b) : b K = true := List.all_eq_true.mp h b (List.mem_of_getElem? hi)
def xds : List ExD := [x_BadValue, x_BadNumber, x_BadFunction, x_BadMove, x_BadAnswer, x_BadWord, x_NoName, x_Misfit, x_Nothing, x_BadText, x_TooMany, x_BadRow]
abbrev Pg : Program := PySem.Challenge.pw_anydepth_k00_errors_papers_checks
theorem fx_ok {w : World} {K : PySem.W.Frag} {mg : Str → Option Value} {h h0 : Heap} (X : K.In h) (G : h.Ns mainGlobals mg) (c : SaysM fa fn [] tf ex xds w h0 K) : Fx Pg w K mg := by
  constructor
  · exact He.free_ok X G (c.1.t.d.fact 18 (f := .free "list") rfl)
  · exact He.free_ok X G (c.1.t.d.fact 19 (f := .free "range") rfl)
  · exact He.free_ok X G (c.1.t.d.fact 20 (f := .free "int") rfl)
  · exact He.free_ok X G (c.1.t.d.fact 21 (f := .free "len") rfl)
  · exact He.free_ok X G (c.1.t.d.fact 22 (f := .free "abs") rfl)
  · exact He.free_ok X G (c.1.t.d.fact 23 (f := .free "tuple") rfl)
  · exact He.free_ok X G (c.1.t.d.fact 24 (f := .free "super") rfl)
  · exact ExD.exs (d := x_BadValue) (file := pfile) rfl (by decide +kernel) ⟨_, _, _, _, _, _, _, rfl, (.cons .nil), (.cons .nil), fun env => ⟨_, rfl⟩⟩ ⟨rfl, rfl, rfl, by decide +kernel, rfl, rfl, by decide +kernel⟩ ⟨_, rfl, rfl⟩ (fun _ _ _ _ _ _ _ us hl => match us, hl with | [_, _], _ => rfl) (by decide +kernel) (by decide +kernel) (by decide +kernel) (ex_at c.1.more 0 rfl) (c.exv 0)
  · exact He.glo_ok X G (c.1.t.d.fact 25 (f := .glo (nmS 7310868735422914882)) rfl)
  · exact ExD.exs (d := x_BadNumber) (file := pfile) rfl (by decide +kernel) ⟨_, _, _, _, _, _, _, rfl, (.cons .nil), (.cons .nil), fun env => ⟨_, rfl⟩⟩ ⟨rfl, rfl, rfl, by decide +kernel, rfl, rfl, by decide +kernel⟩ ⟨_, rfl, rfl⟩ (fun _ _ _ _ _ _ _ us hl => match us, hl with | [_, _], _ => rfl) (by decide +kernel) (by decide +kernel) (by decide +kernel) (ex_at c.1.more 1 rfl) (c.exv 1)
  · exact He.glo_ok X G (c.1.t.d.fact 26 (f := .glo (nmS 2110234346299031052610)) rfl)
  · exact ExD.exs (d := x_BadFunction) (file := pfile) rfl (by decide +kernel) ⟨_, _, _, _, _, _, _, rfl, (.cons .nil), (.cons .nil), fun env => ⟨_, rfl⟩⟩ ⟨rfl, rfl, rfl, by decide +kernel, rfl, rfl, by decide +kernel⟩ ⟨_, rfl, rfl⟩ (fun _ _ _ _ _ _ _ us hl => match us, hl with | [_, _], _ => rfl) (by decide +kernel) (by decide +kernel) (by decide +kernel) (ex_at c.1.more 2 rfl) (c.exv 2)
  · exact He.glo_ok X G (c.1.t.d.fact 27 (f := .glo (nmS 133507968132003860404527426)) rfl)
  · exact ExD.exs (d := x_BadMove) (file := pfile) rfl (by decide +kernel) ⟨_, _, _, _, _, _, _, rfl, (.cons .nil), (.cons .nil), fun env => ⟨_, rfl⟩⟩ ⟨rfl, rfl, rfl, by decide +kernel, rfl, rfl, by decide +kernel⟩ ⟨_, rfl, rfl⟩ (fun _ _ _ _ _ _ _ us hl => match us, hl with | [_, _], _ => rfl) (by decide +kernel) (by decide +kernel) (by decide +kernel) (ex_at c.1.more 3 rfl) (c.exv 3)
  · exact He.glo_ok X G (c.1.t.d.fact 28 (f := .glo (nmS 28559193059647810)) rfl)
  · exact ExD.exs (d := x_BadAnswer) (file := pfile) rfl (by decide +kernel) ⟨_, _, _, _, _, _, _, rfl, (.cons .nil), (.cons .nil), fun env => ⟨_, rfl⟩⟩ ⟨rfl, rfl, rfl, by decide +kernel, rfl, rfl, by decide +kernel⟩ ⟨_, rfl, rfl⟩ (fun _ _ _ _ _ _ _ us hl => match us, hl with | [_, _], _ => rfl) (by decide +kernel) (by decide +kernel) (by decide +kernel) (ex_at c.1.more 4 rfl) (c.exv 4)
  · exact He.glo_ok X G (c.1.t.d.fact 29 (f := .glo (nmS 2110240263840328868162)) rfl)
  · exact ExD.exs (d := x_BadWord) (file := pfile) rfl (by decide +kernel) ⟨_, _, _, _, _, _, _, rfl, (.cons .nil), (.cons .nil), fun env => ⟨_, rfl⟩⟩ ⟨rfl, rfl, rfl, by decide +kernel, rfl, rfl, by decide +kernel⟩ ⟨_, rfl, rfl⟩ (fun _ _ _ _ _ _ _ us hl => match us, hl with | [_, _], _ => rfl) (by decide +kernel) (by decide +kernel) (by decide +kernel) (ex_at c.1.more 5 rfl) (c.exv 5)
  · exact He.glo_ok X G (c.1.t.d.fact 30 (f := .glo (nmS 28273320204198210)) rfl)
  · exact ExD.exs (d := x_NoName) (file := pfile) rfl (by decide +kernel) ⟨_, _, _, _, _, _, _, rfl, (.cons .nil), (.cons .nil), fun env => ⟨_, rfl⟩⟩ ⟨rfl, rfl, rfl, by decide +kernel, rfl, rfl, by decide +kernel⟩ ⟨_, rfl, rfl⟩ (fun _ _ _ _ _ _ _ us hl => match us, hl with | [_, _], _ => rfl) (by decide +kernel) (by decide +kernel) (by decide +kernel) (ex_at c.1.more 6 rfl) (c.exv 6)
  · exact He.glo_ok X G (c.1.t.d.fact 31 (f := .glo (nmS 111520458370894)) rfl)
  · exact ExD.exs (d := x_Misfit) (file := pfile) rfl (by decide +kernel) ⟨_, _, _, _, _, _, _, rfl, (.cons .nil), (.cons .nil), fun env => ⟨_, rfl⟩⟩ ⟨rfl, rfl, rfl, by decide +kernel, rfl, rfl, by decide +kernel⟩ ⟨_, rfl, rfl⟩ (fun _ _ _ _ _ _ _ us hl => match us, hl with | [_, _], _ => rfl) (by decide +kernel) (by decide +kernel) (by decide +kernel) (ex_at c.1.more 7 rfl) (c.exv 7)
  · exact He.glo_ok X G (c.1.t.d.fact 32 (f := .glo (nmS 127996039227725)) rfl)
  · exact ExD.exs (d := x_Nothing) (file := pfile) rfl (by decide +kernel) ⟨_, _, _, _, _, _, _, rfl, (.cons .nil), (.cons .nil), fun env => ⟨_, rfl⟩⟩ ⟨rfl, rfl, rfl, by decide +kernel, rfl, rfl, by decide +kernel⟩ ⟨_, rfl, rfl⟩ (fun _ _ _ _ _ _ _ us hl => match us, hl with | [_, _], _ => rfl) (by decide +kernel) (by decide +kernel) (by decide +kernel) (ex_at c.1.more 8 rfl) (c.exv 8)
  · exact He.glo_ok X G (c.1.t.d.fact 33 (f := .glo (nmS 29113321604280142)) rfl)
  · exact ExD.exs (d := x_BadText) (file := pfile) rfl (by decide +kernel) ⟨_, _, _, _, _, _, _, rfl, (.cons (.cons .nil)), (.cons (.cons .nil)), fun env => ⟨_, rfl⟩⟩ ⟨rfl, rfl, rfl, by decide +kernel, rfl, rfl, by decide +kernel⟩ ⟨_, rfl, rfl⟩ (fun _ _ _ _ _ _ _ us hl => match us, hl with | [_, _, _], _ => rfl) (by decide +kernel) (by decide +kernel) (by decide +kernel) (ex_at c.1.more 9 rfl) (c.exv 9)
  · exact He.glo_ok X G (c.1.t.d.fact 34 (f := .glo (nmS 32783473901330754)) rfl)
  · exact ExD.exs (d := x_TooMany) (file := pfile) rfl (by decide +kernel) ⟨_, _, _, _, _, _, _, rfl, (.cons (.cons .nil)), (.cons (.cons .nil)), fun env => ⟨_, rfl⟩⟩ ⟨rfl, rfl, rfl, by decide +kernel, rfl, rfl, by decide +kernel⟩ ⟨_, rfl, rfl⟩ (fun _ _ _ _ _ _ _ us hl => match us, hl with | [_, _, _], _ => rfl) (by decide +kernel) (by decide +kernel) (by decide +kernel) (ex_at c.1.more 10 rfl) (c.exv 10)
  · exact He.glo_ok X G (c.1.t.d.fact 35 (f := .glo (nmS 34179836372021076)) rfl)
  · exact ExD.exs (d := x_BadRow) (file := pfile) rfl (by decide +kernel) ⟨_, _, _, _, _, _, _, rfl, (.cons (.cons (.cons .nil))), (.cons (.cons (.cons .nil))), fun env => ⟨_, rfl⟩⟩ ⟨rfl, rfl, rfl, by decide +kernel, rfl, rfl, by decide +kernel⟩ ⟨_, rfl, rfl⟩ (fun _ _ _ _ _ _ _ us hl => match us, hl with | [_, _, _, _], _ => rfl) (by decide +kernel) (by decide +kernel) (by decide +kernel) (ex_at c.1.more 11 rfl) (c.exv 11)
  · exact He.glo_ok X G (c.1.t.d.fact 36 (f := .glo (nmS 131320007385410)) rfl)
  · exact efB_ok (ex_at c.1.more 12 rfl)
  · exact efB_ok (ex_at c.1.more 13 rfl)
  · exact efB_ok (ex_at c.1.more 14 rfl)
  · exact efB_ok (ex_at c.1.more 15 rfl)
  · exact efB_ok (ex_at c.1.more 16 rfl)
  · exact efB_ok (ex_at c.1.more 17 rfl)
  · exact efB_ok (ex_at c.1.more 18 rfl)
  · exact efB_ok (ex_at c.1.more 19 rfl)
  · exact efB_ok (ex_at c.1.more 20 rfl)
  · exact efB_ok (ex_at c.1.more 21 rfl)
  · exact efB_ok (ex_at c.1.more 22 rfl)
  · exact efB_ok (ex_at c.1.more 23 rfl)
  · exact He.free_ok X G (c.1.t.d.fact 37 (f := .free "repr") rfl)
  · exact He.free_ok X G (c.1.t.d.fact 38 (f := .free "enumerate") rfl)
  · exact iscB_ok (ex_at c.1.more 24 rfl)
  · exact istB_ok (ex_at c.1.more 25 rfl)
  · exact He.free_ok X G (c.1.t.d.fact 39 (f := .free "isinstance") rfl)
  · exact He.free_ok X G (c.1.t.d.fact 40 (f := .free "ValueError") rfl)
  · exact He.glo_ok X G (c.1.t.d.fact 41 (f := .glo (nmS 540405614369503915828548)) rfl)
  · exact He.free_ok X G (c.1.t.d.fact 42 (f := .free "zip") rfl)
  · exact He.free_ok X G (c.1.t.d.fact 43 (f := .free "all") rfl)
  · exact methB_ok (ex_at c.1.more 26 rfl)
  · exact methB_ok (ex_at c.1.more 27 rfl)
  · exact He.free_ok X G (c.1.t.d.fact 44 (f := .free "bool") rfl)
  · exact fldB_ok (ex_at c.1.more 28 rfl)
  · exact fldB_ok (ex_at c.1.more 29 rfl)
  · exact mkB_ok (ex_at c.1.more 30 rfl)
  · exact He.glo_ok X G (c.1.t.d.fact 45 (f := .glo (nmS 491328135504)) rfl)
  · exact mkB_ok (ex_at c.1.more 31 rfl)
  · exact He.glo_ok X G (c.1.t.d.fact 46 (f := .glo (nmS 119165636470084)) rfl)
  · exact nmcB_ok (ex_at c.1.more 32 rfl)
  · exact methB_ok (ex_at c.1.more 33 rfl)
  · exact methB_ok (ex_at c.1.more 34 rfl)
  · exact eqpB_ok (ex_at c.1.more 35 rfl)
  · exact He.str_ok X G (c.1.t.d.fact 47 (f := .str "LETTERS" "abcdefghijklmnopqrstuvwxyz") rfl)
  · exact He.int_ok X G (c.1.t.d.fact 48 (f := .int "MOST_NAME" 8) rfl)
  · exact He.free_ok X G (c.1.t.d.fact 49 (f := .free "str") rfl)
  · exact ⟨He.glo_ok X G (c.1.t.d.fact 50 (f := .glo "RESERVED") rfl), tupB_at (ex_at c.1.more 36 rfl)⟩
  · exact He.free_ok X G (c.1.t.d.fact 51 (f := .free "set") rfl)
  · exact He.free_ok X G (c.1.t.d.fact 52 (f := .free "sorted") rfl)
theorem allDefs {w : World} {K : PySem.W.Frag} {mg : Str → Option Value} {h h0 : Heap} (X : K.In h) (G : h.Ns mainGlobals mg) (c : SaysM fa fn [] tf ex xds w h0 K) : ∃ fd, FunD K "law" "law" (defArgs (top 39)) (defBody (top 39)) (defScope (top 39)) [] [] (He.fAd K ("law", none)) fd ∧ ∀ base : Heap, DefM Pg w K mg base 11 (He.fAd K ("law", none)) fd ["script"] g_law := by
  have F := fx_ok X G c
  obtain ⟨fd, hfd⟩ := c.1.t.d.def_ 21 (d := d21) rfl
  refine ⟨fd, hfd, fun base => ?_⟩
  have C__law_pen := C__law_pen (P := Pg) (w := w) (base := base) F (He.glo_ok X G (c.1.t.d.fact 0 (f := .glo "_law_pen") rfl)) (c.1.t.d.def_ 0 (d := d0) rfl)
  have C__law_draw := C__law_draw (P := Pg) (w := w) (base := base) F (He.glo_ok X G (c.1.t.d.fact 1 (f := .glo "_law_draw") rfl)) (c.1.t.d.def_ 1 (d := d1) rfl)
  have C__law_thing := C__law_thing (P := Pg) (w := w) (base := base) F (He.glo_ok X G (c.1.t.d.fact 2 (f := .glo "_law_thing") rfl)) (c.1.t.d.def_ 2 (d := d2) rfl) C__law_draw 6
  have C__law_fixed := C__law_fixed (P := Pg) (w := w) (base := base) F (He.glo_ok X G (c.1.t.d.fact 3 (f := .glo "_law_fixed") rfl)) (c.1.t.d.def_ 3 (d := d3) rfl) 6
  have D_Paper____bool__ := D_Paper____bool__ (P := Pg) (w := w) (base := base) F (c.1.t.d.def_ 4 (d := d4) rfl)
  have D_Denial____bool__ := D_Denial____bool__ (P := Pg) (w := w) (base := base) F (c.1.t.d.def_ 5 (d := d5) rfl)
  have C_is_same := C_is_same (P := Pg) (w := w) (base := base) F (He.glo_ok X G (c.1.t.d.fact 4 (f := .glo "is_same") rfl)) (c.1.t.d.def_ 6 (d := d6) rfl) D_Paper____bool__ D_Denial____bool__ 6
  have C_fixed := C_fixed (P := Pg) (w := w) (base := base) F (He.glo_ok X G (c.1.t.d.fact 5 (f := .glo "fixed") rfl)) (c.1.t.d.def_ 7 (d := d7) rfl) 6
  have D_Paper____init__ := D_Paper____init__ (P := Pg) (w := w) (base := base) F (c.1.t.d.def_ 8 (d := d8) rfl) C_fixed
  have D_Paper____eq__ := D_Paper____eq__ (P := Pg) (w := w) (base := base) F (c.1.t.d.def_ 9 (d := d9) rfl) C_is_same
  have C__law_is_number := C__law_is_number (P := Pg) (w := w) (base := base) F (He.glo_ok X G (c.1.t.d.fact 6 (f := .glo "_law_is_number") rfl)) (c.1.t.d.def_ 10 (d := d10) rfl)
  have C_is_integer := C_is_integer (P := Pg) (w := w) (base := base) F (He.glo_ok X G (c.1.t.d.fact 7 (f := .glo "is_integer") rfl)) (c.1.t.d.def_ 11 (d := d11) rfl)
  have C_is_within := C_is_within (P := Pg) (w := w) (base := base) F (He.glo_ok X G (c.1.t.d.fact 8 (f := .glo "is_within") rfl)) (c.1.t.d.def_ 12 (d := d12) rfl) C_is_integer
  have C_is_listed := C_is_listed (P := Pg) (w := w) (base := base) F (He.glo_ok X G (c.1.t.d.fact 9 (f := .glo "is_listed") rfl)) (c.1.t.d.def_ 13 (d := d13) rfl)
  have C_is_row := C_is_row (P := Pg) (w := w) (base := base) F (He.glo_ok X G (c.1.t.d.fact 10 (f := .glo "is_row") rfl)) (c.1.t.d.def_ 14 (d := d14) rfl) C_is_listed
  have C__law_pick := C__law_pick (P := Pg) (w := w) (base := base) F (He.glo_ok X G (c.1.t.d.fact 11 (f := .glo "_law_pick") rfl)) (c.1.t.d.def_ 15 (d := d15) rfl) C__law_draw
  have C_is_name := C_is_name (P := Pg) (w := w) (base := base) F (He.glo_ok X G (c.1.t.d.fact 12 (f := .glo "is_name") rfl)) (c.1.t.d.def_ 16 (d := d16) rfl)
  have C_are_names := C_are_names (P := Pg) (w := w) (base := base) F (He.glo_ok X G (c.1.t.d.fact 13 (f := .glo "are_names") rfl)) (c.1.t.d.def_ 17 (d := d17) rfl) C_is_name C_is_row
  have C_is_word := C_is_word (P := Pg) (w := w) (base := base) F (He.glo_ok X G (c.1.t.d.fact 14 (f := .glo "is_word") rfl)) (c.1.t.d.def_ 18 (d := d18) rfl) C_is_name
  have C_is_ascending := C_is_ascending (P := Pg) (w := w) (base := base) F (He.glo_ok X G (c.1.t.d.fact 15 (f := .glo "is_ascending") rfl)) (c.1.t.d.def_ 19 (d := d19) rfl)
  have C_are_unlike := C_are_unlike (P := Pg) (w := w) (base := base) F (He.glo_ok X G (c.1.t.d.fact 16 (f := .glo "are_unlike") rfl)) (c.1.t.d.def_ 20 (d := d20) rfl)
  exact defKf (at_ := ("law", none)) hfd S_law 22 rfl (t_law F C__law_pen C__law_thing C__law_fixed C_is_same C_fixed D_Paper____init__ D_Paper____eq__ D_Paper____bool__ D_Denial____bool__ C__law_is_number C__law_draw C_is_integer C_is_within C_is_listed C_is_row C__law_pick C_are_names C_is_name C_is_word C_is_ascending C_are_unlike)
end Mr

namespace Mr
open PySem PySem.Spec PyProof.Rows L2
abbrev R : PySem.W.OpenRow := PySem.W.OpenLaw.row PySem.Challenge.rw_anydepth_k00_errors_papers_checks
abbrev hk : PySem.W.Hook := hookM 5 fa fn [] tf ex xds
def ob (s : PySem.W.SharedT) : AlM := obsM 5 fa fn [] tf ex xds (HandSHeadRun.getT s)
theorem ob_eq (s : PySem.W.SharedT) : ob s = hk.obs s.abs := obsM_eq (HandSHeadRun.getT_eq s)
def loose : List PySem.Str := [("fixed" : PySem.Str), ("is_same" : PySem.Str), ("Paper" : PySem.Str), ("Denial" : PySem.Str), ("LETTERS" : PySem.Str), ("MOST_NAME" : PySem.Str), ("RESERVED" : PySem.Str), ("is_integer" : PySem.Str), ("is_within" : PySem.Str), ("is_listed" : PySem.Str), ("is_row" : PySem.Str), ("is_name" : PySem.Str), ("is_word" : PySem.Str), ("is_ascending" : PySem.Str), ("are_unlike" : PySem.Str), ("are_names" : PySem.Str), ("DepthError" : PySem.Str), ("BadValue" : PySem.Str), ("BadNumber" : PySem.Str), ("BadFunction" : PySem.Str), ("BadRow" : PySem.Str), ("BadMove" : PySem.Str), ("BadAnswer" : PySem.Str), ("BadWord" : PySem.Str), ("BadText" : PySem.Str), ("NoName" : PySem.Str), ("Misfit" : PySem.Str), ("Nothing" : PySem.Str), ("TooMany" : PySem.Str), ("_law_pen" : PySem.Str), ("_law_draw" : PySem.Str), ("_law_pick" : PySem.Str), ("_law_is_number" : PySem.Str), ("_law_thing" : PySem.Str), ("_law_fixed" : PySem.Str)]
theorem run (w : World) : HandSHeadRun.RunEq R (PySem.W.view R.prog [39]) hk ob 10400 loose w := by
  intro os
  kernel_rfl
/-- what the plain law has to say -/
abbrev PlainLaw : Prop := ∀ ns : List Int, ns.length ≤ 63 → (∀ z ∈ ns, Builtin.Int.intBits z ≤ 1048576) → ∃ μ, g_law [.kls (ns.map T.int)] [] = .ok (.bl true) μ
theorem holdsOf (plain : PlainLaw) : PySem.Challenge.rw_anydepth_k00_errors_papers_checks.Holds := by
  open PySem.W PySem.Calls in
  w_on; o_law
  refine HandSHeadRun.head_any (r := OpenLaw.row PySem.Challenge.rw_anydepth_k00_errors_papers_checks) (q := view (OpenLaw.row PySem.Challenge.rw_anydepth_k00_errors_papers_checks).prog [39]) (H := hk) (ob := ob) (M := 10400) (loose := loose) (d := HandSHeadRun.topDef (OpenLaw.row PySem.Challenge.rw_anydepth_k00_errors_papers_checks).prog 39) (kwd := []) ob_eq
    (by kernel_rfl) (fun s => by kernel_rfl) run (by kernel_rfl) (by kernel_rfl) (by kernel_rfl) (by rfl) (by first | assumption | decide +kernel) (by decide +kernel) ⟨rfl, rfl, rfl, rfl, rfl, by decide +kernel⟩ ?hw ?hc
  case hw => w_witness2
  case hc =>
    refine walkM (l := PySem.Challenge.rw_anydepth_k00_errors_papers_checks) (n := 63) (k := 11) (x := "script") rfl (by decide) (by kernel_rfl) ⟨rfl, by decide, by decide⟩ ?F
    intro w mg fa0 h Y G hmg0
    obtain ⟨K, KX, c⟩ := Y
    have hmg : mg ("law" : PySem.Str) = some (.ref fa0) := by
      have e : (HandSHeadRun.topDef (OpenLaw.row PySem.Challenge.rw_anydepth_k00_errors_papers_checks).prog 39).name = ("law" : PySem.Str) := by kernel_rfl
      rw [← e]
      exact hmg0
    obtain ⟨fd, F, all⟩ := allDefs (w := w) KX G c
    have e := hmg.symm.trans (He.glo_ok KX G (c.1.t.d.fact 17 (f := .glo "law") rfl))
    cases e
    exact ⟨K, fd, [], g_law, fun _ => "", KX, (fun p hp => nomatch hp), (fun p hp => nomatch hp), (fun p hp => nomatch hp), List.nodup_nil, fun s u => FunD.bindsA (ps := ["script"]) F (fun _ _ _ _ _ _ us hl => match us, hl with | [_], _ => rfl) s [u] rfl, fun ns h1 h2 => plain ns h1 h2, fun base _ _ _ => all base⟩
end Mr

namespace Mr
open PySem PySem.Spec PyProof.Rows L2

/-! ### values that have a repr -/
/-- of code points -/
def Chr (x : Str) : Prop := ∀ c ∈ x.cps.toList, c < 1114112
theorem Chr.app {x y : Str} (hx : Chr x) (hy : Chr y) : Chr (x ++ y) := fun c hc => by
  have hc : c ∈ (x.cps ++ y.cps).toList := hc
  rw [Array.toList_append] at hc
  rcases List.mem_append.mp hc with h | h
  · exact hx c h
  · exact hy c h
theorem chr_text : ∀ (ts : List Str) (k : Nat) (acc : Str), Chr acc → (∀ x ∈ ts, Chr x) → Chr (textFrom k acc ts)
  | [], _, acc, h, _ => h
  | t :: ts, k, acc, h, ht => by
    show Chr (textFrom (k + 1) (acc ++ (if k > 0 then ", " else "" : String) ++ t) ts)
    refine chr_text ts (k + 1) _ ((h.app ?_).app (ht t List.mem_cons_self)) fun x hx => ht x (List.mem_cons_of_mem _ hx)
    split
    · intro c hc
      have : c ∈ [44, 32] := hc
      simp at this
      omega
    · intro c hc
      have : c ∈ ([] : List Nat) := hc
      simp at this
theorem chr_sep : Chr ((", " : String) : Str) := fun c hc => by
  have : c ∈ [44, 32] := hc
  simp at this
  omega
theorem chr_join : ∀ (ts : List Str), (∀ x ∈ ts, Chr x) → Chr (Str.join ", " ts)
  | [], _ => fun c hc => by
    have : c ∈ ([] : List Nat) := hc
    simp at this
  | [x], h => h x List.mem_cons_self
  | x :: y :: r, h => ((h x List.mem_cons_self).app chr_sep).app (chr_join (y :: r) fun x hx => h x (List.mem_cons_of_mem _ hx))
structure PdD (n e B : Nat) (D : PyData) (t : T) : Prop where
  py : ∀ μ k, n ≤ k → pyT μ k t = some D
  lay : D.canLay0 = true
  dep : D.depth ≤ e
  show_ : D.showable = true
  len : D.shown.length ≤ B
  chr : Chr D.shown
def Pd (n e B : Nat) (t : T) : Prop := ∃ D, PdD n e B D t
theorem PdD.mono {n e B n' e' B' : Nat} {D : PyData} {t : T} (h : PdD n e B D t) (h1 : n ≤ n') (h2 : e ≤ e') (h3 : B ≤ B') : PdD n' e' B' D t :=
  ⟨fun μ k hk => h.py μ k (by omega), h.lay, by have := h.dep; omega, h.show_, by have := h.len; omega, h.chr⟩
theorem Pd.mono {n e B n' e' B' : Nat} {t : T} (h : Pd n e B t) (h1 : n ≤ n') (h2 : e ≤ e') (h3 : B ≤ B') : Pd n' e' B' t := let ⟨D, q⟩ := h; ⟨D, q.mono h1 h2 h3⟩
structure PdA (n e B : Nat) (Ds : List PyData) (ts : List T) : Prop where
  py : ∀ μ k, n ≤ k → mapO (pyT μ k) ts = some Ds
  lay : PyData.canLayAll0 Ds = true
  dep : PyData.depthAll Ds ≤ e
  show_ : PyData.showableAll Ds = true
  len : ∀ x ∈ PyData.shownAll Ds, x.length ≤ B
  cnt : (PyData.shownAll Ds).length = ts.length
  chr : ∀ x ∈ PyData.shownAll Ds, Chr x
theorem pd_all {n e B : Nat} : ∀ {ts : List T}, (∀ t ∈ ts, Pd n e B t) → ∃ Ds, PdA n e B Ds ts
  | [], _ => ⟨[], ⟨fun _ _ _ => rfl, rfl, Nat.zero_le _, rfl, (fun _ h => nomatch h), rfl, (fun _ h => nomatch h)⟩⟩
  | t :: ts, h => by
    obtain ⟨D, q⟩ := h t List.mem_cons_self
    obtain ⟨Ds, r⟩ := pd_all fun u hu => h u (List.mem_cons_of_mem _ hu)
    refine ⟨D :: Ds, fun μ k hk => ?_, ?_, ?_, ?_, fun x hx => ?_, ?_, fun x hx => ?_⟩
    · unfold mapO
      rw [q.py μ k hk, r.py μ k hk]
    · simp only [PyData.canLayAll0, q.lay, r.lay, Bool.and_self]
    · simp only [PyData.depthAll]
      have := q.dep
      have := r.dep
      omega
    · simp only [PyData.showableAll, q.show_, r.show_, Bool.and_self]
    · simp only [PyData.shownAll] at hx
      rcases List.mem_cons.mp hx with e | e
      · rw [e]; exact q.len
      · exact r.len x e
    · simp only [PyData.shownAll, List.length_cons, r.cnt]
    · simp only [PyData.shownAll] at hx
      rcases List.mem_cons.mp hx with e | e
      · rw [e]; exact q.chr
      · exact r.chr x e
theorem len_textFrom (B : Nat) : ∀ (ts : List Str) (k : Nat) (acc : Str), (∀ x ∈ ts, x.length ≤ B) → (textFrom k acc ts).length ≤ acc.length + ts.length * (B + 2)
  | [], _, acc, _ => by show acc.length ≤ _; omega
  | t :: ts, k, acc, h => by
    have ih := len_textFrom B ts (k + 1) (acc ++ (if k > 0 then ", " else "" : String) ++ t) fun x hx => h x (List.mem_cons_of_mem _ hx)
    have e : (acc ++ (if k > 0 then ", " else "" : String) ++ t : Str).length = acc.length + (if k > 0 then 2 else 0) + t.length := by
      rw [strLen_append, strLen_append]
      split <;> rfl
    have ht := h t List.mem_cons_self
    show (textFrom (k + 1) _ ts).length ≤ _
    rw [e] at ih
    rw [List.length_cons, Nat.succ_mul]
    have hk : (if k > 0 then 2 else 0) ≤ 2 := by split <;> omega
    omega
theorem len_join (B : Nat) : ∀ (ts : List Str), (∀ x ∈ ts, x.length ≤ B) → (Str.join ", " ts).length ≤ ts.length * (B + 2)
  | [], _ => Nat.zero_le _
  | [x], h => by
    have := h x List.mem_cons_self
    show x.length ≤ 1 * (B + 2)
    omega
  | x :: y :: r, h => by
    have ih := len_join B (y :: r) fun x hx => h x (List.mem_cons_of_mem _ hx)
    have hx := h x List.mem_cons_self
    show (x ++ ", " ++ Str.join ", " (y :: r)).length ≤ _
    have e2 : ((", " : String) : Str).length = 2 := rfl
    rw [strLen_append, strLen_append, e2, List.length_cons, Nat.succ_mul]
    omega
theorem pd_lst {n e B c : Nat} {ts : List T} (h : ∀ t ∈ ts, Pd n e B t) (hc : ts.length ≤ c) : Pd (n + 1) (e + 1) (c * (B + 2) + 2) (.lst ts) := by
  obtain ⟨Ds, r⟩ := pd_all h
  refine ⟨.list Ds, fun μ k hk => ?_, ?_, ?_, ?_, ?_, ?_⟩
  · cases k with
    | zero => omega
    | succ k =>
      show (mapO (pyT μ k) ts).map PyData.list = _
      rw [r.py μ k (by omega)] <;> rfl
  · simp only [PyData.canLay0, r.lay]
  · simp only [PyData.depth]
    have := r.dep
    omega
  · simp only [PyData.showable, r.show_]
  · simp only [PyData.shown]
    have z := len_textFrom B _ 0 ("[" : Str) r.len
    unfold listText
    rw [strLen_append]
    have e1 : (("[" : String) : Str).length = 1 := rfl
    have e2 : (("]" : String) : Str).length = 1 := rfl
    rw [r.cnt, e1] at z
    rw [e2]
    have := Nat.mul_le_mul_right (B + 2) hc
    omega
  · simp only [PyData.shown]
    unfold listText
    refine (chr_text _ _ _ (fun c hc => ?_) r.chr).app fun c hc => ?_
    · have : c ∈ [91] := hc
      simp at this
      omega
    · have : c ∈ [93] := hc
      simp at this
      omega
theorem pd_tup {n e B c : Nat} {ts : List T} (h : ∀ t ∈ ts, Pd n e B t) (hc : ts.length ≤ c) : Pd (n + 1) (e + 1) (c * (B + 2) + 3) (.tup ts) := by
  obtain ⟨Ds, r⟩ := pd_all h
  refine ⟨.tuple Ds, fun μ k hk => ?_, ?_, ?_, ?_, ?_, ?_⟩
  · cases k with
    | zero => omega
    | succ k =>
      show (mapO (pyT μ k) ts).map PyData.tuple = _
      rw [r.py μ k (by omega)] <;> rfl
  · simp only [PyData.canLay0, r.lay]
  · simp only [PyData.depth]
    have := r.dep
    omega
  · simp only [PyData.showable, r.show_]
  · simp only [PyData.shown]
    have z := len_join B _ r.len
    unfold tupleText
    rw [strLen_append, strLen_append]
    have e1 : (("(" : String) : Str).length = 1 := rfl
    have e2 : ((if (PyData.shownAll Ds).length == 1 then ",)" else ")" : String) : Str).length ≤ 2 := by
      split <;> decide
    rw [r.cnt] at z
    rw [e1]
    have := Nat.mul_le_mul_right (B + 2) hc
    omega
  · simp only [PyData.shown]
    unfold tupleText
    refine (Chr.app (fun c hc => ?_) (chr_join _ r.chr)).app fun c hc => ?_
    · have : c ∈ [40] := hc
      simp at this
      omega
    · have : c ∈ [44, 41] := by
        split at hc
        · exact hc
        · have : c ∈ [41] := hc
          simp at this
          simp [this]
      simp at this
      omega
/-! repr, == -/
theorem pd_repr {n e B : Nat} {D : PyData} {t : T} (h : PdD n e B D t) (hn : n ≤ 60) (he : e ≤ 64) (hB : B ≤ 100000) (μ : Mu) : gRepr [t] μ = .ok (.str D.shown.cps.toList) μ := by
  show (match pyT μ 60 t with
    | some d => if (d.showable && SeqAt.shaped d && Nat.ble d.shown.cps.size 100000) = true then Out.ok (T.str d.shown.cps.toList) μ else .bad
    | none => .bad) = _
  rw [h.py μ 60 hn]
  have s : SeqAt.shaped D = true := by
    unfold SeqAt.shaped
    rw [Bool.and_eq_true]
    exact ⟨h.lay, decide_eq_true (Nat.le_trans h.dep he)⟩
  have l : Nat.ble D.shown.cps.size 100000 = true := Nat.ble_eq_true_of_le (Nat.le_trans h.len hB)
  simp only [h.show_, s, l, Bool.and_self, if_true]
theorem pd_eqM {n e B n' e' B' : Nat} {D D' : PyData} {t u : T} (h : PdD n e B D t) (h' : PdD n' e' B' D' u) (hn : n ≤ 60) (hn' : n' ≤ 60) (he : e ≤ 64) (he' : e' ≤ 64) (μ : Mu) : eqM μ t u = some (PyData.eqv D D') := by
  unfold eqM
  rw [h.py μ 60 hn, h'.py μ 60 hn']
  have s : SeqAt.shaped D = true := by
    unfold SeqAt.shaped
    rw [Bool.and_eq_true]
    exact ⟨h.lay, decide_eq_true (Nat.le_trans h.dep he)⟩
  have s' : SeqAt.shaped D' = true := by
    unfold SeqAt.shaped
    rw [Bool.and_eq_true]
    exact ⟨h'.lay, decide_eq_true (Nat.le_trans h'.dep he')⟩
  simp only [s, s', Bool.and_self, if_true]
theorem eqM_str {x y : List Nat} (hx : ∀ c ∈ x, c < 1114112) (hy : ∀ c ∈ y, c < 1114112) (μ : Mu) : eqM μ (.str x) (.str y) = some (decide (x = y)) := by
  unfold eqM
  show (match some (PyData.str ⟨x.toArray⟩), some (PyData.str ⟨y.toArray⟩) with
    | some d, some e => if (SeqAt.shaped d && SeqAt.shaped e) = true then some (PyData.eqv d e) else none
    | _, _ => none) = _
  have s : ∀ z : List Nat, (∀ c ∈ z, c < 1114112) → SeqAt.shaped (.str ⟨z.toArray⟩) = true := fun z hz => by
    unfold SeqAt.shaped
    rw [Bool.and_eq_true]
    refine ⟨?_, decide_eq_true (by simp [PyData.depth])⟩
    simp only [PyData.canLay0, PyData.strOk]
    rw [Array.all_eq_true']
    intro c hc
    exact decide_eq_true (hz c (by simpa using hc))
  simp only [s x hx, s y hy, Bool.and_self, if_true, PyData.eqv]
  congr 1
  by_cases h : x = y
  · subst h; simp
  · have : ¬ ((⟨x.toArray⟩ : Str) = ⟨y.toArray⟩) := fun z => h (by
      have := congrArg (fun s : Str => s.cps.toList) z
      simpa using this)
    rw [decide_eq_false h]
    exact beq_eq_false_iff_ne.mpr this
/-- lists of truth values -/
theorem eqv_bls : ∀ bs cs : List Bool, PyData.eqvAll (bs.map PyData.bool) (cs.map PyData.bool) = decide (bs = cs)
  | [], [] => by simp [PyData.eqvAll]
  | [], c :: cs => by simp [PyData.eqvAll]
  | b :: bs, [] => by simp [PyData.eqvAll]
  | b :: bs, c :: cs => by
    simp only [List.map_cons, PyData.eqvAll, PyData.eqv, eqv_bls bs cs, List.cons.injEq]
    cases b <;> cases c <;> simp
theorem lay_bls : ∀ bs : List Bool, PyData.canLayAll0 (bs.map PyData.bool) = true ∧ PyData.depthAll (bs.map PyData.bool) = 0
  | [] => by simp [PyData.canLayAll0, PyData.depthAll]
  | i :: is => by
    obtain ⟨h1, h2⟩ := lay_bls is
    simp [PyData.canLayAll0, PyData.depthAll, h1, h2, PyData.canLay0, PyData.depth]
theorem eq_bls (bs cs : List Bool) (μ : Mu) : eqM μ (.lst (bs.map T.bl)) (.lst (cs.map T.bl)) = some (decide (bs = cs)) := by
  have py : ∀ bs : List Bool, pyT μ 60 (.lst (bs.map T.bl)) = some (.list (bs.map PyData.bool)) := fun bs => by
    show (mapO (pyT μ 59) (bs.map T.bl)).map PyData.list = _
    rw [mapO_maps (f := pyT μ 59) (e := T.bl) (d := PyData.bool) fun o => rfl] <;> rfl
  have s : ∀ bs : List Bool, SeqAt.shaped (.list (bs.map PyData.bool)) = true := fun bs => by
    obtain ⟨h1, h2⟩ := lay_bls bs
    unfold SeqAt.shaped
    rw [Bool.and_eq_true]
    refine ⟨by simpa [PyData.canLay0] using h1, decide_eq_true ?_⟩
    simp only [PyData.depth]
    omega
  unfold eqM
  rw [py, py]
  simp only [s, Bool.and_self, if_true, PyData.eqv, eqv_bls]
theorem eqv_ints : ∀ bs cs : List Int, PyData.eqvAll (bs.map PyData.int) (cs.map PyData.int) = decide (bs = cs)
  | [], [] => by simp [PyData.eqvAll]
  | [], c :: cs => by simp [PyData.eqvAll]
  | b :: bs, [] => by simp [PyData.eqvAll]
  | b :: bs, c :: cs => by
    simp only [List.map_cons, PyData.eqvAll, PyData.eqv, eqv_ints bs cs, List.cons.injEq]
    by_cases h : b = c <;> simp [h]
theorem eq_ints (is js : List Int) (μ : Mu) : eqM μ (.lst (is.map T.int)) (.lst (js.map T.int)) = some (decide (is = js)) := by
  unfold eqM
  rw [py_ints, py_ints]
  simp only [shaped_ints, Bool.and_self, if_true, PyData.eqv, eqv_ints]
theorem ne_bls (bs cs : List Bool) (μ : Mu) : gNe (.lst (bs.map T.bl)) (.lst (cs.map T.bl)) μ = .ok (.bl (!decide (bs = cs))) μ := by
  unfold gNe
  rw [eq_bls]
theorem ne_self_str {x : List Nat} (hx : ∀ c ∈ x, c < 1114112) (μ : Mu) : gNe (.str x) (.str x) μ = .ok (.bl false) μ := by
  unfold gNe
  rw [eqM_str hx hx]
  simp
theorem eq_str {x y : List Nat} (hx : ∀ c ∈ x, c < 1114112) (hy : ∀ c ∈ y, c < 1114112) (μ : Mu) : gEq (.str x) (.str y) μ = .ok (.bl (decide (x = y))) μ := by
  unfold gEq
  rw [eqM_str hx hy]
theorem eq_bl (a b : Bool) (μ : Mu) : gEq (.bl a) (.bl b) μ = .ok (.bl (a == b)) μ := by
  cases a <;> cases b <;> rfl
theorem ne_bl (a b : Bool) (μ : Mu) : gNe (.bl a) (.bl b) μ = .ok (.bl (!(a == b))) μ := by
  cases a <;> cases b <;> rfl
end Mr

namespace Mr
open PySem PySem.Spec PyProof.Rows L2

theorem gEq_i (i j : Int) (μ : Mu) : gEq (.int i) (.int j) μ = .ok (.bl (decide (i = j))) μ := rfl
theorem gLt_i (i j : Int) (μ : Mu) : gLt (.int i) (.int j) μ = .ok (.bl (decide (i < j))) μ := rfl
theorem gLeS_i (i j : Int) (μ : Mu) : gLeS (.int i) (.int j) μ = .ok (.bl (decide (i ≤ j))) μ := rfl
/-! ### the pen -/
def Pen (N : Int) (μ : Mu) : Prop := ∃ cells a r, μ = [penO cells a r] ∧ 0 ≤ a ∧ a ≤ N ∧ 0 ≤ r
theorem Pen.mono {N M : Int} {μ : Mu} (h : Pen N μ) (hm : N ≤ M) : Pen M μ := by
  obtain ⟨c, a, r, e, h1, h2, h3⟩ := h
  exact ⟨c, a, r, e, h1, by omega, h3⟩
theorem draw {N : Int} {μ : Mu} {many : Int} (hp : Pen N μ) (hN : N < 1000000) (m : 2 ≤ many) (m2 : many < 1000) :
    ∃ d μ', 0 ≤ d ∧ d < many ∧ Pen (N + 1) μ' ∧ g__law_draw [.mr 0, .int many] μ = .ok (.int d) μ' := by
  obtain ⟨cells, a, r, rfl, h1, h2, h3⟩ := hp
  obtain ⟨d, a', r', d1, d2, a1, a2, r1, e⟩ := draw_ok (k1 := 71011) (k2 := 9001) (k3 := 33013) (k4 := 6101) (μ := [penO cells a r]) (i := 0) (cells := cells) (a := a) (r := r) (many := many) rfl h1 (by omega) h3 m (by omega) ⟨by omega, by omega⟩ ⟨by omega, by omega⟩ ⟨by omega, by omega⟩ ⟨by omega, by omega⟩
  refine ⟨d, [penO cells a' r'], d1, d2, ⟨cells, a', r', rfl, by omega, by omega, r1⟩, ?_⟩
  unfold g__law_draw
  rw [fn_k (k := 2) (ts := [_, _]) rfl]
  exact e
/-! ### the drawn values -/
def atT : Nat → T
  | 0 => .non | 1 => .bl true | 2 => .bl false | 3 => .int 0 | 4 => .int 1 | 5 => .int (-7) | 6 => .str [97] | _ => .int (10 ^ 30)
def Good : Nat → T → Prop
  | 0, t => ∃ i, i < 8 ∧ t = atT i
  | d + 1, t => (∃ i, i < 8 ∧ t = atT i) ∨ ∃ ts, (t = .lst ts ∨ t = .tup ts) ∧ ts.length ≤ 3 ∧ ∀ u ∈ ts, Good d u
theorem Good.at {d i : Nat} (h : i < 8) : Good d (atT i) := by
  cases d with
  | zero => exact ⟨i, h, rfl⟩
  | succ d => exact .inl ⟨i, h, rfl⟩
theorem Good.up : ∀ {d : Nat} {t : T}, Good d t → Good (d + 1) t
  | 0, t, h => .inl h
  | d + 1, t, h => by
    rcases h with h | ⟨ts, e, hl, hu⟩
    · exact .inl h
    · exact .inr ⟨ts, e, hl, fun u hx => (hu u hx).up⟩
theorem pd_at {i : Nat} (h : i < 8) : Pd 1 0 31 (atT i) := by
  have k0 : ∀ {D : PyData} {t : T}, (∀ μ k, pyT μ (k + 1) t = some D) → D.canLay0 = true → D.depth ≤ 0 → D.showable = true → D.shown.length ≤ 31 → (∀ c ∈ D.shown.cps.toList, c < 1114112) → Pd 1 0 31 t := fun {D t} h1 h2 h3 h4 h5 h6 =>
    ⟨D, ⟨fun μ k hk => by cases k with | zero => omega | succ k => exact h1 μ k, h2, h3, h4, h5, h6⟩⟩
  match i, h with
  | 0, _ => exact k0 (D := .none) (fun _ _ => rfl) (by decide +kernel) (by decide +kernel) (by decide +kernel) (by decide +kernel) (by decide +kernel)
  | 1, _ => exact k0 (D := .bool true) (fun _ _ => rfl) (by decide +kernel) (by decide +kernel) (by decide +kernel) (by decide +kernel) (by decide +kernel)
  | 2, _ => exact k0 (D := .bool false) (fun _ _ => rfl) (by decide +kernel) (by decide +kernel) (by decide +kernel) (by decide +kernel) (by decide +kernel)
  | 3, _ => exact k0 (D := .int 0) (fun _ _ => rfl) (by decide +kernel) (by decide +kernel) (by decide +kernel) (by decide +kernel) (by decide +kernel)
  | 4, _ => exact k0 (D := .int 1) (fun _ _ => rfl) (by decide +kernel) (by decide +kernel) (by decide +kernel) (by decide +kernel) (by decide +kernel)
  | 5, _ => exact k0 (D := .int (-7)) (fun _ _ => rfl) (by decide +kernel) (by decide +kernel) (by decide +kernel) (by decide +kernel) (by decide +kernel)
  | 6, _ => exact k0 (D := .str ⟨#[97]⟩) (fun _ _ => rfl) (by decide +kernel) (by decide +kernel) (by decide +kernel) (by decide +kernel) (by decide +kernel)
  | 7, _ => exact k0 (D := .int (10 ^ 30)) (fun _ _ => rfl) (by decide +kernel) (by decide +kernel) (by decide +kernel) (by decide +kernel) (by decide +kernel)
def bd : Nat → Nat
  | 0 => 31
  | d + 1 => 3 * (bd d + 2) + 3
theorem bd_ge (d : Nat) : 31 ≤ bd d := by
  cases d with
  | zero => exact Nat.le_refl _
  | succ d =>
    have := bd_ge d
    show 31 ≤ 3 * (bd d + 2) + 3
    omega
theorem pd_good : ∀ {d : Nat} {t : T}, Good d t → Pd (d + 1) d (bd d) t
  | 0, t, ⟨i, hi, e⟩ => by rw [e]; exact pd_at hi
  | d + 1, t, h => by
    rcases h with ⟨i, hi, e⟩ | ⟨ts, e, hl, hu⟩
    · rw [e]
      exact (pd_at hi).mono (by omega) (by omega) (bd_ge _)
    · rcases e with e | e
      · rw [e]
        exact (pd_lst (fun u hx => pd_good (hu u hx)) hl).mono (Nat.le_refl _) (Nat.le_refl _) (by show 3 * (bd d + 2) + 2 ≤ 3 * (bd d + 2) + 3; omega)
      · rw [e]
        exact pd_tup (fun u hx => pd_good (hu u hx)) hl
/-- a comprehension that draws -/
theorem comp_inv {g : MG} {mt : MT} {me : ME} {ρ : Rho} {I : Nat → Mu → Prop} {P : T → Prop} : ∀ (ts : List T) (i : Nat) (μ : Mu), I i μ →
    (∀ (j : Nat) (t : T) (μ : Mu), ts[j]? = some t → I (i + j) μ → ∃ ρ1, g t ρ μ = .ok ρ1 μ ∧ mt ρ1 μ = .ok true μ ∧ ∃ u μ', me ρ1 μ = .ok u μ' ∧ P u ∧ I (i + j + 1) μ') →
    ∃ us μ', compM g mt me ρ ts μ = .ok us μ' ∧ us.length = ts.length ∧ (∀ u ∈ us, P u) ∧ I (i + ts.length) μ'
  | [], i, μ, h, _ => ⟨[], μ, rfl, rfl, (fun _ h => nomatch h), h⟩
  | t :: ts, i, μ, h, step => by
    obtain ⟨ρ1, h1, h2, u, μ1, h3, hP, hI⟩ := step 0 t μ rfl h
    obtain ⟨us, μ', h4, hl, hPs, hI'⟩ := comp_inv (g := g) (mt := mt) (me := me) (ρ := ρ) (I := I) (P := P) ts (i + 1) μ1 hI fun j u μ hu hI => by
      have e : i + 1 + j = i + (j + 1) := by omega
      rw [e] at hI ⊢
      exact step (j + 1) u μ (by simpa using hu) hI
    refine ⟨u :: us, μ', ?_, by rw [List.length_cons, List.length_cons, hl], fun v hv => ?_, by rw [List.length_cons]; rwa [show i + (ts.length + 1) = i + 1 + ts.length by omega]⟩
    · unfold compM
      rw [h1]
      simp only [noX_ok, Out.bind_ok, h2, h3, if_true, h4]
    · rcases List.mem_cons.mp hv with e | e
      · rw [e]; exact hP
      · exact hPs v e
theorem rangeT_len (n : Int) : (rangeT 0 n).length = n.toNat := by
  unfold rangeT
  rw [List.length_map, List.length_range]
  congr 1
  omega
theorem itR1_ok {n : Int} (h0 : 0 ≤ n) (h1 : n ≤ 1000) (μ : Mu) : itR1 [.int n] μ = .ok (.fz (rangeT 0 n)) μ := by
  show (if inR n = true then Out.ok (Wk.fz (rangeT 0 n)) μ else .bad) = _
  unfold inR
  rw [decide_eq_true (by omega), decide_eq_true (by omega)]
  rfl
theorem few_range {n : Int} (h0 : 0 ≤ n) (h1 : n ≤ 1000) : few (rangeT 0 n) = true := few_of (by rw [rangeT_len]; omega)
def wt : Nat → Int
  | 0 => 1
  | d + 1 => 2 + 3 * wt d
theorem wt_pos (d : Nat) : 1 ≤ wt d := by
  cases d with
  | zero => exact Int.le_refl _
  | succ d =>
    have := wt_pos d
    show 1 ≤ 2 + 3 * wt d
    omega
theorem pick8 {w : Int} (h0 : 0 ≤ w) (h1 : w < 12) (μ : Mu) : ∃ i, i < 8 ∧ gIx (.lst [.non, .bl true, .bl false, .int 0, .int 1, .int (-7), .str [97], .int (10 ^ 30)]) (.int (w % 8)) μ = .ok (atT i) μ := by
  refine ⟨(w % 8).toNat, by omega, ?_⟩
  have : w % 8 = 0 ∨ w % 8 = 1 ∨ w % 8 = 2 ∨ w % 8 = 3 ∨ w % 8 = 4 ∨ w % 8 = 5 ∨ w % 8 = 6 ∨ w % 8 = 7 := by omega
  rcases this with e | e | e | e | e | e | e | e <;> rw [e] <;> rfl
theorem thing_ok : ∀ (d j : Nat) (μ : Mu) (N : Int), d < j → Pen N μ → N + wt d < 1000000 → ∃ t μ', g__law_thing j [.mr 0, .int (d : Int)] μ = .ok t μ' ∧ Good d t ∧ Pen (N + wt d) μ'
  | _, 0, _, _, h, _, _ => absurd h (Nat.not_lt_zero _)
  | d, j + 1, μ, N, hj, hp, hN => by
    have hw := wt_pos d
    obtain ⟨w, μ1, w0, w1, p1, e1⟩ := draw (many := 12) hp (by omega) (by omega) (by omega)
    show ∃ t μ', arO 2 (fnK 5 (m__law_thing (g__law_thing j))) _ μ = .ok t μ' ∧ _
    rw [fn_k (k := 2) (ts := [_, _]) rfl]
    obtain ⟨i, hi, e2⟩ := pick8 w0 w1 μ1
    have p10 : gPow (.int 10) (.int 30) μ1 = .ok (.int (10 ^ 30)) μ1 := gPow_ok (j := 30) _ (by omega) (by omega) (by omega)
    have n7 : gNeg (.int 7) μ1 = .ok (.int (-7)) μ1 := rfl
    have fw : ∀ a b c d e f g h : T, few [a, b, c, d, e, f, g, h] = true := fun _ _ _ _ _ _ _ _ => rfl
    have hst : startR 5 [T.mr 0, .int (d : Int)] = [some (.mr 0), some (.int (d : Int)), none, none, none] := rfl
    cases d with
    | zero =>
      refine ⟨atT i, μ1, ?_, ⟨i, hi, rfl⟩, p1⟩
      rw [hst]
      unfold m__law_thing
      simp only [r_seq, r_seq_nx, r_seq_rt, r_seq_bk, r_seq_ct, r_next, r_ret, r_retN, r_drop, r_ifS, r_asg, r_set, r_var, r_c, r_op, r_un, r_cl, r_nil, r_cons, r_tst, r_chain, r_tru, r_not, r_and, r_or, r_andV, r_orV, r_notV, r_if, r_call, r_par2, r_nm, r_snil, r_scons, r_tp, r_yes, r_fin, r_fz, r_lc, r_for, r_it, r_walk, r_few, r_tupG, r_lstG,
  List.getElem?_cons_zero, List.getElem?_cons_succ, List.set_cons_zero, List.set_cons_succ, Out.bind_ok, List.append_nil, List.nil_append, List.cons_append, if_true, if_false, Bool.false_eq_true, endO, e1, gEq_i, show decide (((0 : Nat) : Int) = 0) = true from rfl, p10, n7, fw, gMod_ok μ1 (show (0 : Int) < 8 by omega), e2]
    | succ d =>
      have hd0 : decide (((d + 1 : Nat) : Int) = 0) = false := decide_eq_false (by omega)
      by_cases hw8 : w < 8
      · refine ⟨atT i, μ1, ?_, .inl ⟨i, hi, rfl⟩, p1.mono (by omega)⟩
        rw [hst]
        unfold m__law_thing
        simp only [r_seq, r_seq_nx, r_seq_rt, r_seq_bk, r_seq_ct, r_next, r_ret, r_retN, r_drop, r_ifS, r_asg, r_set, r_var, r_c, r_op, r_un, r_cl, r_nil, r_cons, r_tst, r_chain, r_tru, r_not, r_and, r_or, r_andV, r_orV, r_notV, r_if, r_call, r_par2, r_nm, r_snil, r_scons, r_tp, r_yes, r_fin, r_fz, r_lc, r_for, r_it, r_walk, r_few, r_tupG, r_lstG,
  List.getElem?_cons_zero, List.getElem?_cons_succ, List.set_cons_zero, List.set_cons_succ, Out.bind_ok, List.append_nil, List.nil_append, List.cons_append, if_true, if_false, Bool.false_eq_true, endO, e1, gEq_i, hd0, gLt_i, decide_eq_true hw8, p10, n7, fw, gMod_ok μ1 (show (0 : Int) < 8 by omega), e2]
      · have hwt : wt (d + 1) = 2 + 3 * wt d := rfl
        have hw' := wt_pos d
        obtain ⟨n, μ2, n0, n1, p2, e3⟩ := draw (many := 4) p1 (by omega) (by omega) (by omega)
        have hs : ∀ μ, gSub (.int ((d + 1 : Nat) : Int)) (.int 1) μ = .ok (.int (d : Int)) μ := fun μ => by
          rw [gSub_i]
          congr 2
          omega
        obtain ⟨us, μ3, e4, hl, hP, hI⟩ := comp_inv (g := gNm 4) (mt := mYes) (me := mCall (g__law_thing j) [] (mCons (mVar 0) (mCons (mOp gSub (mVar 1) (mC (.int 1))) mNil))) (ρ := wipeR [some (.mr 0), some (.int ((d + 1 : Nat) : Int)), some (.int w), none, none] [4])
          (I := fun k μ => Pen (N + 1 + 1 + k * wt d) μ) (P := Good d) (rangeT 0 n) 0 μ2 (by simpa using p2) fun k t μ ht hI => by
            have hk : k < 3 := by
              have := (List.getElem?_eq_some_iff.mp ht).1
              rw [rangeT_len] at this
              omega
            have hkw : (k : Int) * wt d ≤ 2 * wt d := Int.mul_le_mul_of_nonneg_right (by omega) (by omega)
            obtain ⟨u, μ', e5, g5, p5⟩ := thing_ok d j μ _ (by omega) hI (by simp only [Nat.zero_add]; omega)
            refine ⟨_, rfl, rfl, u, μ', ?_, g5, ?_⟩
            · show (mCall (g__law_thing j) [] (mCons (mVar 0) (mCons (mOp gSub (mVar 1) (mC (.int 1))) mNil))) [some (.mr 0), some (.int ((d + 1 : Nat) : Int)), some (.int w), none, some t] μ = _
              simp only [r_seq, r_seq_nx, r_seq_rt, r_seq_bk, r_seq_ct, r_next, r_ret, r_retN, r_drop, r_ifS, r_asg, r_set, r_var, r_c, r_op, r_un, r_cl, r_nil, r_cons, r_tst, r_chain, r_tru, r_not, r_and, r_or, r_andV, r_orV, r_notV, r_if, r_call, r_par2, r_nm, r_snil, r_scons, r_tp, r_yes, r_fin, r_fz, r_lc, r_for, r_it, r_walk, r_few, r_tupG, r_lstG,
  List.getElem?_cons_zero, List.getElem?_cons_succ, List.set_cons_zero, List.set_cons_succ, Out.bind_ok, List.append_nil, List.nil_append, List.cons_append, if_true, if_false, Bool.false_eq_true, endO, hs, e5]
            · have e : N + 1 + 1 + ((0 + k : Nat) : Int) * wt d + wt d = N + 1 + 1 + ((0 + k + 1 : Nat) : Int) * wt d := by
                rw [show ((0 + k + 1 : Nat) : Int) = ((0 + k : Nat) : Int) + 1 by omega, Int.add_mul, Int.one_mul]
                omega
              rw [← e]
              exact p5
        have hn3 : us.length ≤ 3 := by
          rw [hl, rangeT_len]
          omega
        have hpen : Pen (N + wt (d + 1)) μ3 := by
          refine Pen.mono hI ?_
          rw [rangeT_len, hwt]
          have : ((0 + n.toNat : Nat) : Int) * wt d ≤ 3 * wt d := Int.mul_le_mul_of_nonneg_right (by omega) (by omega)
          omega
        have e4' : compM (gNm 4) mYes (mCall (g__law_thing j) [] (mCons (mVar 0) (mCons (mOp gSub (mVar 1) (mC (.int 1))) mNil))) (wipeR [some (.mr 0), some (.int ((d + 1 : Nat) : Int)), some (.int w), none, none] [4]) (rangeT 0 n) μ2 = .ok us μ3 := e4
        by_cases hw10 : w < 10
        · refine ⟨.lst us, μ3, ?_, .inr ⟨us, .inl rfl, hn3, hP⟩, hpen⟩
          rw [hst]
          unfold m__law_thing
          simp only [r_seq, r_seq_nx, r_seq_rt, r_seq_bk, r_seq_ct, r_next, r_ret, r_retN, r_drop, r_ifS, r_asg, r_set, r_var, r_c, r_op, r_un, r_cl, r_nil, r_cons, r_tst, r_chain, r_tru, r_not, r_and, r_or, r_andV, r_orV, r_notV, r_if, r_call, r_par2, r_nm, r_snil, r_scons, r_tp, r_yes, r_fin, r_fz, r_lc, r_for, r_it, r_walk, r_few, r_tupG, r_lstG,
  List.getElem?_cons_zero, List.getElem?_cons_succ, List.set_cons_zero, List.set_cons_succ, Out.bind_ok, List.append_nil, List.nil_append, List.cons_append, if_true, if_false, Bool.false_eq_true, endO, e1, gEq_i, hd0, gLt_i, decide_eq_false hw8, e3, itR1_ok n0 (by omega), few_range n0 (by omega), e4', decide_eq_true hw10]
        · refine ⟨.tup us, μ3, ?_, .inr ⟨us, .inr rfl, hn3, hP⟩, hpen⟩
          have ht : ∀ μ, gTupOf [.lst us] μ = .ok (.tup us) μ := fun _ => rfl
          rw [hst]
          unfold m__law_thing
          simp only [r_seq, r_seq_nx, r_seq_rt, r_seq_bk, r_seq_ct, r_next, r_ret, r_retN, r_drop, r_ifS, r_asg, r_set, r_var, r_c, r_op, r_un, r_cl, r_nil, r_cons, r_tst, r_chain, r_tru, r_not, r_and, r_or, r_andV, r_orV, r_notV, r_if, r_call, r_par2, r_nm, r_snil, r_scons, r_tp, r_yes, r_fin, r_fz, r_lc, r_for, r_it, r_walk, r_few, r_tupG, r_lstG,
  List.getElem?_cons_zero, List.getElem?_cons_succ, List.set_cons_zero, List.set_cons_succ, Out.bind_ok, List.append_nil, List.nil_append, List.cons_append, if_true, if_false, Bool.false_eq_true, endO, e1, gEq_i, hd0, gLt_i, decide_eq_false hw8, e3, itR1_ok n0 (by omega), few_range n0 (by omega), e4', decide_eq_false hw10, ht]
end Mr

namespace Mr
open PySem PySem.Spec PyProof.Rows L2 TL

/-! ### frozen values -/
def GoodF : Nat → T → Prop
  | 0, t => ∃ i, i < 8 ∧ t = atT i
  | d + 1, t => (∃ i, i < 8 ∧ t = atT i) ∨ ∃ ts, t = .tup ts ∧ ts.length ≤ 3 ∧ ∀ u ∈ ts, GoodF d u
theorem GoodF.good : ∀ {d : Nat} {t : T}, GoodF d t → Good d t
  | 0, _, h => h
  | d + 1, t, h => by
    rcases h with h | ⟨ts, e, hl, hu⟩
    · exact .inl h
    · exact .inr ⟨ts, .inr e, hl, fun u hx => (hu u hx).good⟩
theorem GoodF.up : ∀ {d : Nat} {t : T}, GoodF d t → GoodF (d + 1) t
  | 0, t, h => .inl h
  | d + 1, t, h => by
    rcases h with h | ⟨ts, e, hl, hu⟩
    · exact .inl h
    · exact .inr ⟨ts, e, hl, fun u hx => (hu u hx).up⟩
def isPl : T → Bool
  | .non => true | .bl _ => true | .int _ => true | .str _ => true | _ => false
/-- what fixed is asked of -/
def Fix : Nat → T → Prop
  | 0, t => isPl t = true
  | d + 1, t => isPl t = true ∨ ∃ ts, (t = .lst ts ∨ t = .tup ts) ∧ ts.length ≤ 1000 ∧ ∀ u ∈ ts, Fix d u
theorem pl_at (i : Nat) : isPl (atT i) = true := by
  unfold atT
  split <;> rfl
theorem Good.fix : ∀ {d : Nat} {t : T}, Good d t → Fix d t
  | 0, t, ⟨i, _, e⟩ => by rw [e]; exact pl_at i
  | d + 1, t, h => by
    rcases h with ⟨i, _, e⟩ | ⟨ts, e, hl, hu⟩
    · rw [e]; exact .inl (pl_at i)
    · exact .inr ⟨ts, e, by omega, fun u hx => (hu u hx).fix⟩
def fx : Nat → T → T
  | 0, t => t
  | d + 1, .lst ts => .tup (ts.map (fx d))
  | d + 1, .tup ts => .tup (ts.map (fx d))
  | _ + 1, t => t
theorem fx_pl {d : Nat} {t : T} (h : isPl t = true) : fx d t = t := by
  cases d with
  | zero => rfl
  | succ d => cases t <;> first | rfl | cases h
theorem fx_good : ∀ {d : Nat} {t : T}, Good d t → GoodF d (fx d t)
  | 0, t, h => h
  | d + 1, t, h => by
    rcases h with ⟨i, hi, e⟩ | ⟨ts, e, hl, hu⟩
    · rw [e, fx_pl (pl_at i)]
      exact .inl ⟨i, hi, rfl⟩
    · have : GoodF (d + 1) (.tup (ts.map (fx d))) := .inr ⟨_, rfl, by rw [List.length_map]; exact hl, fun u hx => by
        obtain ⟨v, hv, ev⟩ := List.mem_map.mp hx
        rw [← ev]
        exact fx_good (hu v hv)⟩
      rcases e with e | e <;> (rw [e]; exact this)
theorem isi_lt (t : T) (μ : Mu) : (isPl t = true → gIsi isc0 ist0 [t, .tup [.ty 4, .ty 5]] μ = .ok (.bl false) μ) := fun h => by
  cases t <;> first | rfl | cases h
theorem isi_lst (ts : List T) (μ : Mu) : gIsi isc0 ist0 [.lst ts, .tup [.ty 4, .ty 5]] μ = .ok (.bl true) μ := rfl
theorem isi_tup (ts : List T) (μ : Mu) : gIsi isc0 ist0 [.tup ts, .tup [.ty 4, .ty 5]] μ = .ok (.bl true) μ := rfl
theorem itS2_lst (ts : List T) (μ : Mu) : itS2 (.lst ts) μ = .ok (.fz ts) μ := rfl
theorem itS2_tup (ts : List T) (μ : Mu) : itS2 (.tup ts) μ = .ok (.fz ts) μ := rfl
theorem r_itS2 (m : ME) (ρ : Rho) (μ : Mu) : mItS2 m ρ μ = (m ρ μ).bind itS2 := rfl
theorem tupOf_lst (ts : List T) (μ : Mu) : gTupOf [.lst ts] μ = .ok (.tup ts) μ := rfl
theorem few45 : few [T.ty 4, T.ty 5] = true := rfl
theorem tru_bl (b : Bool) (μ : Mu) : tru (.bl b) μ = .ok b μ := rfl
theorem fixed_ok : ∀ (d j : Nat) (t : T) (μ : Mu), d < j → Fix d t → g_fixed j [t] μ = .ok (fx d t) μ
  | _, 0, _, _, h, _ => absurd h (Nat.not_lt_zero _)
  | d, j + 1, t, μ, hj, ht => by
    show arO 1 (fnP 2 (m_fixed (g_fixed j))) [t] μ = _
    refine fn_pure (k := 1) (ts := [t]) rfl ?_
    show endO (m_fixed (g_fixed j) [some t, none] (μ.map MO.lck)) = _
    unfold m_fixed
    have pl : isPl t = true → endO (mSeq (mIfS (mTru (mCl (gIsi isc0 ist0) (mCons (mVar 0) (mCons (mCl gTup (mCons (mC (.ty 4)) (mCons (mC (.ty 5)) mNil))) mNil))))
        (mRet (mCl gTupOf (mCons (mFin fzT (mLc [1] (mItS2 (mVar 0)) (gNm 1) mYes (mCall (g_fixed j) [] (mCons (mVar 1) mNil)))) mNil))) mNext) (mRet (mVar 0)) [some t, none] (μ.map MO.lck)) = .ok (fx d t) (μ.map MO.lck) := fun h => by
      simp only [r_seq, r_seq_nx, r_seq_rt, r_seq_bk, r_seq_ct, r_next, r_ret, r_retN, r_drop, r_ifS, r_asg, r_set, r_var, r_c, r_op, r_un, r_cl, r_nil, r_cons, r_tst, r_chain, r_tru, r_not, r_and, r_or, r_andV, r_orV, r_notV, r_if, r_call, r_par2, r_nm, r_snil, r_scons, r_tp, r_yes, r_fin, r_fz, r_lc, r_for, r_it, r_walk, r_few, r_tupG, r_lstG,
  List.getElem?_cons_zero, List.getElem?_cons_succ, List.set_cons_zero, List.set_cons_succ, Out.bind_ok, List.append_nil, List.nil_append, List.cons_append, if_true, if_false, Bool.false_eq_true, endO, few45, isi_lt t _ h, tru_bl, fx_pl h]
    cases d with
    | zero => exact pl ht
    | succ d =>
      rcases ht with h | ⟨ts, e, hl, hu⟩
      · exact pl h
      · have cm : compM (gNm 1) mYes (mCall (g_fixed j) [] (mCons (mVar 1) mNil)) [some t, none] ts (μ.map MO.lck) = .ok (ts.map (fx d)) (μ.map MO.lck) := by
          have z := comp_map (g := gNm 1) (mt := mYes) (me := mCall (g_fixed j) [] (mCons (mVar 1) mNil)) (ρ := [some t, none]) (μ := μ.map MO.lck) (fun u : T => u) (fx d) ts fun u hx => ⟨_, rfl, rfl, by
            show (mCall (g_fixed j) [] (mCons (mVar 1) mNil)) [some t, some u] (μ.map MO.lck) = _
            simp only [r_seq, r_seq_nx, r_seq_rt, r_seq_bk, r_seq_ct, r_next, r_ret, r_retN, r_drop, r_ifS, r_asg, r_set, r_var, r_c, r_op, r_un, r_cl, r_nil, r_cons, r_tst, r_chain, r_tru, r_not, r_and, r_or, r_andV, r_orV, r_notV, r_if, r_call, r_par2, r_nm, r_snil, r_scons, r_tp, r_yes, r_fin, r_fz, r_lc, r_for, r_it, r_walk, r_few, r_tupG, r_lstG,
  List.getElem?_cons_zero, List.getElem?_cons_succ, List.set_cons_zero, List.set_cons_succ, Out.bind_ok, List.append_nil, List.nil_append, List.cons_append, if_true, if_false, Bool.false_eq_true, endO, fixed_ok d j u (μ.map MO.lck) (by omega) (hu u hx)]⟩
          rwa [List.map_id'] at z
        have fw : few ts = true := few_of (by omega)
        have wp : wipeR [some t, none] [1] = [some t, none] := rfl
        rcases e with e | e <;> subst e
        · simp only [r_seq, r_seq_nx, r_seq_rt, r_seq_bk, r_seq_ct, r_next, r_ret, r_retN, r_drop, r_ifS, r_asg, r_set, r_var, r_c, r_op, r_un, r_cl, r_nil, r_cons, r_tst, r_chain, r_tru, r_not, r_and, r_or, r_andV, r_orV, r_notV, r_if, r_call, r_par2, r_nm, r_snil, r_scons, r_tp, r_yes, r_fin, r_fz, r_lc, r_for, r_it, r_walk, r_few, r_tupG, r_lstG,
  List.getElem?_cons_zero, List.getElem?_cons_succ, List.set_cons_zero, List.set_cons_succ, Out.bind_ok, List.append_nil, List.nil_append, List.cons_append, if_true, if_false, Bool.false_eq_true, endO, few45, isi_lst, tru_bl, r_itS2, itS2_lst, wp, fw, cm, tupOf_lst, fx]
        · simp only [r_seq, r_seq_nx, r_seq_rt, r_seq_bk, r_seq_ct, r_next, r_ret, r_retN, r_drop, r_ifS, r_asg, r_set, r_var, r_c, r_op, r_un, r_cl, r_nil, r_cons, r_tst, r_chain, r_tru, r_not, r_and, r_or, r_andV, r_orV, r_notV, r_if, r_call, r_par2, r_nm, r_snil, r_scons, r_tp, r_yes, r_fin, r_fz, r_lc, r_for, r_it, r_walk, r_few, r_tupG, r_lstG,
  List.getElem?_cons_zero, List.getElem?_cons_succ, List.set_cons_zero, List.set_cons_succ, Out.bind_ok, List.append_nil, List.nil_append, List.cons_append, if_true, if_false, Bool.false_eq_true, endO, few45, isi_tup, tru_bl, r_itS2, itS2_tup, wp, fw, cm, tupOf_lst, fx]
theorem lfixed_ok : ∀ (d j : Nat) (t : T) (μ : Mu), d < j → Fix d t → g__law_fixed j [t] μ = .ok (fx d t) μ
  | _, 0, _, _, h, _ => absurd h (Nat.not_lt_zero _)
  | d, j + 1, t, μ, hj, ht => by
    show arO 1 (fnP 2 (m__law_fixed (g__law_fixed j))) [t] μ = _
    refine fn_pure (k := 1) (ts := [t]) rfl ?_
    show endO (m__law_fixed (g__law_fixed j) [some t, none] (μ.map MO.lck)) = _
    unfold m__law_fixed
    have pl : isPl t = true → endO (mRet (mIf (mTru (mCl (gIsi isc0 ist0) (mCons (mVar 0) (mCons (mCl gTup (mCons (mC (.ty 4)) (mCons (mC (.ty 5)) mNil))) mNil))))
        (mCl gTupOf (mCons (mFin fzT (mLc [1] (mItS2 (mVar 0)) (gNm 1) mYes (mCall (g__law_fixed j) [] (mCons (mVar 1) mNil)))) mNil)) (mVar 0)) [some t, none] (μ.map MO.lck)) = .ok (fx d t) (μ.map MO.lck) := fun h => by
      simp only [r_seq, r_seq_nx, r_seq_rt, r_seq_bk, r_seq_ct, r_next, r_ret, r_retN, r_drop, r_ifS, r_asg, r_set, r_var, r_c, r_op, r_un, r_cl, r_nil, r_cons, r_tst, r_chain, r_tru, r_not, r_and, r_or, r_andV, r_orV, r_notV, r_if, r_call, r_par2, r_nm, r_snil, r_scons, r_tp, r_yes, r_fin, r_fz, r_lc, r_for, r_it, r_walk, r_few, r_tupG, r_lstG,
  List.getElem?_cons_zero, List.getElem?_cons_succ, List.set_cons_zero, List.set_cons_succ, Out.bind_ok, List.append_nil, List.nil_append, List.cons_append, if_true, if_false, Bool.false_eq_true, endO, few45, isi_lt t _ h, tru_bl, fx_pl h]
    cases d with
    | zero => exact pl ht
    | succ d =>
      rcases ht with h | ⟨ts, e, hl, hu⟩
      · exact pl h
      · have cm : compM (gNm 1) mYes (mCall (g__law_fixed j) [] (mCons (mVar 1) mNil)) [some t, none] ts (μ.map MO.lck) = .ok (ts.map (fx d)) (μ.map MO.lck) := by
          have z := comp_map (g := gNm 1) (mt := mYes) (me := mCall (g__law_fixed j) [] (mCons (mVar 1) mNil)) (ρ := [some t, none]) (μ := μ.map MO.lck) (fun u : T => u) (fx d) ts fun u hx => ⟨_, rfl, rfl, by
            show (mCall (g__law_fixed j) [] (mCons (mVar 1) mNil)) [some t, some u] (μ.map MO.lck) = _
            simp only [r_seq, r_seq_nx, r_seq_rt, r_seq_bk, r_seq_ct, r_next, r_ret, r_retN, r_drop, r_ifS, r_asg, r_set, r_var, r_c, r_op, r_un, r_cl, r_nil, r_cons, r_tst, r_chain, r_tru, r_not, r_and, r_or, r_andV, r_orV, r_notV, r_if, r_call, r_par2, r_nm, r_snil, r_scons, r_tp, r_yes, r_fin, r_fz, r_lc, r_for, r_it, r_walk, r_few, r_tupG, r_lstG,
  List.getElem?_cons_zero, List.getElem?_cons_succ, List.set_cons_zero, List.set_cons_succ, Out.bind_ok, List.append_nil, List.nil_append, List.cons_append, if_true, if_false, Bool.false_eq_true, endO, lfixed_ok d j u (μ.map MO.lck) (by omega) (hu u hx)]⟩
          rwa [List.map_id'] at z
        have fw : few ts = true := few_of (by omega)
        have wp : wipeR [some t, none] [1] = [some t, none] := rfl
        rcases e with e | e <;> subst e
        · simp only [r_seq, r_seq_nx, r_seq_rt, r_seq_bk, r_seq_ct, r_next, r_ret, r_retN, r_drop, r_ifS, r_asg, r_set, r_var, r_c, r_op, r_un, r_cl, r_nil, r_cons, r_tst, r_chain, r_tru, r_not, r_and, r_or, r_andV, r_orV, r_notV, r_if, r_call, r_par2, r_nm, r_snil, r_scons, r_tp, r_yes, r_fin, r_fz, r_lc, r_for, r_it, r_walk, r_few, r_tupG, r_lstG,
  List.getElem?_cons_zero, List.getElem?_cons_succ, List.set_cons_zero, List.set_cons_succ, Out.bind_ok, List.append_nil, List.nil_append, List.cons_append, if_true, if_false, Bool.false_eq_true, endO, few45, isi_lst, tru_bl, r_itS2, itS2_lst, wp, fw, cm, tupOf_lst, fx]
        · simp only [r_seq, r_seq_nx, r_seq_rt, r_seq_bk, r_seq_ct, r_next, r_ret, r_retN, r_drop, r_ifS, r_asg, r_set, r_var, r_c, r_op, r_un, r_cl, r_nil, r_cons, r_tst, r_chain, r_tru, r_not, r_and, r_or, r_andV, r_orV, r_notV, r_if, r_call, r_par2, r_nm, r_snil, r_scons, r_tp, r_yes, r_fin, r_fz, r_lc, r_for, r_it, r_walk, r_few, r_tupG, r_lstG,
  List.getElem?_cons_zero, List.getElem?_cons_succ, List.set_cons_zero, List.set_cons_succ, Out.bind_ok, List.append_nil, List.nil_append, List.cons_append, if_true, if_false, Bool.false_eq_true, endO, few45, isi_tup, tru_bl, r_itS2, itS2_tup, wp, fw, cm, tupOf_lst, fx]
/-! ### the data of frozen values -/
def dA : Nat → PyData
  | 0 => .none | 1 => .bool true | 2 => .bool false | 3 => .int 0 | 4 => .int 1 | 5 => .int (-7) | 6 => .str ⟨#[97]⟩ | _ => .int (10 ^ 30)
def atI : T → Nat
  | .non => 0 | .bl true => 1 | .bl false => 2 | .int i => if i = 0 then 3 else if i = 1 then 4 else if i = -7 then 5 else 7 | .str _ => 6 | _ => 8
theorem atI_at : ∀ i, i < 8 → atI (atT i) = i
  | 0, _ => rfl | 1, _ => rfl | 2, _ => rfl | 3, _ => rfl | 4, _ => rfl | 5, _ => rfl | 6, _ => rfl | 7, _ => rfl
  | n + 8, h => by omega
def toD : Nat → T → PyData
  | d + 1, .tup ts => .tuple (ts.map (toD d))
  | _, t => dA (atI t)
theorem toD_at {d i : Nat} (h : i < 8) : toD d (atT i) = dA i := by
  have e := atI_at i h
  have z : toD d (atT i) = dA (atI (atT i)) := by
    cases d with
    | zero => rfl
    | succ d =>
      have p := pl_at i
      cases q : atT i <;> first | rfl | (rw [q] at p; cases p)
  rw [z, e]
theorem py_at : ∀ i, i < 8 → ∀ μ k, pyT μ (k + 1) (atT i) = some (dA i)
  | 0, _, _, _ => rfl | 1, _, _, _ => rfl | 2, _, _, _ => rfl | 3, _, _, _ => rfl | 4, _, _, _ => rfl | 5, _, _, _ => rfl | 6, _, _, _ => rfl | 7, _, _, _ => rfl
  | n + 8, h, _, _ => by omega
theorem mapO_map {α β : Type} {f : α → Option β} {g : α → β} : ∀ {as : List α}, (∀ a ∈ as, f a = some (g a)) → mapO f as = some (as.map g)
  | [], _ => rfl
  | a :: as, h => by
    rw [List.map_cons]
    unfold mapO
    rw [h a List.mem_cons_self, mapO_map fun b hb => h b (List.mem_cons_of_mem _ hb)]
theorem py_toD : ∀ {d : Nat} {t : T}, GoodF d t → ∀ μ k, d + 1 ≤ k → pyT μ k t = some (toD d t)
  | d, t, h, μ, 0, hk => by omega
  | 0, t, ⟨i, hi, e⟩, μ, k + 1, hk => by rw [e, toD_at hi]; exact py_at i hi μ k
  | d + 1, t, h, μ, k + 1, hk => by
    rcases h with ⟨i, hi, e⟩ | ⟨ts, e, hl, hu⟩
    · rw [e, toD_at hi]; exact py_at i hi μ k
    · subst e
      show (mapO (pyT μ k) ts).map PyData.tuple = some (.tuple (ts.map (toD d)))
      rw [mapO_map fun u hx => py_toD (hu u hx) μ k (by omega)] <;> rfl
theorem pdF {d : Nat} {t : T} (h : GoodF d t) : PdD (d + 1) d (bd d) (toD d t) t := by
  obtain ⟨D, q⟩ := pd_good h.good
  have e1 := q.py [] (d + 1) (Nat.le_refl _)
  rw [py_toD h [] (d + 1) (Nat.le_refl _)] at e1
  rw [Option.some.inj e1]
  exact q
/-! ### a repr tells the value -/
def restL : List (List Nat) → List Nat
  | [] => [41]
  | x :: r => 44 :: 32 :: (x ++ restL r)
def bodyL : List (List Nat) → List Nat
  | [] => [41]
  | [x] => x ++ [44, 41]
  | x :: y :: r => x ++ restL (y :: r)
theorem join_rest : ∀ (x : Str) (r : List Str), tl (Str.join ", " (x :: r)) ++ [41] = tl x ++ restL (r.map tl)
  | x, [] => rfl
  | x, y :: r => by
    show tl (x ++ ", " ++ Str.join ", " (y :: r)) ++ [41] = _
    have e : tl ((", " : String) : Str) = [44, 32] := by decide +kernel
    rw [tl_append, tl_append, e, List.append_assoc, join_rest y r]
    simp [restL]
theorem tl_tup (ts : List Str) : tl (tupleText ts) = 40 :: bodyL (ts.map tl) := by
  unfold tupleText
  have e1 : tl (("(" : String) : Str) = [40] := by decide +kernel
  have e2 : tl (((")" : String) : Str)) = [41] := by decide +kernel
  have e3 : tl (((",)" : String) : Str)) = [44, 41] := by decide +kernel
  rw [tl_append, tl_append, e1]
  match ts with
  | [] => rfl
  | [x] =>
    show [40] ++ tl x ++ tl ((",)" : String) : Str) = _
    rw [e3] <;> simp [bodyL]
  | x :: y :: r =>
    show [40] ++ tl (Str.join ", " (x :: y :: r)) ++ tl ((")" : String) : Str) = _
    rw [e2, List.append_assoc, join_rest x (y :: r)]
    rfl
theorem shownAll_map : ∀ ds : List PyData, PyData.shownAll ds = ds.map PyData.shown
  | [] => by simp [PyData.shownAll]
  | d :: ds => by simp [PyData.shownAll, shownAll_map ds]
/-- what may stand behind a value within a tuple -/
def Dlm : List Nat → Prop
  | [] => True
  | c :: _ => c = 44 ∨ c = 41
theorem dl44 (l : List Nat) : Dlm (44 :: l) := .inl rfl
/-- what tells its value whatever stands behind it -/
def Tells (S : T → List Nat) (a b : T) : Prop := ∀ s t, Dlm s → Dlm t → S a ++ s = S b ++ t → a = b ∧ s = t
theorem rest_inj {S : T → List Nat} : ∀ (xs ys : List T), (∀ x ∈ xs, ∀ y ∈ ys, Tells S x y) → ∀ s t, restL (xs.map S) ++ s = restL (ys.map S) ++ t → xs = ys ∧ s = t
  | [], [], _, s, t, h => ⟨rfl, by simpa [restL] using h⟩
  | [], y :: ys, _, s, t, h => by simp [restL] at h
  | x :: xs, [], _, s, t, h => by simp [restL] at h
  | x :: xs, y :: ys, hT, s, t, h => by
    simp only [List.map_cons, restL, List.cons_append, List.append_assoc, List.cons.injEq, true_and] at h
    have dl : ∀ (l : List (List Nat)) (s : List Nat), Dlm (restL l ++ s) := fun l s => by
      cases l with
      | nil => exact .inr rfl
      | cons a l => exact .inl rfl
    obtain ⟨e1, e2⟩ := hT x List.mem_cons_self y List.mem_cons_self _ _ (dl _ _) (dl _ _) h
    obtain ⟨e3, e4⟩ := rest_inj xs ys (fun a ha b hb => hT a (List.mem_cons_of_mem _ ha) b (List.mem_cons_of_mem _ hb)) s t e2
    exact ⟨by rw [e1, e3], e4⟩
/-- a text that begins with neither ) nor , -/
def Hd (l : List Nat) : Prop := ∃ c r, l = c :: r ∧ c ≠ 41 ∧ c ≠ 44
theorem body_inj {S : T → List Nat} (hd : ∀ x, Hd (S x) ∨ True) (xs ys : List T) (hx : ∀ x ∈ xs, Hd (S x)) (hy : ∀ y ∈ ys, Hd (S y)) (hT : ∀ x ∈ xs, ∀ y ∈ ys, Tells S x y) (s t : List Nat) (h : bodyL (xs.map S) ++ s = bodyL (ys.map S) ++ t) : xs = ys ∧ s = t := by
  have nil : ∀ (y : T) (ys : List T) (s t : List Nat), Hd (S y) → [41] ++ s = bodyL ((y :: ys).map S) ++ t → False := fun y ys s t ⟨c, r, e, h1, _⟩ h => by
    cases ys with
    | nil => simp [bodyL, e] at h; exact h1 h.1.symm
    | cons z zs => simp [bodyL, e] at h; exact h1 h.1.symm
  match xs, ys, hx, hy, hT, h with
  | [], [], _, _, _, h => exact ⟨rfl, by simpa [bodyL] using h⟩
  | [], y :: ys, _, hy, _, h => exact (nil y ys s t (hy y List.mem_cons_self) h).elim
  | x :: xs, [], hx, _, _, h => exact (nil x xs t s (hx x List.mem_cons_self) h.symm).elim
  | [x], [y], _, _, hT, h =>
    simp only [List.map_cons, List.map_nil, bodyL, List.append_assoc, List.cons_append, List.nil_append] at h
    obtain ⟨e1, e2⟩ := hT x List.mem_cons_self y List.mem_cons_self _ _ (dl44 _) (dl44 _) h
    exact ⟨by rw [e1], by simpa using e2⟩
  | [x], y :: z :: r, _, _, hT, h =>
    simp only [List.map_cons, List.map_nil, bodyL, restL, List.append_assoc, List.cons_append, List.nil_append] at h
    obtain ⟨e1, e2⟩ := hT x List.mem_cons_self y List.mem_cons_self _ _ (dl44 _) (dl44 _) h
    simp at e2
  | x :: z :: r, [y], _, _, hT, h =>
    simp only [List.map_cons, List.map_nil, bodyL, restL, List.append_assoc, List.cons_append, List.nil_append] at h
    obtain ⟨e1, e2⟩ := hT x List.mem_cons_self y List.mem_cons_self _ _ (dl44 _) (dl44 _) h
    simp at e2
  | x :: z :: r, y :: w :: q, _, _, hT, h =>
    have h : S x ++ (restL ((z :: r).map S) ++ s) = S y ++ (restL ((w :: q).map S) ++ t) := by simpa [bodyL] using h
    obtain ⟨e1, e2⟩ := hT x List.mem_cons_self y List.mem_cons_self _ _ (dl44 _) (dl44 _) h
    obtain ⟨e3, e4⟩ := rest_inj (z :: r) (w :: q) (fun a ha b hb => hT a (List.mem_cons_of_mem _ ha) b (List.mem_cons_of_mem _ hb)) s t e2
    exact ⟨by rw [e1, e3], e4⟩
/-- the atoms' texts -/
def shA : Nat → List Nat
  | 0 => [78, 111, 110, 101] | 1 => [84, 114, 117, 101] | 2 => [70, 97, 108, 115, 101] | 3 => [48] | 4 => [49] | 5 => [45, 55] | 6 => [39, 97, 39] | _ => 49 :: List.replicate 30 48
theorem shA_ok : ∀ i, i < 8 → tl (dA i).shown = shA i
  | 0, _ => by decide +kernel | 1, _ => by decide +kernel | 2, _ => by decide +kernel | 3, _ => by decide +kernel | 4, _ => by decide +kernel | 5, _ => by decide +kernel | 6, _ => by decide +kernel | 7, _ => by decide +kernel
  | n + 8, h => by omega
theorem shA_hd : ∀ i, i < 8 → Hd (shA i) ∧ ∀ r, shA i ≠ 40 :: r
  | 0, _ => ⟨⟨_, _, rfl, by decide, by decide⟩, fun r h => by simp [shA] at h⟩ | 1, _ => ⟨⟨_, _, rfl, by decide, by decide⟩, fun r h => by simp [shA] at h⟩ | 2, _ => ⟨⟨_, _, rfl, by decide, by decide⟩, fun r h => by simp [shA] at h⟩ | 3, _ => ⟨⟨_, _, rfl, by decide, by decide⟩, fun r h => by simp [shA] at h⟩
  | 4, _ => ⟨⟨_, _, rfl, by decide, by decide⟩, fun r h => by simp [shA] at h⟩ | 5, _ => ⟨⟨_, _, rfl, by decide, by decide⟩, fun r h => by simp [shA] at h⟩ | 6, _ => ⟨⟨_, _, rfl, by decide, by decide⟩, fun r h => by simp [shA] at h⟩ | 7, _ => ⟨⟨_, _, rfl, by decide, by decide⟩, fun r h => by simp [shA] at h⟩
  | n + 8, h => by omega
theorem shA_head : ∀ i, i < 8 → ∃ c r, shA i = c :: r ∧ c = [78, 84, 70, 48, 49, 45, 39, 49].getD i 0
  | 0, _ => ⟨_, _, rfl, rfl⟩ | 1, _ => ⟨_, _, rfl, rfl⟩ | 2, _ => ⟨_, _, rfl, rfl⟩ | 3, _ => ⟨_, _, rfl, rfl⟩ | 4, _ => ⟨_, _, rfl, rfl⟩ | 5, _ => ⟨_, _, rfl, rfl⟩ | 6, _ => ⟨_, _, rfl, rfl⟩ | 7, _ => ⟨_, _, rfl, rfl⟩
  | n + 8, h => by omega
theorem head_tab : ∀ i : Fin 8, ∀ j : Fin 8, [78, 84, 70, 48, 49, 45, 39, 49].getD i.val 0 = [78, 84, 70, 48, 49, 45, 39, 49].getD j.val 0 → i = j ∨ (i = 4 ∧ j = 7) ∨ (i = 7 ∧ j = 4) := by decide
theorem shA_inj {i j : Nat} (hi : i < 8) (hj : j < 8) {s t : List Nat} (hs : Dlm s) (ht : Dlm t) (h : shA i ++ s = shA j ++ t) : i = j ∧ s = t := by
  obtain ⟨c, r, e1, e2⟩ := shA_head i hi
  obtain ⟨c', r', e1', e2'⟩ := shA_head j hj
  have hc : c = c' := by
    rw [e1, e1'] at h
    exact (List.cons.inj h).1
  rcases head_tab ⟨i, hi⟩ ⟨j, hj⟩ (by rw [← e2, ← e2', hc]) with e | ⟨ei, ej⟩ | ⟨ei, ej⟩
  · have e : i = j := congrArg Fin.val e
    subst e
    exact ⟨rfl, List.append_cancel_left h⟩
  · have ei : i = 4 := congrArg Fin.val ei
    have ej : j = 7 := congrArg Fin.val ej
    subst ei ej
    have h : 49 :: s = 49 :: (48 :: (List.replicate 29 48 ++ t)) := h
    have h2 := (List.cons.inj h).2
    rw [h2] at hs
    rcases hs with z | z <;> cases z
  · have ei : i = 7 := congrArg Fin.val ei
    have ej : j = 4 := congrArg Fin.val ej
    subst ei ej
    have h : 49 :: (48 :: (List.replicate 29 48 ++ s)) = 49 :: t := h
    have h2 := (List.cons.inj h).2
    rw [← h2] at ht
    rcases ht with z | z <;> cases z
/-- the value's text -/
def sh (d : Nat) (t : T) : List Nat := tl (toD d t).shown
theorem sh_at {d i : Nat} (h : i < 8) : sh d (atT i) = shA i := by
  unfold sh
  rw [toD_at h, shA_ok i h]
theorem sh_tup {d : Nat} (ts : List T) : sh (d + 1) (.tup ts) = 40 :: bodyL (ts.map (sh d)) := by
  unfold sh
  show tl (PyData.shown (.tuple (ts.map (toD d)))) = _
  simp only [PyData.shown]
  rw [tl_tup, shownAll_map, List.map_map, List.map_map] <;> rfl
theorem sh_hd : ∀ {d : Nat} {t : T}, GoodF d t → Hd (sh d t)
  | 0, t, ⟨i, hi, e⟩ => by rw [e, sh_at hi]; exact (shA_hd i hi).1
  | d + 1, t, h => by
    rcases h with ⟨i, hi, e⟩ | ⟨ts, e, hl, hu⟩
    · rw [e, sh_at hi]; exact (shA_hd i hi).1
    · rw [e, sh_tup]
      exact ⟨40, _, rfl, by decide, by decide⟩
theorem sh_inj : ∀ {d : Nat} {a b : T}, GoodF d a → GoodF d b → Tells (sh d) a b
  | 0, a, b, ⟨i, hi, ea⟩, ⟨j, hj, eb⟩ => fun s t hs ht h => by
    rw [ea, eb, sh_at hi, sh_at hj] at h
    obtain ⟨e, h2⟩ := shA_inj hi hj hs ht h
    exact ⟨by rw [ea, eb, e], h2⟩
  | d + 1, a, b, ha, hb => fun s t hs ht h => by
    rcases ha with ⟨i, hi, ea⟩ | ⟨xs, ea, hl, hx⟩
    · rcases hb with ⟨j, hj, eb⟩ | ⟨ys, eb, hl', hy⟩
      · rw [ea, eb, sh_at hi, sh_at hj] at h
        obtain ⟨e, h2⟩ := shA_inj hi hj hs ht h
        exact ⟨by rw [ea, eb, e], h2⟩
      · rw [ea, eb, sh_at hi, sh_tup] at h
        obtain ⟨⟨c, r, e1, _⟩, h40⟩ := shA_hd i hi
        rw [e1] at h h40
        exact absurd (by rw [(List.cons.inj h).1]) (h40 r)
    · rcases hb with ⟨j, hj, eb⟩ | ⟨ys, eb, hl', hy⟩
      · rw [ea, eb, sh_at hj, sh_tup] at h
        obtain ⟨⟨c, r, e1, _⟩, h40⟩ := shA_hd j hj
        rw [e1] at h h40
        exact absurd (by rw [← (List.cons.inj h).1]) (h40 r)
      · rw [ea, eb, sh_tup, sh_tup] at h
        have h2 := (List.cons.inj h).2
        obtain ⟨e, e2⟩ := body_inj (S := sh d) (fun _ => .inr trivial) xs ys (fun x m => sh_hd (hx x m)) (fun y m => sh_hd (hy y m)) (fun x m y n => sh_inj (hx x m) (hy y n)) s t h2
        exact ⟨by rw [ea, eb, e], e2⟩
/-- two reprs are equal just if the values are -/
theorem repr_iff {d : Nat} {a b : T} (ha : GoodF d a) (hb : GoodF d b) : sh d a = sh d b ↔ a = b := ⟨fun h => (sh_inj ha hb [] [] trivial trivial (by rw [h])).1, fun h => by rw [h]⟩
theorem bd3 : ∀ d, d ≤ 3 → bd d ≤ 954
  | 0, _ => by decide | 1, _ => by decide | 2, _ => by decide | 3, _ => by decide
  | n + 4, h => by omega
theorem repr_sh {d : Nat} {a : T} (hd : d ≤ 3) (h : GoodF d a) (μ : Mu) : gRepr [a] μ = .ok (.str (sh d a)) μ := by
  have q := pdF h
  exact pd_repr q (by omega) (by omega) (Nat.le_trans (bd3 d hd) (by omega)) μ
theorem sh_chr {d : Nat} {a : T} (h : GoodF d a) : ∀ c ∈ sh d a, c < 1114112 := (pdF h).chr
end Mr

namespace Mr
open PySem PySem.Spec PyProof.Rows L2 TL

/-! ### is_same -/
def isBl : T → Bool
  | .bl _ => true | _ => false
theorem isiT_pl (t : T) (μ : Mu) (h : isPl t = true) : gIsi isc0 ist0 [t, .ty 5] μ = .ok (.bl false) μ := by
  cases t <;> first | rfl | cases h
theorem isiT_tup (ts : List T) (μ : Mu) : gIsi isc0 ist0 [.tup ts, .ty 5] μ = .ok (.bl true) μ := rfl
theorem isiB_pl (t : T) (μ : Mu) (h : isPl t = true) : gIsi isc0 ist0 [t, .ty 1] μ = .ok (.bl (isBl t)) μ := by
  cases t <;> first | rfl | cases h
theorem isiB_tup (ts : List T) (μ : Mu) : gIsi isc0 ist0 [.tup ts, .ty 1] μ = .ok (.bl (isBl (.tup ts))) μ := rfl
theorem asBls_map : ∀ bs : List Bool, asBls (bs.map T.bl) = some bs
  | [] => rfl
  | b :: bs => by
    show (match asBls (bs.map T.bl) with
      | some is => some (b :: is)
      | none => none) = _
    rw [asBls_map bs]
theorem gAll_bls (bs : List Bool) (μ : Mu) : gAll [.lst (bs.map T.bl)] μ = .ok (.bl (bs.all id)) μ := by
  show (match asBls (bs.map T.bl) with
    | some bs => Out.ok (T.bl (bs.all id)) μ
    | none => .bad) = _
  rw [asBls_map]
theorem gBool_bl (b : Bool) (μ : Mu) : gBool tab0 [.bl b] μ = .ok (.bl b) μ := rfl
theorem gLen_tup (ts : List T) (μ : Mu) : gLen [.tup ts] μ = .ok (.int (ts.length : Nat)) μ := rfl
theorem gLen_lst (ts : List T) (μ : Mu) : gLen [.lst ts] μ = .ok (.int (ts.length : Nat)) μ := rfl
theorem atoms_tab : ∀ i : Fin 8, ∀ j : Fin 8, ((isBl (atT i.val) == isBl (atT j.val)) && PyData.eqv (dA i.val) (dA j.val)) = decide (shA i.val = shA j.val) := by decide +kernel
theorem at_tup : ∀ i, i < 8 → ∀ l, PyData.eqv (dA i) (.tuple l) = false ∧ PyData.eqv (.tuple l) (dA i) = false
  | 0, _, l => by simp [dA, PyData.eqv] | 1, _, l => by simp [dA, PyData.eqv] | 2, _, l => by simp [dA, PyData.eqv] | 3, _, l => by simp [dA, PyData.eqv] | 4, _, l => by simp [dA, PyData.eqv] | 5, _, l => by simp [dA, PyData.eqv] | 6, _, l => by simp [dA, PyData.eqv] | 7, _, l => by simp [dA, PyData.eqv]
  | n + 8, h, l => by omega
theorem sh_ne {i : Nat} (hi : i < 8) (d : Nat) (ts : List T) : shA i ≠ sh (d + 1) (.tup ts) := by
  rw [sh_tup]
  exact (shA_hd i hi).2 _
/-- not both tuples -/
theorem mixed {d : Nat} {a b : T} (ha : GoodF d a) (hb : GoodF d b) (h : (∃ i, i < 8 ∧ a = atT i) ∨ ∃ i, i < 8 ∧ b = atT i) : ((isBl a == isBl b) && PyData.eqv (toD d a) (toD d b)) = decide (sh d a = sh d b) := by
  have cases_ : ∀ {t : T}, GoodF d t → (∃ i, i < 8 ∧ t = atT i) ∨ ∃ e ts, d = e + 1 ∧ t = .tup ts := fun {t} h => by
    cases d with
    | zero => exact .inl h
    | succ d =>
      rcases h with h | ⟨ts, e, _⟩
      · exact .inl h
      · exact .inr ⟨d, ts, rfl, e⟩
  rcases cases_ ha with ⟨i, hi, ea⟩ | ⟨e, xs, ed, ea⟩
  · rcases cases_ hb with ⟨j, hj, eb⟩ | ⟨e, ys, ed, eb⟩
    · rw [ea, eb, toD_at hi, toD_at hj, sh_at hi, sh_at hj]
      exact atoms_tab ⟨i, hi⟩ ⟨j, hj⟩
    · subst ed
      rw [ea, eb, toD_at hi, sh_at hi, decide_eq_false (sh_ne hi e ys)]
      show (_ && PyData.eqv (dA i) (.tuple _)) = false
      rw [(at_tup i hi _).1, Bool.and_false]
  · rcases cases_ hb with ⟨j, hj, eb⟩ | ⟨e', ys, ed', eb⟩
    · subst ed
      rw [ea, eb, toD_at hj, sh_at hj, decide_eq_false fun z => sh_ne hj e xs z.symm]
      show (_ && PyData.eqv (.tuple _) (dA j)) = false
      rw [(at_tup j hj _).2, Bool.and_false]
    · rcases h with ⟨i, hi, e3⟩ | ⟨i, hi, e3⟩
      · have p := pl_at i
        rw [← e3, ea] at p
        cases p
      · have p := pl_at i
        rw [← e3, eb] at p
        cases p
theorem zip_all {d : Nat} : ∀ {xs ys : List T}, (∀ x ∈ xs, GoodF d x) → (∀ y ∈ ys, GoodF d y) → xs.length = ys.length → (((xs.zip ys).map fun p => decide (sh d p.1 = sh d p.2)).all id = true ↔ xs = ys)
  | [], [], _, _, _ => by simp
  | x :: xs, y :: ys, hx, hy, hl => by
    have ih := zip_all (xs := xs) (ys := ys) (fun a h => hx a (List.mem_cons_of_mem _ h)) (fun a h => hy a (List.mem_cons_of_mem _ h)) (by simpa using hl)
    rw [List.zip_cons_cons, List.map_cons, List.all_cons, Bool.and_eq_true, ih]
    show decide (sh d x = sh d y) = true ∧ _ ↔ _
    rw [decide_eq_true_eq, repr_iff (hx x List.mem_cons_self) (hy y List.mem_cons_self), List.cons.injEq]
  | [], y :: ys, _, _, hl => by cases hl
  | x :: xs, [], _, _, hl => by cases hl
theorem itZ_tup (xs ys : List T) (μ : Mu) : itZ [.tup xs, .tup ys] μ = .ok (.fz (zipT xs ys)) μ := rfl
theorem gtp2 (x y : T) (ρ : Rho) (μ : Mu) : gTp 2 (gsCons (gNm 2) (gsCons (gNm 3) gsNil)) (.tup [x, y]) ρ μ = .ok ((ρ.set 2 (some x)).set 3 (some y)) μ := rfl
theorem truT_bl (μ : Mu) (b : Bool) : truT μ (.bl b) = some b := rfl
/-- tuples: lengths first -/
theorem same_lens (j : Nat) (xs ys : List T) (μ : Mu) (h : xs.length ≠ ys.length) : g_is_same (j + 1) [.tup xs, .tup ys] μ = .ok (.bl false) μ := by
  show arO 2 (fnP 4 (m_is_same (g_is_same j))) [.tup xs, .tup ys] μ = _
  refine fn_pure (k := 2) (ts := [_, _]) rfl ?_
  show endO (m_is_same (g_is_same j) [some (.tup xs), some (.tup ys), none, none] (μ.map MO.lck)) = _
  unfold m_is_same
  have hd : decide ((xs.length : Int) = (ys.length : Int)) = false := decide_eq_false (by omega)
  simp only [r_seq, r_seq_nx, r_seq_rt, r_seq_bk, r_seq_ct, r_next, r_ret, r_retN, r_drop, r_ifS, r_asg, r_set, r_var, r_c, r_op, r_un, r_cl, r_nil, r_cons, r_tst, r_chain, r_tru, r_not, r_and, r_or, r_andV, r_orV, r_notV, r_if, r_call, r_par2, r_nm, r_snil, r_scons, r_tp, r_yes, r_fin, r_fz, r_lc, r_for, r_it, r_walk, r_few, r_tupG, r_lstG,
  List.getElem?_cons_zero, List.getElem?_cons_succ, List.set_cons_zero, List.set_cons_succ, Out.bind_ok, List.append_nil, List.nil_append, List.cons_append, if_true, if_false, Bool.false_eq_true, endO, isiT_tup, tru_bl, gLen_tup, gEq_i, hd, truT_bl]
theorem same_ok : ∀ (d j : Nat) (a b : T) (μ : Mu), d < j → d ≤ 3 → GoodF d a → GoodF d b → g_is_same j [a, b] μ = .ok (.bl (decide (sh d a = sh d b))) μ
  | _, 0, _, _, _, h, _, _, _ => absurd h (Nat.not_lt_zero _)
  | d, j + 1, a, b, μ, hj, h3, ha, hb => by
    show arO 2 (fnP 4 (m_is_same (g_is_same j))) [a, b] μ = _
    refine fn_pure (k := 2) (ts := [_, _]) rfl ?_
    show endO (m_is_same (g_is_same j) [some a, some b, none, none] (μ.map MO.lck)) = _
    unfold m_is_same
    have qa := pdF ha
    have qb := pdF hb
    have eqq : gEq a b (μ.map MO.lck) = .ok (.bl (PyData.eqv (toD d a) (toD d b))) (μ.map MO.lck) := by
      unfold gEq
      rw [pd_eqM qa qb (by omega) (by omega) (by omega) (by omega)]
    have mix : ((∃ i, i < 8 ∧ a = atT i) ∨ ∃ i, i < 8 ∧ b = atT i) → ∀ u v : Bool, gIsi isc0 ist0 [a, .ty 5] (μ.map MO.lck) = .ok (.bl u) (μ.map MO.lck) → gIsi isc0 ist0 [b, .ty 5] (μ.map MO.lck) = .ok (.bl v) (μ.map MO.lck) → (u && v) = false →
        gIsi isc0 ist0 [a, .ty 1] (μ.map MO.lck) = .ok (.bl (isBl a)) (μ.map MO.lck) → gIsi isc0 ist0 [b, .ty 1] (μ.map MO.lck) = .ok (.bl (isBl b)) (μ.map MO.lck) → endO (m_is_same (g_is_same j) [some a, some b, none, none] (μ.map MO.lck)) = .ok (.bl (decide (sh d a = sh d b))) (μ.map MO.lck) := fun h u v i1 i2 i3 i4 i5 => by
      have m := mixed ha hb h
      unfold m_is_same
      cases u with
      | false =>
        cases q : (isBl a == isBl b) with
        | false =>
          rw [q, Bool.false_and] at m
          simp only [r_seq, r_seq_nx, r_seq_rt, r_seq_bk, r_seq_ct, r_next, r_ret, r_retN, r_drop, r_ifS, r_asg, r_set, r_var, r_c, r_op, r_un, r_cl, r_nil, r_cons, r_tst, r_chain, r_tru, r_not, r_and, r_or, r_andV, r_orV, r_notV, r_if, r_call, r_par2, r_nm, r_snil, r_scons, r_tp, r_yes, r_fin, r_fz, r_lc, r_for, r_it, r_walk, r_few, r_tupG, r_lstG,
  List.getElem?_cons_zero, List.getElem?_cons_succ, List.set_cons_zero, List.set_cons_succ, Out.bind_ok, List.append_nil, List.nil_append, List.cons_append, if_true, if_false, Bool.false_eq_true, endO, i1, tru_bl, i4, i5, eq_bl, q, truT_bl, ← m]
        | true =>
          rw [q, Bool.true_and] at m
          simp only [r_seq, r_seq_nx, r_seq_rt, r_seq_bk, r_seq_ct, r_next, r_ret, r_retN, r_drop, r_ifS, r_asg, r_set, r_var, r_c, r_op, r_un, r_cl, r_nil, r_cons, r_tst, r_chain, r_tru, r_not, r_and, r_or, r_andV, r_orV, r_notV, r_if, r_call, r_par2, r_nm, r_snil, r_scons, r_tp, r_yes, r_fin, r_fz, r_lc, r_for, r_it, r_walk, r_few, r_tupG, r_lstG,
  List.getElem?_cons_zero, List.getElem?_cons_succ, List.set_cons_zero, List.set_cons_succ, Out.bind_ok, List.append_nil, List.nil_append, List.cons_append, if_true, if_false, Bool.false_eq_true, endO, i1, tru_bl, i4, i5, eq_bl, q, truT_bl, eqq, gBool_bl, ← m]
      | true =>
        rw [Bool.true_and] at i3
        subst i3
        cases q : (isBl a == isBl b) with
        | false =>
          rw [q, Bool.false_and] at m
          simp only [r_seq, r_seq_nx, r_seq_rt, r_seq_bk, r_seq_ct, r_next, r_ret, r_retN, r_drop, r_ifS, r_asg, r_set, r_var, r_c, r_op, r_un, r_cl, r_nil, r_cons, r_tst, r_chain, r_tru, r_not, r_and, r_or, r_andV, r_orV, r_notV, r_if, r_call, r_par2, r_nm, r_snil, r_scons, r_tp, r_yes, r_fin, r_fz, r_lc, r_for, r_it, r_walk, r_few, r_tupG, r_lstG,
  List.getElem?_cons_zero, List.getElem?_cons_succ, List.set_cons_zero, List.set_cons_succ, Out.bind_ok, List.append_nil, List.nil_append, List.cons_append, if_true, if_false, Bool.false_eq_true, endO, i1, i2, tru_bl, i4, i5, eq_bl, q, truT_bl, ← m]
        | true =>
          rw [q, Bool.true_and] at m
          simp only [r_seq, r_seq_nx, r_seq_rt, r_seq_bk, r_seq_ct, r_next, r_ret, r_retN, r_drop, r_ifS, r_asg, r_set, r_var, r_c, r_op, r_un, r_cl, r_nil, r_cons, r_tst, r_chain, r_tru, r_not, r_and, r_or, r_andV, r_orV, r_notV, r_if, r_call, r_par2, r_nm, r_snil, r_scons, r_tp, r_yes, r_fin, r_fz, r_lc, r_for, r_it, r_walk, r_few, r_tupG, r_lstG,
  List.getElem?_cons_zero, List.getElem?_cons_succ, List.set_cons_zero, List.set_cons_succ, Out.bind_ok, List.append_nil, List.nil_append, List.cons_append, if_true, if_false, Bool.false_eq_true, endO, i1, i2, tru_bl, i4, i5, eq_bl, q, truT_bl, eqq, gBool_bl, ← m]
    have kinds : ∀ {t : T}, GoodF d t → (∃ i, i < 8 ∧ t = atT i) ∨ ∃ e ts, d = e + 1 ∧ t = .tup ts ∧ ts.length ≤ 3 ∧ ∀ u ∈ ts, GoodF e u := fun {t} h => by
      cases d with
      | zero => exact .inl h
      | succ d =>
        rcases h with h | ⟨ts, e, hl, hu⟩
        · exact .inl h
        · exact .inr ⟨d, ts, rfl, e, hl, hu⟩
    rcases kinds ha with ⟨i, hi, ea⟩ | ⟨e, xs, ed, ea, hl, hx⟩
    · have p1 : isPl a = true := by rw [ea]; exact pl_at i
      rcases kinds hb with ⟨i', hi', eb⟩ | ⟨e, ys, ed, eb, hl, hy⟩
      · have p2 : isPl b = true := by rw [eb]; exact pl_at i'
        exact mix (.inl ⟨i, hi, ea⟩) false false (isiT_pl a _ p1) (isiT_pl b _ p2) rfl (isiB_pl a _ p1) (isiB_pl b _ p2)
      · exact mix (.inl ⟨i, hi, ea⟩) false true (isiT_pl a _ p1) (by rw [eb]; exact isiT_tup _ _) rfl (isiB_pl a _ p1) (by rw [eb]; exact isiB_tup _ _)
    · rcases kinds hb with ⟨i', hi', eb⟩ | ⟨e', ys, ed', eb, hl', hy⟩
      · have p2 : isPl b = true := by rw [eb]; exact pl_at i'
        exact mix (.inr ⟨i', hi', eb⟩) true false (by rw [ea]; exact isiT_tup _ _) (isiT_pl b _ p2) rfl (by rw [ea]; exact isiB_tup _ _) (isiB_pl b _ p2)
      · subst ed ea eb
        have e1 : e = e' := by omega
        subst e1
        by_cases hlen : xs.length = ys.length
        · have cm : compM (gTp 2 (gsCons (gNm 2) (gsCons (gNm 3) gsNil))) mYes (mCall (g_is_same j) [] (mCons (mVar 2) (mCons (mVar 3) mNil))) [some (.tup xs), some (.tup ys), none, none] (zipT xs ys) (μ.map MO.lck) = .ok ((xs.zip ys).map fun p => T.bl (decide (sh e p.1 = sh e p.2))) (μ.map MO.lck) :=
            comp_map (fun p : T × T => T.tup [p.1, p.2]) (fun p => T.bl (decide (sh e p.1 = sh e p.2))) (xs.zip ys) fun p hp => by
              obtain ⟨h1, h2⟩ := List.of_mem_zip (show (p.1, p.2) ∈ xs.zip ys from hp)
              refine ⟨_, gtp2 _ _ _ _, rfl, ?_⟩
              show (mCall (g_is_same j) [] (mCons (mVar 2) (mCons (mVar 3) mNil))) [some (.tup xs), some (.tup ys), some p.1, some p.2] (μ.map MO.lck) = _
              simp only [r_seq, r_seq_nx, r_seq_rt, r_seq_bk, r_seq_ct, r_next, r_ret, r_retN, r_drop, r_ifS, r_asg, r_set, r_var, r_c, r_op, r_un, r_cl, r_nil, r_cons, r_tst, r_chain, r_tru, r_not, r_and, r_or, r_andV, r_orV, r_notV, r_if, r_call, r_par2, r_nm, r_snil, r_scons, r_tp, r_yes, r_fin, r_fz, r_lc, r_for, r_it, r_walk, r_few, r_tupG, r_lstG,
  List.getElem?_cons_zero, List.getElem?_cons_succ, List.set_cons_zero, List.set_cons_succ, Out.bind_ok, List.append_nil, List.nil_append, List.cons_append, if_true, if_false, Bool.false_eq_true, endO, same_ok e j p.1 p.2 (μ.map MO.lck) (by omega) (by omega) (hx _ h1) (hy _ h2)]
          have hd : decide ((xs.length : Int) = (ys.length : Int)) = true := decide_eq_true (by omega)
          have fw : few (zipT xs ys) = true := few_of (by unfold zipT; rw [List.length_map, List.length_zip]; omega)
          have wp : wipeR [some (T.tup xs), some (.tup ys), none, none] [2, 3] = [some (.tup xs), some (.tup ys), none, none] := rfl
          have ga := gAll_bls ((xs.zip ys).map fun p => decide (sh e p.1 = sh e p.2)) (μ.map MO.lck)
          rw [List.map_map] at ga
          have ga : gAll [.lst ((xs.zip ys).map fun p => T.bl (decide (sh e p.1 = sh e p.2)))] (μ.map MO.lck) = .ok (.bl (((xs.zip ys).map fun p => decide (sh e p.1 = sh e p.2)).all id)) (μ.map MO.lck) := ga
          have fin : (((xs.zip ys).map fun p => decide (sh e p.1 = sh e p.2)).all id) = decide (sh (e + 1) (.tup xs) = sh (e + 1) (.tup ys)) := by
            have h1 := zip_all hx hy hlen
            have h2 := repr_iff ha hb
            cases q : decide (sh (e + 1) (.tup xs) = sh (e + 1) (.tup ys)) with
            | true =>
              have := h2.mp (of_decide_eq_true q)
              injection this with this
              exact h1.mpr this
            | false =>
              cases q2 : (((xs.zip ys).map fun p => decide (sh e p.1 = sh e p.2)).all id) with
              | false => rfl
              | true =>
                have := h1.mp q2
                exact absurd (h2.mpr (by rw [this])) (of_decide_eq_false q)
          simp only [r_seq, r_seq_nx, r_seq_rt, r_seq_bk, r_seq_ct, r_next, r_ret, r_retN, r_drop, r_ifS, r_asg, r_set, r_var, r_c, r_op, r_un, r_cl, r_nil, r_cons, r_tst, r_chain, r_tru, r_not, r_and, r_or, r_andV, r_orV, r_notV, r_if, r_call, r_par2, r_nm, r_snil, r_scons, r_tp, r_yes, r_fin, r_fz, r_lc, r_for, r_it, r_walk, r_few, r_tupG, r_lstG,
  List.getElem?_cons_zero, List.getElem?_cons_succ, List.set_cons_zero, List.set_cons_succ, Out.bind_ok, List.append_nil, List.nil_append, List.cons_append, if_true, if_false, Bool.false_eq_true, endO, isiT_tup, tru_bl, gLen_tup, gEq_i, hd, truT_bl, itZ_tup, wp, fw, cm, ga, fin]
        · have z : sh (e + 1) (.tup xs) ≠ sh (e + 1) (.tup ys) := fun z => by
            have := (repr_iff ha hb).mp z
            injection this with this
            exact hlen (by rw [this])
          have hd : decide ((xs.length : Int) = (ys.length : Int)) = false := decide_eq_false (by omega)
          simp only [r_seq, r_seq_nx, r_seq_rt, r_seq_bk, r_seq_ct, r_next, r_ret, r_retN, r_drop, r_ifS, r_asg, r_set, r_var, r_c, r_op, r_un, r_cl, r_nil, r_cons, r_tst, r_chain, r_tru, r_not, r_and, r_or, r_andV, r_orV, r_notV, r_if, r_call, r_par2, r_nm, r_snil, r_scons, r_tp, r_yes, r_fin, r_fz, r_lc, r_for, r_it, r_walk, r_few, r_tupG, r_lstG,
  List.getElem?_cons_zero, List.getElem?_cons_succ, List.set_cons_zero, List.set_cons_succ, Out.bind_ok, List.append_nil, List.nil_append, List.cons_append, if_true, if_false, Bool.false_eq_true, endO, isiT_tup, tru_bl, gLen_tup, gEq_i, hd, truT_bl, decide_eq_false z]
end Mr

namespace Mr
open PySem PySem.Spec PyProof.Rows L2 TL

/-! ### checks -/
def isI : T → Bool
  | .int _ => true | _ => false
def isLs : T → Bool
  | .lst _ => true | .tup _ => true | _ => false
/-- a value as it is drawn: plain, a list, a tuple -/
def Val (t : T) : Prop := isPl t = true ∨ ∃ ts, t = .lst ts ∨ t = .tup ts
theorem Good.val {d : Nat} {t : T} (h : Good d t) : Val t := by
  cases d with
  | zero =>
    obtain ⟨i, _, e⟩ := h
    rw [e]
    exact .inl (pl_at i)
  | succ d =>
    rcases h with ⟨i, _, e⟩ | ⟨ts, e, _⟩
    · rw [e]; exact .inl (pl_at i)
    · exact .inr ⟨ts, e⟩
theorem val_isi (t : T) (μ : Mu) (h : Val t) : gIsi isc0 ist0 [t, .ty 2] μ = .ok (.bl (isI t || isBl t)) μ ∧ gIsi isc0 ist0 [t, .ty 1] μ = .ok (.bl (isBl t)) μ ∧ gIsi isc0 ist0 [t, .tup [.ty 4, .ty 5]] μ = .ok (.bl (isLs t)) μ := by
  rcases h with h | ⟨ts, e | e⟩
  · cases t <;> first | exact ⟨rfl, rfl, rfl⟩ | cases h
  · rw [e]; exact ⟨rfl, rfl, rfl⟩
  · rw [e]; exact ⟨rfl, rfl, rfl⟩
theorem isI_bl (t : T) (h : isI t = true) : isBl t = false := by cases t <;> first | rfl | cases h
theorem number_ok (t : T) (μ : Mu) (h : Val t) : g_is_integer [t] μ = .ok (.bl (isI t)) μ ∧ g__law_is_number [t] μ = .ok (.bl (isI t)) μ := by
  have go : endO (mRet (mAndV (mCl (gIsi isc0 ist0) (mCons (mVar 0) (mCons (mC (.ty 2)) mNil))) (mNotV (mCl (gIsi isc0 ist0) (mCons (mVar 0) (mCons (mC (.ty 1)) mNil))))) [some t] (μ.map MO.lck)) = .ok (.bl (isI t)) (μ.map MO.lck) := by
    obtain ⟨h1, h2, _⟩ := val_isi t (μ.map MO.lck) h
    cases q : isI t with
    | true =>
      rw [q, isI_bl t q] at h1
      rw [isI_bl t q] at h2
      simp only [r_seq, r_seq_nx, r_seq_rt, r_seq_bk, r_seq_ct, r_next, r_ret, r_retN, r_drop, r_ifS, r_asg, r_set, r_var, r_c, r_op, r_un, r_cl, r_nil, r_cons, r_tst, r_chain, r_tru, r_not, r_and, r_or, r_andV, r_orV, r_notV, r_if, r_call, r_par2, r_nm, r_snil, r_scons, r_tp, r_yes, r_fin, r_fz, r_lc, r_for, r_it, r_walk, r_few, r_tupG, r_lstG,
  List.getElem?_cons_zero, List.getElem?_cons_succ, List.set_cons_zero, List.set_cons_succ, Out.bind_ok, List.append_nil, List.nil_append, List.cons_append, if_true, if_false, Bool.false_eq_true, endO, h1, h2, truT_bl, Bool.true_or, Bool.not_false]
    | false =>
      cases q2 : isBl t with
      | false =>
        rw [q, q2] at h1
        simp only [r_seq, r_seq_nx, r_seq_rt, r_seq_bk, r_seq_ct, r_next, r_ret, r_retN, r_drop, r_ifS, r_asg, r_set, r_var, r_c, r_op, r_un, r_cl, r_nil, r_cons, r_tst, r_chain, r_tru, r_not, r_and, r_or, r_andV, r_orV, r_notV, r_if, r_call, r_par2, r_nm, r_snil, r_scons, r_tp, r_yes, r_fin, r_fz, r_lc, r_for, r_it, r_walk, r_few, r_tupG, r_lstG,
  List.getElem?_cons_zero, List.getElem?_cons_succ, List.set_cons_zero, List.set_cons_succ, Out.bind_ok, List.append_nil, List.nil_append, List.cons_append, if_true, if_false, Bool.false_eq_true, endO, h1, truT_bl, Bool.or_self]
      | true =>
        rw [q, q2] at h1
        rw [q2] at h2
        simp only [r_seq, r_seq_nx, r_seq_rt, r_seq_bk, r_seq_ct, r_next, r_ret, r_retN, r_drop, r_ifS, r_asg, r_set, r_var, r_c, r_op, r_un, r_cl, r_nil, r_cons, r_tst, r_chain, r_tru, r_not, r_and, r_or, r_andV, r_orV, r_notV, r_if, r_call, r_par2, r_nm, r_snil, r_scons, r_tp, r_yes, r_fin, r_fz, r_lc, r_for, r_it, r_walk, r_few, r_tupG, r_lstG,
  List.getElem?_cons_zero, List.getElem?_cons_succ, List.set_cons_zero, List.set_cons_succ, Out.bind_ok, List.append_nil, List.nil_append, List.cons_append, if_true, if_false, Bool.false_eq_true, endO, h1, h2, truT_bl, Bool.or_true, Bool.not_true]
  exact ⟨fn_pure (k := 1) (ts := [t]) rfl go, fn_pure (k := 1) (ts := [t]) rfl go⟩
def wthn (t : T) (l h : Int) : Bool := match t with
  | .int i => decide (l ≤ i) && decide (i ≤ h)
  | _ => false
theorem chain3 {m1 m2 m3 : ME} {ρ : Rho} {μ : Mu} {a b c : Int} (h1 : m1 ρ μ = .ok (.int a) μ) (h2 : m2 ρ μ = .ok (.int b) μ) (h3 : m3 ρ μ = .ok (.int c) μ) : mChain gLeS gLeS m1 m2 m3 ρ μ = .ok (.bl (decide (a ≤ b) && decide (b ≤ c))) μ := by
  rw [r_chain, h1]
  simp only [Out.bind_ok, h2, gLeS_i]
  cases decide (a ≤ b) with
  | true => simp only [h3, Out.bind_ok, gLeS_i, Bool.true_and]
  | false => simp only [Bool.false_and]
theorem within_ok (t : T) (l h : Int) (μ : Mu) (hv : Val t) : g_is_within [t, .int l, .int h] μ = .ok (.bl (wthn t l h)) μ := by
  refine fn_pure (k := 3) (ts := [_, _, _]) rfl ?_
  show endO (m_is_within [some t, some (.int l), some (.int h)] (μ.map MO.lck)) = _
  unfold m_is_within
  have e := (number_ok t (μ.map MO.lck) hv).1
  cases t with
  | int i =>
    have c := chain3 (m1 := mVar 1) (m2 := mVar 0) (m3 := mVar 2) (ρ := [some (.int i), some (.int l), some (.int h)]) (μ := μ.map MO.lck) (a := l) (b := i) (c := h) rfl rfl rfl
    simp only [r_ret, r_andV, r_call, r_cons, r_nil, r_var, List.getElem?_cons_zero, List.getElem?_cons_succ, Out.bind_ok, List.append_nil, e, isI, truT_bl, c, endO, wthn]
  | _ =>
    simp only [r_seq, r_seq_nx, r_seq_rt, r_seq_bk, r_seq_ct, r_next, r_ret, r_retN, r_drop, r_ifS, r_asg, r_set, r_var, r_c, r_op, r_un, r_cl, r_nil, r_cons, r_tst, r_chain, r_tru, r_not, r_and, r_or, r_andV, r_orV, r_notV, r_if, r_call, r_par2, r_nm, r_snil, r_scons, r_tp, r_yes, r_fin, r_fz, r_lc, r_for, r_it, r_walk, r_few, r_tupG, r_lstG,
  List.getElem?_cons_zero, List.getElem?_cons_succ, List.set_cons_zero, List.set_cons_succ, Out.bind_ok, List.append_nil, List.nil_append, List.cons_append, if_true, if_false, Bool.false_eq_true, endO, e, isI, truT_bl, wthn]
theorem listed_ok (t : T) (μ : Mu) (hv : Val t) : g_is_listed [t] μ = .ok (.bl (isLs t)) μ := by
  refine fn_pure (k := 1) (ts := [_]) rfl ?_
  show endO (m_is_listed [some t] (μ.map MO.lck)) = _
  unfold m_is_listed
  have e := (val_isi t (μ.map MO.lck) hv).2.2
  simp only [r_seq, r_seq_nx, r_seq_rt, r_seq_bk, r_seq_ct, r_next, r_ret, r_retN, r_drop, r_ifS, r_asg, r_set, r_var, r_c, r_op, r_un, r_cl, r_nil, r_cons, r_tst, r_chain, r_tru, r_not, r_and, r_or, r_andV, r_orV, r_notV, r_if, r_call, r_par2, r_nm, r_snil, r_scons, r_tp, r_yes, r_fin, r_fz, r_lc, r_for, r_it, r_walk, r_few, r_tupG, r_lstG,
  List.getElem?_cons_zero, List.getElem?_cons_succ, List.set_cons_zero, List.set_cons_succ, Out.bind_ok, List.append_nil, List.nil_append, List.cons_append, if_true, if_false, Bool.false_eq_true, endO, few45, e]
def lenT : T → Nat
  | .lst ts => ts.length | .tup ts => ts.length | _ => 0
theorem lenT_ok (t : T) (μ : Mu) (h : isLs t = true) : gLen [t] μ = .ok (.int (lenT t : Nat)) μ := by
  cases t <;> first | rfl | cases h
theorem row_ok (t : T) (l h : Int) (μ : Mu) (hv : Val t) : g_is_row [t, .int l, .int h] μ = .ok (.bl (isLs t && (decide (l ≤ (lenT t : Int)) && decide ((lenT t : Int) ≤ h)))) μ := by
  refine fn_pure (k := 3) (ts := [_, _, _]) rfl ?_
  show endO (m_is_row [some t, some (.int l), some (.int h)] (μ.map MO.lck)) = _
  unfold m_is_row
  have e := listed_ok t (μ.map MO.lck) hv
  cases q : isLs t with
  | true =>
    rw [q] at e
    have c := chain3 (m1 := mVar 1) (m2 := mCl gLen (mCons (mVar 0) mNil)) (m3 := mVar 2) (ρ := [some t, some (.int l), some (.int h)]) (μ := μ.map MO.lck) (a := l) (b := (lenT t : Int)) (c := h) rfl (by simp only [r_seq, r_seq_nx, r_seq_rt, r_seq_bk, r_seq_ct, r_next, r_ret, r_retN, r_drop, r_ifS, r_asg, r_set, r_var, r_c, r_op, r_un, r_cl, r_nil, r_cons, r_tst, r_chain, r_tru, r_not, r_and, r_or, r_andV, r_orV, r_notV, r_if, r_call, r_par2, r_nm, r_snil, r_scons, r_tp, r_yes, r_fin, r_fz, r_lc, r_for, r_it, r_walk, r_few, r_tupG, r_lstG,
  List.getElem?_cons_zero, List.getElem?_cons_succ, List.set_cons_zero, List.set_cons_succ, Out.bind_ok, List.append_nil, List.nil_append, List.cons_append, if_true, if_false, Bool.false_eq_true, endO, lenT_ok t _ q]) rfl
    simp only [r_ret, r_andV, r_call, r_cons, r_nil, r_var, List.getElem?_cons_zero, List.getElem?_cons_succ, Out.bind_ok, List.append_nil, e, truT_bl, c, endO, Bool.true_and]
  | false =>
    rw [q] at e
    simp only [r_seq, r_seq_nx, r_seq_rt, r_seq_bk, r_seq_ct, r_next, r_ret, r_retN, r_drop, r_ifS, r_asg, r_set, r_var, r_c, r_op, r_un, r_cl, r_nil, r_cons, r_tst, r_chain, r_tru, r_not, r_and, r_or, r_andV, r_orV, r_notV, r_if, r_call, r_par2, r_nm, r_snil, r_scons, r_tp, r_yes, r_fin, r_fz, r_lc, r_for, r_it, r_walk, r_few, r_tupG, r_lstG,
  List.getElem?_cons_zero, List.getElem?_cons_succ, List.set_cons_zero, List.set_cons_succ, Out.bind_ok, List.append_nil, List.nil_append, List.cons_append, if_true, if_false, Bool.false_eq_true, endO, e, truT_bl, Bool.false_and]
/-! ### names -/
def Asc (x : List Nat) : Prop := ∀ c ∈ x, c < 128
def low (c : Nat) : Bool := decide (97 ≤ c) && decide (c ≤ 122)
def nm (x : List Nat) : Bool := (decide ((1 : Int) ≤ (x.length : Int)) && decide ((x.length : Int) ≤ 8)) && x.all low
abbrev LET : List Nat := [97, 98, 99, 100, 101, 102, 103, 104, 105, 106, 107, 108, 109, 110, 111, 112, 113, 114, 115, 116, 117, 118, 119, 120, 121, 122]
theorem let_low {c : Nat} (h : c < 128) : LET.elem c = low c := by
  have z : ∀ c : Fin 128, LET.elem c.val = low c.val := by decide +kernel
  exact z ⟨c, h⟩
theorem gLen_str {x : List Nat} (h : x.length ≤ 1000) (μ : Mu) : gLen [.str x] μ = .ok (.int (x.length : Nat)) μ := by
  show (if Nat.ble x.length 100000 = true then Out.ok (T.int (x.length : Nat)) μ else .bad) = _
  rw [if_pos (Nat.ble_eq_true_of_le (by omega))]
theorem few_sg {x : List Nat} (h : x.length ≤ 1000) : few (sgT x) = true := few_of (by unfold sgT; rw [List.length_map]; omega)
theorem itS2_str (x : List Nat) (μ : Mu) : itS2 (.str x) μ = .ok (.fz (sgT x)) μ := rfl
theorem isiS_str (x : List Nat) (μ : Mu) : gIsi isc0 ist0 [.str x, .ty 3] μ = .ok (.bl true) μ := rfl
theorem gIn_let (c : Nat) (μ : Mu) : gIn false (.str [c]) (.str LET) μ = .ok (.bl (LET.elem c)) μ := rfl
theorem all_map_low {x : List Nat} (h : Asc x) : (x.map fun c => LET.elem c).all id = x.all low := by
  rw [List.all_map]
  induction x with
  | nil => rfl
  | cons c x ih =>
    rw [List.all_cons, List.all_cons, ih fun d hd => h d (List.mem_cons_of_mem _ hd)]
    show (LET.elem c && _) = _
    rw [let_low (h c List.mem_cons_self)]
theorem name_str {x : List Nat} (hx : Asc x) (hl : x.length ≤ 1000) (μ : Mu) : g_is_name [.str x] μ = .ok (.bl (nm x)) μ := by
  refine fn_pure (k := 1) (ts := [_]) rfl ?_
  show endO (m_is_name [some (.str x), none] (μ.map MO.lck)) = _
  unfold m_is_name
  have c := chain3 (m1 := mC (.int 1)) (m2 := mCl gLen (mCons (mVar 0) mNil)) (m3 := mC (.int 8)) (ρ := [some (.str x), none]) (μ := μ.map MO.lck) (a := 1) (b := (x.length : Int)) (c := 8) rfl (by simp only [r_seq, r_seq_nx, r_seq_rt, r_seq_bk, r_seq_ct, r_next, r_ret, r_retN, r_drop, r_ifS, r_asg, r_set, r_var, r_c, r_op, r_un, r_cl, r_nil, r_cons, r_tst, r_chain, r_tru, r_not, r_and, r_or, r_andV, r_orV, r_notV, r_if, r_call, r_par2, r_nm, r_snil, r_scons, r_tp, r_yes, r_fin, r_fz, r_lc, r_for, r_it, r_walk, r_few, r_tupG, r_lstG,
  List.getElem?_cons_zero, List.getElem?_cons_succ, List.set_cons_zero, List.set_cons_succ, Out.bind_ok, List.append_nil, List.nil_append, List.cons_append, if_true, if_false, Bool.false_eq_true, endO, gLen_str hl]) rfl
  have cm : compM (gNm 1) mYes (mOp (gIn false) (mVar 1) (mC (.str LET))) [some (.str x), none] (sgT x) (μ.map MO.lck) = .ok (x.map fun c => T.bl (LET.elem c)) (μ.map MO.lck) :=
    comp_map (fun c : Nat => T.str [c]) (fun c => T.bl (LET.elem c)) x fun c _ => ⟨_, rfl, rfl, rfl⟩
  have ga := gAll_bls (x.map fun c => LET.elem c) (μ.map MO.lck)
  rw [List.map_map, all_map_low hx] at ga
  have ga : gAll [.lst (x.map fun c => T.bl (LET.elem c))] (μ.map MO.lck) = .ok (.bl (x.all low)) (μ.map MO.lck) := ga
  have wp : wipeR [some (T.str x), none] [1] = [some (.str x), none] := rfl
  unfold nm
  simp only [r_ret, r_andV, r_cl, r_cons, r_nil, r_var, r_c, List.getElem?_cons_zero, List.getElem?_cons_succ, Out.bind_ok, isiS_str, truT_bl, c]
  cases (decide ((1 : Int) ≤ (x.length : Int)) && decide ((x.length : Int) ≤ 8)) with
  | true => simp only [r_seq, r_seq_nx, r_seq_rt, r_seq_bk, r_seq_ct, r_next, r_ret, r_retN, r_drop, r_ifS, r_asg, r_set, r_var, r_c, r_op, r_un, r_cl, r_nil, r_cons, r_tst, r_chain, r_tru, r_not, r_and, r_or, r_andV, r_orV, r_notV, r_if, r_call, r_par2, r_nm, r_snil, r_scons, r_tp, r_yes, r_fin, r_fz, r_lc, r_for, r_it, r_walk, r_few, r_tupG, r_lstG,
  List.getElem?_cons_zero, List.getElem?_cons_succ, List.set_cons_zero, List.set_cons_succ, Out.bind_ok, List.append_nil, List.nil_append, List.cons_append, if_true, if_false, Bool.false_eq_true, endO, r_itS2, itS2_str, wp, few_sg hl, cm, ga, Bool.true_and]
  | false => simp only [r_seq, r_seq_nx, r_seq_rt, r_seq_bk, r_seq_ct, r_next, r_ret, r_retN, r_drop, r_ifS, r_asg, r_set, r_var, r_c, r_op, r_un, r_cl, r_nil, r_cons, r_tst, r_chain, r_tru, r_not, r_and, r_or, r_andV, r_orV, r_notV, r_if, r_call, r_par2, r_nm, r_snil, r_scons, r_tp, r_yes, r_fin, r_fz, r_lc, r_for, r_it, r_walk, r_few, r_tupG, r_lstG,
  List.getElem?_cons_zero, List.getElem?_cons_succ, List.set_cons_zero, List.set_cons_succ, Out.bind_ok, List.append_nil, List.nil_append, List.cons_append, if_true, if_false, Bool.false_eq_true, endO, Bool.false_and]
theorem name_no {t : T} (hv : Val t) (h : ∀ x, t ≠ .str x) (μ : Mu) : g_is_name [t] μ = .ok (.bl false) μ := by
  refine fn_pure (k := 1) (ts := [_]) rfl ?_
  show endO (m_is_name [some t, none] (μ.map MO.lck)) = _
  unfold m_is_name
  have e : gIsi isc0 ist0 [t, .ty 3] (μ.map MO.lck) = .ok (.bl false) (μ.map MO.lck) := by
    rcases hv with hv | ⟨ts, e | e⟩
    · cases t <;> first | rfl | exact absurd rfl (h _) | cases hv
    · rw [e]; rfl
    · rw [e]; rfl
  simp only [r_seq, r_seq_nx, r_seq_rt, r_seq_bk, r_seq_ct, r_next, r_ret, r_retN, r_drop, r_ifS, r_asg, r_set, r_var, r_c, r_op, r_un, r_cl, r_nil, r_cons, r_tst, r_chain, r_tru, r_not, r_and, r_or, r_andV, r_orV, r_notV, r_if, r_call, r_par2, r_nm, r_snil, r_scons, r_tp, r_yes, r_fin, r_fz, r_lc, r_for, r_it, r_walk, r_few, r_tupG, r_lstG,
  List.getElem?_cons_zero, List.getElem?_cons_succ, List.set_cons_zero, List.set_cons_succ, Out.bind_ok, List.append_nil, List.nil_append, List.cons_append, if_true, if_false, Bool.false_eq_true, endO, e, truT_bl]
abbrev RES : List T := [.str [108, 111, 97, 100], .str [115, 116, 111, 114, 101], .str [99, 97, 108, 108], .str [103, 105, 118, 101], .str [103, 111], .str [105, 110], .str [97, 115, 107]]
theorem gIn_res (x : List Nat) (μ : Mu) : gIn true (.str x) (.tup RES) μ = .ok (.bl (!inT (.str x) RES)) μ := rfl
theorem word_str {x : List Nat} (hx : Asc x) (hl : x.length ≤ 1000) (μ : Mu) : g_is_word [.str x] μ = .ok (.bl (nm x && !inT (.str x) RES)) μ := by
  refine fn_pure (k := 1) (ts := [_]) rfl ?_
  show endO (m_is_word [some (.str x)] (μ.map MO.lck)) = _
  unfold m_is_word
  have e := name_str hx hl (μ.map MO.lck)
  cases q : nm x with
  | true =>
    rw [q] at e
    simp only [r_seq, r_seq_nx, r_seq_rt, r_seq_bk, r_seq_ct, r_next, r_ret, r_retN, r_drop, r_ifS, r_asg, r_set, r_var, r_c, r_op, r_un, r_cl, r_nil, r_cons, r_tst, r_chain, r_tru, r_not, r_and, r_or, r_andV, r_orV, r_notV, r_if, r_call, r_par2, r_nm, r_snil, r_scons, r_tp, r_yes, r_fin, r_fz, r_lc, r_for, r_it, r_walk, r_few, r_tupG, r_lstG,
  List.getElem?_cons_zero, List.getElem?_cons_succ, List.set_cons_zero, List.set_cons_succ, Out.bind_ok, List.append_nil, List.nil_append, List.cons_append, if_true, if_false, Bool.false_eq_true, endO, e, truT_bl, gIn_res, Bool.true_and]
  | false =>
    rw [q] at e
    simp only [r_seq, r_seq_nx, r_seq_rt, r_seq_bk, r_seq_ct, r_next, r_ret, r_retN, r_drop, r_ifS, r_asg, r_set, r_var, r_c, r_op, r_un, r_cl, r_nil, r_cons, r_tst, r_chain, r_tru, r_not, r_and, r_or, r_andV, r_orV, r_notV, r_if, r_call, r_par2, r_nm, r_snil, r_scons, r_tp, r_yes, r_fin, r_fz, r_lc, r_for, r_it, r_walk, r_few, r_tupG, r_lstG,
  List.getElem?_cons_zero, List.getElem?_cons_succ, List.set_cons_zero, List.set_cons_succ, Out.bind_ok, List.append_nil, List.nil_append, List.cons_append, if_true, if_false, Bool.false_eq_true, endO, e, truT_bl, Bool.false_and]
/-- the signs that a name is drawn from -/
abbrev ALP : List Nat := [97, 98, 121, 122, 48, 65, 95, 32, 109]
def Alp (x : List Nat) : Prop := ∀ c ∈ x, c ∈ ALP
theorem Alp.asc {x : List Nat} (h : Alp x) : Asc x := fun c hc => by
  have z : ∀ c ∈ ALP, c < 128 := by decide
  exact z c (h c hc)
theorem alp_res {x : List Nat} (h : Alp x) : inT (.str x) RES = false := by
  have no : ∀ (w : List Nat) (c : Nat), c ∈ w → c ∉ ALP → eqNs w x = false := fun w c hc hn => by
    cases q : eqNs w x with
    | false => rfl
    | true =>
      have e := eqNs_iff.mp q
      subst e
      exact absurd (h c hc) hn
  simp only [inT, eqF, no _ 108 (show 108 ∈ [108, 111, 97, 100] by decide) (by decide), no _ 115 (show 115 ∈ [115, 116, 111, 114, 101] by decide) (by decide), no _ 99 (show 99 ∈ [99, 97, 108, 108] by decide) (by decide), no _ 103 (show 103 ∈ [103, 105, 118, 101] by decide) (by decide),
    no _ 103 (show 103 ∈ [103, 111] by decide) (by decide), no _ 105 (show 105 ∈ [105, 110] by decide) (by decide), no _ 115 (show 115 ∈ [97, 115, 107] by decide) (by decide), Bool.or_self]
/-- a row of names -/
theorem names2 {x : List Nat} (hx : Asc x) (hl : x.length ≤ 1000) (μ : Mu) : g_are_names [.lst [.str x, .str [97]], .int 1, .int 2] μ = .ok (.bl (nm x)) μ := by
  refine fn_pure (k := 3) (ts := [_, _, _]) rfl ?_
  show endO (m_are_names [some (.lst [.str x, .str [97]]), some (.int 1), some (.int 2), none] (μ.map MO.lck)) = _
  unfold m_are_names
  have r : g_is_row [.lst [.str x, .str [97]], .int 1, .int 2] (μ.map MO.lck) = .ok (.bl true) (μ.map MO.lck) := row_ok _ 1 2 _ (.inr ⟨_, .inl rfl⟩)
  have n1 := name_str hx hl (μ.map MO.lck)
  have n2 : g_is_name [.str [97]] (μ.map MO.lck) = .ok (.bl true) (μ.map MO.lck) := name_str (x := [97]) (by intro c hc; simp at hc; omega) (by decide) _
  have wp : wipeR [some (T.lst [.str x, .str [97]]), some (.int 1), some (.int 2), none] [3] = [some (T.lst [.str x, .str [97]]), some (.int 1), some (.int 2), none] := rfl
  have cm : compM (gNm 3) mYes (mCall g_is_name [] (mCons (mVar 3) mNil)) [some (T.lst [.str x, .str [97]]), some (.int 1), some (.int 2), none] [.str x, .str [97]] (μ.map MO.lck) = .ok [.bl (nm x), .bl true] (μ.map MO.lck) := by
    simp only [compM, r_nm, r_yes, noX_ok, Out.bind_ok, if_true, List.set_cons_succ, List.set_cons_zero, r_call, r_cons, r_nil, r_var, List.getElem?_cons_zero, List.getElem?_cons_succ, List.append_nil, n1, n2]
  have ga : gAll [.lst [.bl (nm x), .bl true]] (μ.map MO.lck) = .ok (.bl (nm x)) (μ.map MO.lck) := by
    have z := gAll_bls [nm x, true] (μ.map MO.lck)
    simpa using z
  simp only [r_seq, r_seq_nx, r_seq_rt, r_seq_bk, r_seq_ct, r_next, r_ret, r_retN, r_drop, r_ifS, r_asg, r_set, r_var, r_c, r_op, r_un, r_cl, r_nil, r_cons, r_tst, r_chain, r_tru, r_not, r_and, r_or, r_andV, r_orV, r_notV, r_if, r_call, r_par2, r_nm, r_snil, r_scons, r_tp, r_yes, r_fin, r_fz, r_lc, r_for, r_it, r_walk, r_few, r_tupG, r_lstG,
  List.getElem?_cons_zero, List.getElem?_cons_succ, List.set_cons_zero, List.set_cons_succ, Out.bind_ok, List.append_nil, List.nil_append, List.cons_append, if_true, if_false, Bool.false_eq_true, endO, r, truT_bl, r_itS2, itS2_lst, wp, show few [T.str x, T.str [97]] = true from rfl, cm, ga]
theorem names1 {x : List Nat} (μ : Mu) : g_are_names [.tup [.str x], .int 2, .int 3] μ = .ok (.bl false) μ := by
  refine fn_pure (k := 3) (ts := [_, _, _]) rfl ?_
  show endO (m_are_names [some (.tup [.str x]), some (.int 2), some (.int 3), none] (μ.map MO.lck)) = _
  unfold m_are_names
  have r : g_is_row [.tup [.str x], .int 2, .int 3] (μ.map MO.lck) = .ok (.bl false) (μ.map MO.lck) := row_ok _ 2 3 _ (.inr ⟨_, .inr rfl⟩)
  simp only [r_seq, r_seq_nx, r_seq_rt, r_seq_bk, r_seq_ct, r_next, r_ret, r_retN, r_drop, r_ifS, r_asg, r_set, r_var, r_c, r_op, r_un, r_cl, r_nil, r_cons, r_tst, r_chain, r_tru, r_not, r_and, r_or, r_andV, r_orV, r_notV, r_if, r_call, r_par2, r_nm, r_snil, r_scons, r_tp, r_yes, r_fin, r_fz, r_lc, r_for, r_it, r_walk, r_few, r_tupG, r_lstG,
  List.getElem?_cons_zero, List.getElem?_cons_succ, List.set_cons_zero, List.set_cons_succ, Out.bind_ok, List.append_nil, List.nil_append, List.cons_append, if_true, if_false, Bool.false_eq_true, endO, r, truT_bl]
/-! ### rows of ints -/
def ascI (is : List Int) : Bool := (is.zip (is.drop 1)).all fun p => decide (p.1 < p.2)
theorem gtp12 (x y : T) (ρ : Rho) (μ : Mu) : gTp 2 (gsCons (gNm 1) (gsCons (gNm 2) gsNil)) (.tup [x, y]) ρ μ = .ok ((ρ.set 1 (some x)).set 2 (some y)) μ := rfl
theorem slice1 (ts : List T) (μ : Mu) : gSl fzT (.lst ts) (some 1) none μ = .ok (.lst (ts.drop 1)) μ := by
  have e : cutT ts (some 1) none = ts.drop 1 := by
    unfold cutT
    have e1 : HT.sIx ts.length ts.length none = ts.length := rfl
    have e0 : HT.sIx ts.length 0 (some 1) = min 1 ts.length := by
      unfold HT.sIx
      simp <;> omega
    rw [e1, e0]
    cases ts with
    | nil => rfl
    | cons t ts =>
      have : min 1 (t :: ts).length = 1 := by simp
      rw [this, List.take_of_length_le (by simp)]
  show (match asLst μ (.lst ts) with
    | some us => fzT (cutT us (some 1) none) μ
    | none => .bad) = _
  show fzT (cutT ts (some 1) none) μ = _
  rw [e]
  rfl
theorem asc_ok {is : List Int} (hl : is.length ≤ 1000) (μ : Mu) : g_is_ascending [.lst (is.map T.int)] μ = .ok (.bl (ascI is)) μ := by
  refine fn_pure (k := 1) (ts := [_]) rfl ?_
  show endO (m_is_ascending [some (.lst (is.map T.int)), none, none] (μ.map MO.lck)) = _
  unfold m_is_ascending
  have sl : mSl fzT (mVar 0) (mPS (mC (.int 1))) mPN [some (.lst (is.map T.int)), none, none] (μ.map MO.lck) = .ok (.lst ((is.drop 1).map T.int)) (μ.map MO.lck) := by
    show gSl fzT (.lst (is.map T.int)) (some 1) none (μ.map MO.lck) = _
    rw [slice1, List.map_drop]
  have wp : wipeR [some (T.lst (is.map T.int)), none, none] [1, 2] = [some (T.lst (is.map T.int)), none, none] := rfl
  have iz : itZ [.lst (is.map T.int), .lst ((is.drop 1).map T.int)] (μ.map MO.lck) = .ok (.fz ((is.zip (is.drop 1)).map fun p => T.tup [.int p.1, .int p.2])) (μ.map MO.lck) := by
    show Out.ok (Wk.fz (zipT _ _)) _ = _
    unfold zipT
    rw [List.zip_map, List.map_map] <;> rfl
  have fw : few ((is.zip (is.drop 1)).map fun p => T.tup [.int p.1, .int p.2]) = true := few_of (by rw [List.length_map, List.length_zip]; omega)
  have cm : compM (gTp 2 (gsCons (gNm 1) (gsCons (gNm 2) gsNil))) mYes (mOp gLt (mVar 1) (mVar 2)) [some (T.lst (is.map T.int)), none, none] ((is.zip (is.drop 1)).map fun p => T.tup [.int p.1, .int p.2]) (μ.map MO.lck) = .ok ((is.zip (is.drop 1)).map fun p => T.bl (decide (p.1 < p.2))) (μ.map MO.lck) :=
    comp_map (fun p : Int × Int => T.tup [.int p.1, .int p.2]) (fun p => T.bl (decide (p.1 < p.2))) (is.zip (is.drop 1)) fun p _ => ⟨_, gtp12 _ _ _ _, rfl, rfl⟩
  have ga := gAll_bls ((is.zip (is.drop 1)).map fun p => decide (p.1 < p.2)) (μ.map MO.lck)
  rw [List.map_map, List.all_map] at ga
  have ga : gAll [.lst ((is.zip (is.drop 1)).map fun p => T.bl (decide (p.1 < p.2)))] (μ.map MO.lck) = .ok (.bl (ascI is)) (μ.map MO.lck) := ga
  simp only [r_seq, r_seq_nx, r_seq_rt, r_seq_bk, r_seq_ct, r_next, r_ret, r_retN, r_drop, r_ifS, r_asg, r_set, r_var, r_c, r_op, r_un, r_cl, r_nil, r_cons, r_tst, r_chain, r_tru, r_not, r_and, r_or, r_andV, r_orV, r_notV, r_if, r_call, r_par2, r_nm, r_snil, r_scons, r_tp, r_yes, r_fin, r_fz, r_lc, r_for, r_it, r_walk, r_few, r_tupG, r_lstG,
  List.getElem?_cons_zero, List.getElem?_cons_succ, List.set_cons_zero, List.set_cons_succ, Out.bind_ok, List.append_nil, List.nil_append, List.cons_append, if_true, if_false, Bool.false_eq_true, endO, sl, iz, wp, fw, cm, ga]
theorem asInts_map : ∀ is : List Int, asInts (is.map T.int) = some is
  | [] => rfl
  | i :: is => by
    show (match asInts (is.map T.int) with
      | some js => some (i :: js)
      | none => none) = _
    rw [asInts_map is]
theorem lenSet_ok {m : ME} {ρ : Rho} {μ : Mu} {is : List Int} (h : m ρ μ = .ok (.lst (is.map T.int)) μ) (hl : is.length ≤ 1000) : mLenSet m ρ μ = .ok (.int ((dedI is).length : Nat)) μ := by
  unfold mLenSet
  rw [h]
  show (match asInts (is.map T.int) with
    | some ns => if Nat.ble ns.length 1000 = true then Out.ok (T.int ((dedI ns).length : Nat)) μ else .bad
    | none => .bad) = _
  rw [asInts_map]
  simp only [Nat.ble_eq_true_of_le hl, if_true]
theorem sortSet_ok {m : ME} {ρ : Rho} {μ : Mu} {is : List Int} (h : m ρ μ = .ok (.lst (is.map T.int)) μ) (hl : is.length < 64) : mSortSet fzT m ρ μ = .ok (.lst ((sortU is).map T.int)) μ := by
  unfold mSortSet
  rw [h]
  show (match asInts (is.map T.int) with
    | some ns => if Nat.blt ns.length 64 = true then fzT ((sortU ns).map T.int) μ else .bad
    | none => .bad) = _
  rw [asInts_map]
  simp only [show Nat.blt is.length 64 = true from Nat.ble_eq_true_of_le hl, if_true, r_fz]
theorem unlike_ok {is : List Int} (hl : is.length ≤ 1000) (μ : Mu) : g_are_unlike [.lst (is.map T.int)] μ = .ok (.bl (decide (((dedI is).length : Int) = (is.length : Int)))) μ := by
  refine fn_pure (k := 1) (ts := [_]) rfl ?_
  show endO (m_are_unlike [some (.lst (is.map T.int))] (μ.map MO.lck)) = _
  unfold m_are_unlike
  have l := lenSet_ok (m := mVar 0) (ρ := [some (.lst (is.map T.int))]) (μ := μ.map MO.lck) (is := is) rfl hl
  simp only [r_seq, r_seq_nx, r_seq_rt, r_seq_bk, r_seq_ct, r_next, r_ret, r_retN, r_drop, r_ifS, r_asg, r_set, r_var, r_c, r_op, r_un, r_cl, r_nil, r_cons, r_tst, r_chain, r_tru, r_not, r_and, r_or, r_andV, r_orV, r_notV, r_if, r_call, r_par2, r_nm, r_snil, r_scons, r_tp, r_yes, r_fin, r_fz, r_lc, r_for, r_it, r_walk, r_few, r_tupG, r_lstG,
  List.getElem?_cons_zero, List.getElem?_cons_succ, List.set_cons_zero, List.set_cons_succ, Out.bind_ok, List.append_nil, List.nil_append, List.cons_append, if_true, if_false, Bool.false_eq_true, endO, l, gLen_lst, List.length_map, gEq_i]
/-- as few as these rows are -/
theorem rows_tab : ∀ a b c : Fin 4, ∀ n : Fin 4, ascI ((([a.val, b.val, c.val] : List Nat).map fun i : Nat => (i : Int)).take n.val) = decide (((([a.val, b.val, c.val] : List Nat).map fun i : Nat => (i : Int)).take n.val) = sortU ((([a.val, b.val, c.val] : List Nat).map fun i : Nat => (i : Int)).take n.val)) := by decide +kernel
def Row (i : Int) : Prop := 0 ≤ i ∧ i < 4
theorem rows_asc {is : List Int} (hl : is.length ≤ 3) (h : ∀ i ∈ is, Row i) : ascI is = decide (is = sortU is) := by
  have fin : ∀ i, Row i → ∃ n : Fin 4, (n.val : Int) = i := fun i hi => ⟨⟨i.toNat, by have := hi.1; have := hi.2; omega⟩, by have := hi.1; show (i.toNat : Int) = i; omega⟩
  match is, hl, h with
  | [], _, _ => exact rows_tab 0 0 0 0
  | [a], _, h =>
    obtain ⟨a', ea⟩ := fin a (h a (by simp))
    subst ea
    exact rows_tab a' 0 0 1
  | [a, b], _, h =>
    obtain ⟨a', ea⟩ := fin a (h a (by simp))
    obtain ⟨b', eb⟩ := fin b (h b (by simp))
    subst ea eb
    exact rows_tab a' b' 0 2
  | [a, b, c], _, h =>
    obtain ⟨a', ea⟩ := fin a (h a (by simp))
    obtain ⟨b', eb⟩ := fin b (h b (by simp))
    obtain ⟨c', ec⟩ := fin c (h c (by simp))
    subst ea eb ec
    exact rows_tab a' b' c' 3
  | _ :: _ :: _ :: _ :: _, hl, _ => exact absurd hl (by simp)
/-! ### picks, the drawn name -/
theorem pick_str {x : List Nat} {N : Int} {μ : Mu} (hp : Pen N μ) (hN : N < 1000000) (h2 : 2 ≤ x.length) (hl : x.length < 1000) : ∃ c μ', c ∈ x ∧ Pen (N + 1) μ' ∧ g__law_pick [.mr 0, .str x] μ = .ok (.str [c]) μ' := by
  obtain ⟨d, μ', d0, d1, p, e⟩ := draw (many := (x.length : Int)) hp hN (by omega) (by omega)
  obtain ⟨n, hn⟩ : ∃ n : Nat, d = (n : Int) := ⟨d.toNat, by omega⟩
  subst hn
  have hnl : n < x.length := by omega
  refine ⟨x[n], μ', List.getElem_mem _, p, ?_⟩
  unfold g__law_pick
  rw [fn_k (k := 2) (ts := [_, _]) rfl]
  show endO (m__law_pick [some (.mr 0), some (.str x)] μ) = _
  unfold m__law_pick
  have gi : gIx (.str x) (.int (n : Int)) μ' = .ok (.str [x[n]]) μ' := by
    show (if Nat.ble x.length 100000 = true then match L2.atI x (n : Int) with
      | some c => Out.ok (T.str [c]) μ'
      | none => .bad
    else .bad) = _
    rw [if_pos (Nat.ble_eq_true_of_le (by omega)), atI_nat (List.getElem?_eq_getElem hnl)]
  simp only [r_seq, r_seq_nx, r_seq_rt, r_seq_bk, r_seq_ct, r_next, r_ret, r_retN, r_drop, r_ifS, r_asg, r_set, r_var, r_c, r_op, r_un, r_cl, r_nil, r_cons, r_tst, r_chain, r_tru, r_not, r_and, r_or, r_andV, r_orV, r_notV, r_if, r_call, r_par2, r_nm, r_snil, r_scons, r_tp, r_yes, r_fin, r_fz, r_lc, r_for, r_it, r_walk, r_few, r_tupG, r_lstG,
  List.getElem?_cons_zero, List.getElem?_cons_succ, List.set_cons_zero, List.set_cons_succ, Out.bind_ok, List.append_nil, List.nil_append, List.cons_append, if_true, if_false, Bool.false_eq_true, endO, gLen_str (Nat.le_of_lt hl), e, gi]
theorem pick_lst {ts : List T} {N : Int} {μ : Mu} (hp : Pen N μ) (hN : N < 1000000) (h2 : 2 ≤ ts.length) (hl : ts.length < 1000) : ∃ u μ', u ∈ ts ∧ Pen (N + 1) μ' ∧ g__law_pick [.mr 0, .lst ts] μ = .ok u μ' := by
  obtain ⟨d, μ', d0, d1, p, e⟩ := draw (many := (ts.length : Int)) hp hN (by omega) (by omega)
  obtain ⟨n, hn⟩ : ∃ n : Nat, d = (n : Int) := ⟨d.toNat, by omega⟩
  subst hn
  have hnl : n < ts.length := by omega
  refine ⟨ts[n], μ', List.getElem_mem _, p, ?_⟩
  unfold g__law_pick
  rw [fn_k (k := 2) (ts := [_, _]) rfl]
  show endO (m__law_pick [some (.mr 0), some (.lst ts)] μ) = _
  unfold m__law_pick
  have gi : gIx (.lst ts) (.int (n : Int)) μ' = .ok ts[n] μ' := ix_seq' (ts := ts) rfl (atI_nat (List.getElem?_eq_getElem hnl))
  simp only [r_seq, r_seq_nx, r_seq_rt, r_seq_bk, r_seq_ct, r_next, r_ret, r_retN, r_drop, r_ifS, r_asg, r_set, r_var, r_c, r_op, r_un, r_cl, r_nil, r_cons, r_tst, r_chain, r_tru, r_not, r_and, r_or, r_andV, r_orV, r_notV, r_if, r_call, r_par2, r_nm, r_snil, r_scons, r_tp, r_yes, r_fin, r_fz, r_lc, r_for, r_it, r_walk, r_few, r_tupG, r_lstG,
  List.getElem?_cons_zero, List.getElem?_cons_succ, List.set_cons_zero, List.set_cons_succ, Out.bind_ok, List.append_nil, List.nil_append, List.cons_append, if_true, if_false, Bool.false_eq_true, endO, gLen_lst, e, gi]
theorem join_signs : ∀ {us : List T}, (∀ u ∈ us, ∃ c, c ∈ ALP ∧ u = .str [c]) → ∃ x : List Nat, x.length = us.length ∧ Alp x ∧ asStrs us = some (x.map fun c => [c]) ∧ joinL [] (x.map fun c => [c]) = x
  | [], _ => ⟨[], rfl, (fun _ h => nomatch h), rfl, rfl⟩
  | u :: us, h => by
    obtain ⟨c, hc, e⟩ := h u List.mem_cons_self
    obtain ⟨x, h1, h2, h3, h4⟩ := join_signs fun v hv => h v (List.mem_cons_of_mem _ hv)
    subst e
    refine ⟨c :: x, by rw [List.length_cons, List.length_cons, h1], fun d hd => ?_, ?_, ?_⟩
    · rcases List.mem_cons.mp hd with e | e
      · rw [e]; exact hc
      · exact h2 d e
    · show (match asStrs us with
        | some xs => some ([c] :: xs)
        | none => none) = _
      rw [h3] <;> rfl
    · cases x with
      | nil => rfl
      | cons d x =>
        show [c] ++ ([] ++ joinL [] ((d :: x).map fun c => [c])) = _
        rw [h4] <;> rfl
end Mr

namespace Mr
open PySem PySem.Spec PyProof.Rows L2 TL

/-! ### errors -/
abbrev ERR (one other : T) : List T := [.err 7310868735422914882 xns0 [one],
  .err 2110234346299031052610 xns1 [one],
  .err 133507968132003860404527426 xns2 [one],
  .err 28559193059647810 xns3 [one],
  .err 2110240263840328868162 xns4 [one],
  .err 28273320204198210 xns5 [one],
  .err 111520458370894 xns6 [one],
  .err 127996039227725 xns7 [one],
  .err 29113321604280142 xns8 [one],
  .err 32783473901330754 xns9 [one, other],
  .err 34179836372021076 xns10 [one, other],
  .err 131320007385410 xns11 [one, other, .int 5]]
theorem q2_ok {x0 x2 x3 x4 x5 x6 x7 x8 x9 x10 x11 x12 x13 x14 x15 x16 x17 x18 x19 x20 x21 : Option T} (one other : T) (o : MO) : q_law_2 [x0, some (.mr 0), x2, some (one), some (other), x5, x6, x7, x8, x9, x10, x11, x12, x13, x14, x15, x16, x17, x18, x19, x20, x21] [o] = .ok (.nx [x0, some (.mr 0), x2, some (one), some (other), some (.lst (ERR one other)), x6, x7, x8, x9, x10, x11, x12, x13, x14, x15, x16, x17, x18, x19, x20, x21]) [o] := by kernel_rfl
abbrev TOLD (one : T) : T := .lst [one, one, one, one, one, one, one, one, one, one, one, one]
theorem q3_ok {x0 x2 x3 x4 x5 x6 x7 x8 x9 x10 x11 x12 x13 x14 x15 x16 x17 x18 x19 x20 x21 : Option T} (one other : T) (o : MO) : q_law_3 [x0, some (.mr 0), x2, some (one), some (other), some (.lst (ERR one other)), x6, x7, x8, x9, x10, x11, x12, x13, x14, x15, x16, x17, x18, x19, x20, x21] [o] = .ok (.nx [x0, some (.mr 0), x2, some (one), some (other), some (.lst (ERR one other)), some (TOLD one), x7, x8, x9, x10, x11, x12, x13, x14, x15, x16, x17, x18, x19, x20, x21]) [o] := by kernel_rfl
theorem q8_ok {x0 x2 x3 x4 x5 x6 x7 x8 x9 x10 x11 x12 x13 x14 x15 x16 x17 x18 x19 x20 x21 : Option T} (one other : T) (o : MO) : q_law_8 [x0, some (.mr 0), x2, some (one), some (other), some (.lst (ERR one other)), some (TOLD one), x7, x8, x9, x10, x11, x12, x13, x14, x15, x16, x17, x18, x19, x20, x21] [o] = .ok (.nx [x0, some (.mr 0), x2, some (one), some (other), some (.lst (ERR one other)), some (TOLD one), some (.int 11), some (.err 131320007385410 xns11 [one, other, .int 5]), some (.lst [.bl false, .bl false, .bl false, .bl false, .bl false, .bl false, .bl false, .bl false, .bl false, .bl false, .bl false, .bl true]), x10, x11, x12, x13, x14, x15, x16, x17, x18, x19, x20, x21]) [o] := by kernel_rfl
end Mr

namespace Mr
open PySem PySem.Spec PyProof.Rows L2 TL

theorem gne_str_self {x : List Nat} (hx : ∀ c ∈ x, c < 1114112) (μ : Mu) : gNe (.str x) (.str x) μ = .ok (.bl false) μ := ne_self_str hx μ
/-- a list of drawn values has a repr -/
theorem repr_list {d : Nat} {ts : List T} (hd : d ≤ 3) (h : ∀ t ∈ ts, Pd (d + 2) (d + 1) 3000 t) (hl : ts.length ≤ 12) : ∃ s : List Nat, (∀ c ∈ s, c < 1114112) ∧ ∀ μ, gRepr [.lst ts] μ = .ok (.str s) μ := by
  obtain ⟨Dt, q⟩ := pd_lst h hl
  exact ⟨_, q.chr, fun μ => pd_repr q (by omega) (by omega) (by omega) μ⟩
theorem good_pd {d : Nat} {t : T} (hd : d ≤ 3) (h : Good d t) : Pd 5 4 3000 t := (pd_good h).mono (by omega) (by omega) (Nat.le_trans (bd3 d hd) (by omega))
theorem int_pd (i : Int) (h : i = 5) : Pd 5 4 3000 (.int i) := by
  subst h
  exact ⟨.int 5, ⟨fun μ k hk => by cases k with | zero => omega | succ k => rfl, by decide +kernel, by decide +kernel, by decide +kernel, by decide +kernel, (show ∀ c ∈ (PyData.int 5).shown.cps.toList, c < 1114112 by decide +kernel)⟩⟩
/-! ### what was passed is kept -/
theorem q4_ok {x0 x2 x7 x8 x9 x10 x11 x12 x13 x14 x15 x16 x17 x18 x19 x20 x21 : Option T} {one other : T} (h1 : Good 3 one) (h2 : Good 3 other) (o : MO) : q_law_4 [x0, some (.mr 0), x2, some (one), some (other), some (.lst (ERR one other)), some (TOLD one), x7, x8, x9, x10, x11, x12, x13, x14, x15, x16, x17, x18, x19, x20, x21] [o] = .ok (.nx [x0, some (.mr 0), x2, some (one), some (other), some (.lst (ERR one other)), some (TOLD one), x7, x8, x9, x10, x11, x12, x13, x14, x15, x16, x17, x18, x19, x20, x21]) [o] := by
  have p1 := good_pd (Nat.le_refl _) h1
  have p2 := good_pd (Nat.le_refl _) h2
  obtain ⟨s1, c1, e1⟩ := repr_list (d := 3) (ts := [one, one, one, one, one, one, one, one, one, one, one, one]) (Nat.le_refl _) (by intro t ht; simp at ht; rw [ht]; exact p1) (Nat.le_of_ble_eq_true rfl)
  obtain ⟨s2, c2, e2⟩ := repr_list (d := 3) (ts := [other, other, other, .int 5]) (Nat.le_refl _) (by intro t ht; simp at ht; rcases ht with e | e <;> rw [e]; exact p2; exact int_pd 5 rfl) (Nat.le_of_ble_eq_true rfl)
  have a1 : mCl gRepr (mCons (mVar 6) mNil) [x0, some (.mr 0), x2, some (one), some (other), some (.lst (ERR one other)), some (TOLD one), x7, x8, x9, x10, x11, x12, x13, x14, x15, x16, x17, x18, x19, x20, x21] [o] = .ok (.str s1) [o] := e1 [o]
  have a2 : mCl gRepr (mCons (mOp (gMul fzT) (mCl gLst (mCons (mVar 3) mNil)) (mC (.int 12))) mNil) [x0, some (.mr 0), x2, some (one), some (other), some (.lst (ERR one other)), some (TOLD one), x7, x8, x9, x10, x11, x12, x13, x14, x15, x16, x17, x18, x19, x20, x21] [o] = .ok (.str s1) [o] := e1 [o]
  have a3 : mCl gRepr (mCons (mCl gLst (mCons (mUn (gFlE efs4 1685221239) (mOp gIx (mVar 5) (mC (.int 9)))) (mCons (mUn (gFlE efs9 1953722221) (mOp gIx (mVar 5) (mC (.int 10)))) (mCons (mUn (gFlE efs10 461229747298) (mOp gIx (mVar 5) (mC (.int 11)))) (mCons (mUn (gFlE efs11 7827314) (mOp gIx (mVar 5) (mC (.int 11)))) mNil))))) mNil) [x0, some (.mr 0), x2, some (one), some (other), some (.lst (ERR one other)), some (TOLD one), x7, x8, x9, x10, x11, x12, x13, x14, x15, x16, x17, x18, x19, x20, x21] [o] = .ok (.str s2) [o] := e2 [o]
  have a4 : mCl gRepr (mCons (mCl gLst (mCons (mVar 4) (mCons (mVar 4) (mCons (mVar 4) (mCons (mC (.int 5)) mNil))))) mNil) [x0, some (.mr 0), x2, some (one), some (other), some (.lst (ERR one other)), some (TOLD one), x7, x8, x9, x10, x11, x12, x13, x14, x15, x16, x17, x18, x19, x20, x21] [o] = .ok (.str s2) [o] := e2 [o]
  unfold q_law_4
  simp only [r_ifS, r_or, r_tst, r_op, a1, a2, a3, a4, Out.bind_ok, gne_str_self c1, gne_str_self c2, Bool.false_eq_true, if_false, r_next]
/-! ### fixed, is_same -/
theorem q9_ok {x0 x2 x5 x6 x7 x8 x9 x10 x11 x12 x13 x14 x15 x16 x17 x18 x19 x20 x21 : Option T} {one other : T} (h1 : Good 3 one) (h2 : Good 3 other) (μ : Mu) : q_law_9 [x0, some (.mr 0), x2, some (one), some (other), x5, x6, x7, x8, x9, x10, x11, x12, x13, x14, x15, x16, x17, x18, x19, x20, x21] μ = .ok (.nx [x0, some (.mr 0), x2, some (one), some (other), x5, x6, x7, x8, x9, x10, some (fx 3 one), some (fx 3 other), x13, x14, x15, x16, x17, x18, x19, x20, x21]) μ := by
  unfold q_law_9
  simp only [r_seq, r_seq_nx, r_seq_rt, r_seq_bk, r_seq_ct, r_next, r_ret, r_retN, r_drop, r_ifS, r_asg, r_set, r_var, r_c, r_op, r_un, r_cl, r_nil, r_cons, r_tst, r_chain, r_tru, r_not, r_and, r_or, r_andV, r_orV, r_notV, r_if, r_call, r_par2, r_nm, r_snil, r_scons, r_tp, r_yes, r_fin, r_fz, r_lc, r_for, r_it, r_walk, r_few, r_tupG, r_lstG,
  List.getElem?_cons_zero, List.getElem?_cons_succ, List.set_cons_zero, List.set_cons_succ, Out.bind_ok, List.append_nil, List.nil_append, List.cons_append, if_true, if_false, Bool.false_eq_true, endO, lfixed_ok 3 6 one μ (by omega) h1.fix, lfixed_ok 3 6 other μ (by omega) h2.fix]
theorem r_callK (n l : Nat) (ix : List Nat) (m : GL) (ma mk : MA) (ρ : Rho) (μ : Mu) : mCallK n l ix m ma mk ρ μ = (ma ρ μ).bind fun ts μ1 => (mk ρ μ1).bind fun us μ2 => if ts.length = n ∧ us.length = l then m (pickL ix (ts ++ us)) μ2 else .bad := rfl
theorem q10_ok {x0 x2 x5 x6 x7 x8 x9 x10 x13 x14 x15 x16 x17 x18 x19 x20 x21 : Option T} {one other : T} (h1 : Good 3 one) (h2 : Good 3 other) (μ : Mu) : q_law_10 [x0, some (.mr 0), x2, some (one), some (other), x5, x6, x7, x8, x9, x10, some (fx 3 one), some (fx 3 other), x13, x14, x15, x16, x17, x18, x19, x20, x21] μ = .ok (.nx [x0, some (.mr 0), x2, some (one), some (other), x5, x6, x7, x8, x9, x10, some (fx 3 one), some (fx 3 other), x13, x14, x15, x16, x17, x18, x19, x20, x21]) μ := by
  have f1 := fx_good h1
  have f2 := fx_good h2
  obtain ⟨s1, c1, e1⟩ := repr_list (d := 3) (ts := [fx 3 one, fx 3 other]) (Nat.le_refl _) (by intro t ht; simp at ht; rcases ht with e | e <;> rw [e]; exact good_pd (Nat.le_refl _) f1.good; exact good_pd (Nat.le_refl _) f2.good) (Nat.le_of_ble_eq_true rfl)
  have k1 : mCallK 0 1 [0] (g_fixed 6) mNil (mCons (mVar 4) mNil) [x0, some (.mr 0), x2, some (one), some (other), x5, x6, x7, x8, x9, x10, some (fx 3 one), some (fx 3 other), x13, x14, x15, x16, x17, x18, x19, x20, x21] μ = .ok (fx 3 other) μ := by
    rw [r_callK]
    simp only [r_seq, r_seq_nx, r_seq_rt, r_seq_bk, r_seq_ct, r_next, r_ret, r_retN, r_drop, r_ifS, r_asg, r_set, r_var, r_c, r_op, r_un, r_cl, r_nil, r_cons, r_tst, r_chain, r_tru, r_not, r_and, r_or, r_andV, r_orV, r_notV, r_if, r_call, r_par2, r_nm, r_snil, r_scons, r_tp, r_yes, r_fin, r_fz, r_lc, r_for, r_it, r_walk, r_few, r_tupG, r_lstG,
  List.getElem?_cons_zero, List.getElem?_cons_succ, List.set_cons_zero, List.set_cons_succ, Out.bind_ok, List.append_nil, List.nil_append, List.cons_append, if_true, if_false, Bool.false_eq_true, endO]
    exact fixed_ok 3 6 other μ (by omega) h2.fix
  have k2 : mCallK 0 2 [0, 1] (g_is_same 6) mNil (mCons (mVar 11) (mCons (mVar 11) mNil)) [x0, some (.mr 0), x2, some (one), some (other), x5, x6, x7, x8, x9, x10, some (fx 3 one), some (fx 3 other), x13, x14, x15, x16, x17, x18, x19, x20, x21] μ = .ok (.bl true) μ := by
    rw [r_callK]
    simp only [r_seq, r_seq_nx, r_seq_rt, r_seq_bk, r_seq_ct, r_next, r_ret, r_retN, r_drop, r_ifS, r_asg, r_set, r_var, r_c, r_op, r_un, r_cl, r_nil, r_cons, r_tst, r_chain, r_tru, r_not, r_and, r_or, r_andV, r_orV, r_notV, r_if, r_call, r_par2, r_nm, r_snil, r_scons, r_tp, r_yes, r_fin, r_fz, r_lc, r_for, r_it, r_walk, r_few, r_tupG, r_lstG,
  List.getElem?_cons_zero, List.getElem?_cons_succ, List.set_cons_zero, List.set_cons_succ, Out.bind_ok, List.append_nil, List.nil_append, List.cons_append, if_true, if_false, Bool.false_eq_true, endO]
    have z := same_ok 3 6 (fx 3 one) (fx 3 one) μ (by omega) (by omega) f1 f1
    rw [decide_eq_true rfl] at z
    exact z
  have fw : ∀ a b : T, few [a, b] = true := fun _ _ => rfl
  unfold q_law_10
  simp only [r_seq, r_seq_nx, r_seq_rt, r_seq_bk, r_seq_ct, r_next, r_ret, r_retN, r_drop, r_ifS, r_asg, r_set, r_var, r_c, r_op, r_un, r_cl, r_nil, r_cons, r_tst, r_chain, r_tru, r_not, r_and, r_or, r_andV, r_orV, r_notV, r_if, r_call, r_par2, r_nm, r_snil, r_scons, r_tp, r_yes, r_fin, r_fz, r_lc, r_for, r_it, r_walk, r_few, r_tupG, r_lstG,
  List.getElem?_cons_zero, List.getElem?_cons_succ, List.set_cons_zero, List.set_cons_succ, Out.bind_ok, List.append_nil, List.nil_append, List.cons_append, if_true, if_false, Bool.false_eq_true, endO, fixed_ok 3 6 one μ (by omega) h1.fix, k1, fw, e1, gne_str_self c1, same_ok 3 6 (fx 3 one) (fx 3 other) μ (by omega) (by omega) f1 f2, repr_sh (Nat.le_refl _) f1, repr_sh (Nat.le_refl _) f2, eq_str (sh_chr f1) (sh_chr f2), ne_bl, beq_self_eq_true, Bool.not_true, k2, show gIsNot (.bl true) (.bl true) μ = .ok (.bl false) μ from rfl]
end Mr

namespace Mr
open PySem PySem.Spec PyProof.Rows L2 TL

/-! ### papers -/
theorem frz_at (M : Mu) (n k : Nat) (t : T) (h : isPl t = true) : frzT M n (k + 1) t = some t := by cases t <;> first | rfl | cases h
theorem mapO_id {f : T → Option T} : ∀ {ts : List T}, (∀ t ∈ ts, f t = some t) → mapO f ts = some ts
  | [], _ => rfl
  | t :: ts, h => by
    unfold mapO
    rw [h t List.mem_cons_self, mapO_id fun u hu => h u (List.mem_cons_of_mem _ hu)]
theorem frz_good (M : Mu) (n : Nat) : ∀ {d k : Nat} {t : T}, d < k → GoodF d t → frzT M n k t = some t
  | _, 0, _, h, _ => absurd h (Nat.not_lt_zero _)
  | 0, k + 1, t, _, ⟨i, _, e⟩ => by rw [e]; exact frz_at M n k _ (pl_at i)
  | d + 1, k + 1, t, hk, h => by
    rcases h with ⟨i, _, e⟩ | ⟨ts, e, _, hu⟩
    · rw [e]; exact frz_at M n k _ (pl_at i)
    · subst e
      show (match mapO (frzT M n k) ts with
        | some us => some (T.tup us)
        | none => none) = _
      rw [mapO_id fun u hx => frz_good M n (by omega) (hu u hx)]
theorem r_mk (mk : Nat → GL → List T → Mu → Out T) (c : Nat) (g : GL) (tds : List T) (ma : MA) (ρ : Rho) (μ : Mu) : mMk mk c g tds ma ρ μ = (ma ρ μ).bind fun ts μ1 => mk c g (ts ++ tds) μ1 := rfl
theorem make_P {w : List Nat} {ps : List T} {y : T} (o : MO) (hl : ps.length ≤ 2) (hf : ∀ μ, g_fixed 6 [.tup ps] μ = .ok y μ) (hz : frzT [.lck o, .obj 491328135504 [1685221239, 495874892144] [.str w, y]] 1 63 y = some y) : makeP 491328135504 g_Paper____init__ (.str w :: ps) [o] = .ok (.obj 491328135504 [1685221239, 495874892144] [.str w, y]) [o] := by
  have st1 : mStO ocs0 1685221239 (mVar 0) (mVar 1) [some (.mr 1), some (.str w), some (.tup ps)] [.lck o, .obj 491328135504 [] []] = .ok (.nx [some (.mr 1), some (.str w), some (.tup ps)]) [.lck o, .obj 491328135504 [1685221239] [.str w]] := by kernel_rfl
  have st2 : ∀ me : ME, me [some (.mr 1), some (.str w), some (.tup ps)] [.lck o, .obj 491328135504 [1685221239] [.str w]] = .ok y [.lck o, .obj 491328135504 [1685221239] [.str w]] → mStO ocs1 495874892144 (mVar 0) me [some (.mr 1), some (.str w), some (.tup ps)] [.lck o, .obj 491328135504 [1685221239] [.str w]] = .ok (.nx [some (.mr 1), some (.str w), some (.tup ps)]) [.lck o, .obj 491328135504 [1685221239, 495874892144] [.str w, y]] := fun me h => by
    unfold mStO
    rw [h]
    kernel_rfl
  have body : endO (m_Paper____init__ [some (.mr 1), some (.str w), some (.tup ps)] [.lck o, .obj 491328135504 [] []]) = .ok .non [.lck o, .obj 491328135504 [1685221239, 495874892144] [.str w, y]] := by
    unfold m_Paper____init__
    rw [r_seq, st1, r_seq_nx, st2 _ (by simp only [r_seq, r_seq_nx, r_seq_rt, r_seq_bk, r_seq_ct, r_next, r_ret, r_retN, r_drop, r_ifS, r_asg, r_set, r_var, r_c, r_op, r_un, r_cl, r_nil, r_cons, r_tst, r_chain, r_tru, r_not, r_and, r_or, r_andV, r_orV, r_notV, r_if, r_call, r_par2, r_nm, r_snil, r_scons, r_tp, r_yes, r_fin, r_fz, r_lc, r_for, r_it, r_walk, r_few, r_tupG, r_lstG,
  List.getElem?_cons_zero, List.getElem?_cons_succ, List.set_cons_zero, List.set_cons_succ, Out.bind_ok, List.append_nil, List.nil_append, List.cons_append, if_true, if_false, Bool.false_eq_true, endO, hf])]
    rfl
  have fw : few (T.mr 1 :: .str w :: ps) = true := few_of (by simp only [List.length_cons]; omega)
  have g : g_Paper____init__ (.mr 1 :: .str w :: ps) [.lck o, .obj 491328135504 [] []] = .ok .non [.lck o, .obj 491328135504 [1685221239, 495874892144] [.str w, y]] := by
    show (if (Nat.ble 2 (T.mr 1 :: .str w :: ps).length && few (T.mr 1 :: .str w :: ps)) = true then fnK 3 m_Paper____init__ [.mr 1, .str w, .tup ps] [.lck o, .obj 491328135504 [] []] else .bad) = _
    rw [fw, show Nat.ble 2 (T.mr 1 :: .str w :: ps).length = true from Nat.ble_eq_true_of_le (by simp only [List.length_cons]; omega)]
    exact body
  show pureO [o] ((g_Paper____init__ (.mr 1 :: .str w :: ps) [.lck o, .obj 491328135504 [] []]).bind fun r μ2 => match r with
    | .non => .ok (.mr 1) μ2
    | _ => .bad) = _
  rw [g]
  show pureO [o] (.ok (.mr 1) [.lck o, .obj 491328135504 [1685221239, 495874892144] [.str w, y]]) = _
  show (match (match mapO (frzT [.lck o, .obj 491328135504 [1685221239, 495874892144] [.str w, y]] 1 63) [.str w, y] with
    | some us => some (T.obj 491328135504 [1685221239, 495874892144] us)
    | none => none) with
    | some u => Out.ok u [o]
    | none => .bad) = _
  have m : mapO (frzT [.lck o, .obj 491328135504 [1685221239, 495874892144] [.str w, y]] 1 63) [.str w, y] = some [.str w, y] := by
    unfold mapO
    rw [frz_at _ _ 62 _ rfl]
    unfold mapO
    rw [hz] <;> rfl
  rw [m]
theorem make_D {w : List Nat} {ps : List T} {y : T} (o : MO) (hl : ps.length ≤ 2) (hf : ∀ μ, g_fixed 6 [.tup ps] μ = .ok y μ) (hz : frzT [.lck o, .obj 119165636470084 [1685221239, 495874892144] [.str w, y]] 1 63 y = some y) : makeP 119165636470084 g_Paper____init__ (.str w :: ps) [o] = .ok (.obj 119165636470084 [1685221239, 495874892144] [.str w, y]) [o] := by
  have st1 : mStO ocs0 1685221239 (mVar 0) (mVar 1) [some (.mr 1), some (.str w), some (.tup ps)] [.lck o, .obj 119165636470084 [] []] = .ok (.nx [some (.mr 1), some (.str w), some (.tup ps)]) [.lck o, .obj 119165636470084 [1685221239] [.str w]] := by kernel_rfl
  have st2 : ∀ me : ME, me [some (.mr 1), some (.str w), some (.tup ps)] [.lck o, .obj 119165636470084 [1685221239] [.str w]] = .ok y [.lck o, .obj 119165636470084 [1685221239] [.str w]] → mStO ocs1 495874892144 (mVar 0) me [some (.mr 1), some (.str w), some (.tup ps)] [.lck o, .obj 119165636470084 [1685221239] [.str w]] = .ok (.nx [some (.mr 1), some (.str w), some (.tup ps)]) [.lck o, .obj 119165636470084 [1685221239, 495874892144] [.str w, y]] := fun me h => by
    unfold mStO
    rw [h]
    kernel_rfl
  have body : endO (m_Paper____init__ [some (.mr 1), some (.str w), some (.tup ps)] [.lck o, .obj 119165636470084 [] []]) = .ok .non [.lck o, .obj 119165636470084 [1685221239, 495874892144] [.str w, y]] := by
    unfold m_Paper____init__
    rw [r_seq, st1, r_seq_nx, st2 _ (by simp only [r_seq, r_seq_nx, r_seq_rt, r_seq_bk, r_seq_ct, r_next, r_ret, r_retN, r_drop, r_ifS, r_asg, r_set, r_var, r_c, r_op, r_un, r_cl, r_nil, r_cons, r_tst, r_chain, r_tru, r_not, r_and, r_or, r_andV, r_orV, r_notV, r_if, r_call, r_par2, r_nm, r_snil, r_scons, r_tp, r_yes, r_fin, r_fz, r_lc, r_for, r_it, r_walk, r_few, r_tupG, r_lstG,
  List.getElem?_cons_zero, List.getElem?_cons_succ, List.set_cons_zero, List.set_cons_succ, Out.bind_ok, List.append_nil, List.nil_append, List.cons_append, if_true, if_false, Bool.false_eq_true, endO, hf])]
    rfl
  have fw : few (T.mr 1 :: .str w :: ps) = true := few_of (by simp only [List.length_cons]; omega)
  have g : g_Paper____init__ (.mr 1 :: .str w :: ps) [.lck o, .obj 119165636470084 [] []] = .ok .non [.lck o, .obj 119165636470084 [1685221239, 495874892144] [.str w, y]] := by
    show (if (Nat.ble 2 (T.mr 1 :: .str w :: ps).length && few (T.mr 1 :: .str w :: ps)) = true then fnK 3 m_Paper____init__ [.mr 1, .str w, .tup ps] [.lck o, .obj 119165636470084 [] []] else .bad) = _
    rw [fw, show Nat.ble 2 (T.mr 1 :: .str w :: ps).length = true from Nat.ble_eq_true_of_le (by simp only [List.length_cons]; omega)]
    exact body
  show pureO [o] ((g_Paper____init__ (.mr 1 :: .str w :: ps) [.lck o, .obj 119165636470084 [] []]).bind fun r μ2 => match r with
    | .non => .ok (.mr 1) μ2
    | _ => .bad) = _
  rw [g]
  show pureO [o] (.ok (.mr 1) [.lck o, .obj 119165636470084 [1685221239, 495874892144] [.str w, y]]) = _
  show (match (match mapO (frzT [.lck o, .obj 119165636470084 [1685221239, 495874892144] [.str w, y]] 1 63) [.str w, y] with
    | some us => some (T.obj 119165636470084 [1685221239, 495874892144] us)
    | none => none) with
    | some u => Out.ok u [o]
    | none => .bad) = _
  have m : mapO (frzT [.lck o, .obj 119165636470084 [1685221239, 495874892144] [.str w, y]] 1 63) [.str w, y] = some [.str w, y] := by
    unfold mapO
    rw [frz_at _ _ 62 _ rfl]
    unfold mapO
    rw [hz] <;> rfl
  rw [m]
abbrev PAP (its : T) : List T := [.obj 491328135504 [1685221239, 495874892144] [.str [97], .tup [its, .int 5]], .obj 119165636470084 [1685221239, 495874892144] [.str [97], .tup [its, .int 5]], .obj 491328135504 [1685221239, 495874892144] [.str [98], .tup [its, .int 5]], .obj 491328135504 [1685221239, 495874892144] [.str [97], .tup [its]]]
theorem q11_ok {x0 x2 x5 x6 x7 x8 x9 x10 x13 x14 x15 x16 x17 x18 x19 x20 x21 : Option T} {one other : T} (h1 : Good 3 one) (o : MO) : q_law_11 [x0, some (.mr 0), x2, some (one), some (other), x5, x6, x7, x8, x9, x10, some (fx 3 one), some (fx 3 other), x13, x14, x15, x16, x17, x18, x19, x20, x21] [o] = .ok (.nx [x0, some (.mr 0), x2, some (one), some (other), x5, x6, x7, x8, x9, x10, some (fx 3 one), some (fx 3 other), some (.lst (PAP (fx 3 one))), x14, x15, x16, x17, x18, x19, x20, x21]) [o] := by
  have f1 := fx_good h1
  have fix5 : ∀ μ, g_fixed 6 [.tup [one, .int 5]] μ = .ok (.tup [fx 3 one, .int 5]) μ := fun μ => fixed_ok 4 6 (.tup [one, .int 5]) μ (by omega) (.inr ⟨_, .inr rfl, by simp, fun u hu => by
    simp at hu
    rcases hu with e | e
    · rw [e]; exact h1.fix
    · rw [e]; exact .inl rfl⟩)
  have fix1 : ∀ μ, g_fixed 6 [.tup [one]] μ = .ok (.tup [fx 3 one]) μ := fun μ => fixed_ok 4 6 (.tup [one]) μ (by omega) (.inr ⟨_, .inr rfl, by simp, fun u hu => by
    simp at hu
    rw [hu]; exact h1.fix⟩)
  have z5 : ∀ M : Mu, frzT M 1 63 (.tup [fx 3 one, .int 5]) = some (.tup [fx 3 one, .int 5]) := fun M => by
    show (match mapO (frzT M 1 62) [fx 3 one, .int 5] with
      | some us => some (T.tup us)
      | none => none) = _
    rw [mapO_id fun u hu => ?_]
    simp at hu
    rcases hu with e | e
    · rw [e]; exact frz_good M 1 (by omega) f1
    · rw [e]; exact frz_at M 1 61 _ rfl
  have z1 : ∀ M : Mu, frzT M 1 63 (.tup [fx 3 one]) = some (.tup [fx 3 one]) := fun M => by
    show (match mapO (frzT M 1 62) [fx 3 one] with
      | some us => some (T.tup us)
      | none => none) = _
    rw [mapO_id fun u hu => ?_]
    simp at hu
    rw [hu]; exact frz_good M 1 (by omega) f1
  have a1 := make_P (w := [97]) (ps := [one, .int 5]) o (by simp) fix5 (z5 _)
  have a2 := make_D (w := [97]) (ps := [one, .int 5]) o (by simp) fix5 (z5 _)
  have a3 := make_P (w := [98]) (ps := [one, .int 5]) o (by simp) fix5 (z5 _)
  have a4 := make_P (w := [97]) (ps := [one]) o (by simp) fix1 (z1 _)
  have fw : ∀ a b c d : T, few [a, b, c, d] = true := fun _ _ _ _ => rfl
  unfold q_law_11
  simp only [r_seq, r_seq_nx, r_seq_rt, r_seq_bk, r_seq_ct, r_next, r_ret, r_retN, r_drop, r_ifS, r_asg, r_set, r_var, r_c, r_op, r_un, r_cl, r_nil, r_cons, r_tst, r_chain, r_tru, r_not, r_and, r_or, r_andV, r_orV, r_notV, r_if, r_call, r_par2, r_nm, r_snil, r_scons, r_tp, r_yes, r_fin, r_fz, r_lc, r_for, r_it, r_walk, r_few, r_tupG, r_lstG,
  List.getElem?_cons_zero, List.getElem?_cons_succ, List.set_cons_zero, List.set_cons_succ, Out.bind_ok, List.append_nil, List.nil_append, List.cons_append, if_true, if_false, Bool.false_eq_true, endO, r_mk, a1, a2, a3, a4, fw]
theorem q12_ok {x0 x2 x5 x6 x7 x8 x9 x10 x14 x15 x16 x17 x18 x19 x20 x21 : Option T} {one other : T} (h1 : Good 3 one) (o : MO) : q_law_12 [x0, some (.mr 0), x2, some (one), some (other), x5, x6, x7, x8, x9, x10, some (fx 3 one), some (fx 3 other), some (.lst (PAP (fx 3 one))), x14, x15, x16, x17, x18, x19, x20, x21] [o] = .ok (.nx [x0, some (.mr 0), x2, some (one), some (other), x5, x6, x7, x8, x9, x10, some (fx 3 one), some (fx 3 other), some (.lst (PAP (fx 3 one))), x14, x15, x16, x17, x18, x19, x20, x21]) [o] := by
  have f1 := fx_good h1
  have pt : Pd 6 5 10000 (.tup [fx 3 one, .int 5]) := (pd_tup (fun t ht => by
    simp at ht
    rcases ht with e | e
    · rw [e]; exact good_pd (Nat.le_refl _) f1.good
    · rw [e]; exact int_pd 5 rfl) (c := 2) (by simp)).mono (by omega) (by omega) (by omega)
  have pa : Pd 6 5 10000 (.str [97]) := (pd_at (i := 6) (by omega)).mono (by omega) (by omega) (by omega)
  obtain ⟨Dt, q⟩ := pd_lst (ts := [.str [97], .tup [fx 3 one, .int 5]]) (c := 2) (fun t ht => by
    simp at ht
    rcases ht with e | e
    · rw [e]; exact pa
    · rw [e]; exact pt) (by simp)
  have e1 := pd_repr q (by omega) (by omega) (by omega) [o]
  have t1 : ((mTst (mOp gNe (mCl gRepr (mCons (mCl gLst (mCons (mUn (gFld ocs0 1685221239) (mOp gIx (mVar 13) (mC (.int 0)))) (mCons (mUn (gFld ocs1 495874892144) (mOp gIx (mVar 13) (mC (.int 0)))) mNil))) mNil)) (mCl gRepr (mCons (mCl gLst (mCons (mC (.str [97])) (mCons (mCl gTup (mCons (mVar 11) (mCons (mC (.int 5)) mNil))) mNil))) mNil))))) [x0, some (.mr 0), x2, some (one), some (other), x5, x6, x7, x8, x9, x10, some (fx 3 one), some (fx 3 other), some (.lst (PAP (fx 3 one))), x14, x15, x16, x17, x18, x19, x20, x21] [o] = .ok false [o] := by
    have l : (mCl gRepr (mCons (mCl gLst (mCons (mUn (gFld ocs0 1685221239) (mOp gIx (mVar 13) (mC (.int 0)))) (mCons (mUn (gFld ocs1 495874892144) (mOp gIx (mVar 13) (mC (.int 0)))) mNil))) mNil)) [x0, some (.mr 0), x2, some (one), some (other), x5, x6, x7, x8, x9, x10, some (fx 3 one), some (fx 3 other), some (.lst (PAP (fx 3 one))), x14, x15, x16, x17, x18, x19, x20, x21] [o] = gRepr [.lst [.str [97], .tup [fx 3 one, .int 5]]] [o] := by kernel_rfl
    have r : (mCl gRepr (mCons (mCl gLst (mCons (mC (.str [97])) (mCons (mCl gTup (mCons (mVar 11) (mCons (mC (.int 5)) mNil))) mNil))) mNil)) [x0, some (.mr 0), x2, some (one), some (other), x5, x6, x7, x8, x9, x10, some (fx 3 one), some (fx 3 other), some (.lst (PAP (fx 3 one))), x14, x15, x16, x17, x18, x19, x20, x21] [o] = gRepr [.lst [.str [97], .tup [fx 3 one, .int 5]]] [o] := by kernel_rfl
    rw [r_tst, r_op, l, e1]
    simp only [Out.bind_ok]
    rw [r, e1]
    simp only [Out.bind_ok, gne_str_self q.chr]
  have t2 : ((mTst (mOp gNe (mFin fzT (mLc [14] (mItS2 (mVar 13)) (gNm 14) mYes (mCl (gBool tab0) (mCons (mVar 14) mNil)))) (mCl gLst (mCons (mC (.bl true)) (mCons (mC (.bl false)) (mCons (mC (.bl true)) (mCons (mC (.bl true)) mNil)))))))) [x0, some (.mr 0), x2, some (one), some (other), x5, x6, x7, x8, x9, x10, some (fx 3 one), some (fx 3 other), some (.lst (PAP (fx 3 one))), x14, x15, x16, x17, x18, x19, x20, x21] [o] = .ok false [o] := by kernel_rfl
  have t3 : ((mTst (mOp gNe (mFin fzT (mLc [14] (mItS2 (mSl fzT (mVar 13) (mPS (mC (.int 1))) mPN)) (gNm 14) mYes (mOp (gEqO tab1 eqp0) (mVar 14) (mOp gIx (mVar 13) (mC (.int 0)))))) (mOp (gMul fzT) (mCl gLst (mCons (mC (.bl false)) mNil)) (mC (.int 3)))))) [x0, some (.mr 0), x2, some (one), some (other), x5, x6, x7, x8, x9, x10, some (fx 3 one), some (fx 3 other), some (.lst (PAP (fx 3 one))), x14, x15, x16, x17, x18, x19, x20, x21] [o] = .ok false [o] := by kernel_rfl
  unfold q_law_12
  simp only [r_ifS, r_or, t1, t2, t3, Out.bind_ok, Bool.false_eq_true, if_false, r_next]
end Mr

namespace Mr
open PySem PySem.Spec PyProof.Rows L2 TL

theorem q13_ok {x0 x2 x5 x6 x7 x8 x9 x10 x11 x12 x13 x14 x15 x16 x17 x18 x19 x20 x21 : Option T} {one : T} {other : Option T} {N : Int} {μ : Mu} (h1 : Good 3 one) (hp : Pen N μ) (hN : N < 1000000) : ∃ l μ', Pen (N + 1) μ' ∧ q_law_13 [x0, some (.mr 0), x2, some (one), other, x5, x6, x7, x8, x9, x10, x11, x12, x13, x14, x15, x16, x17, x18, x19, x20, x21] μ = .ok (.nx [x0, some (.mr 0), x2, some (one), other, x5, x6, x7, x8, x9, x10, x11, x12, x13, x14, some (.bl (isI one)), some (.int l), x17, x18, x19, x20, x21]) μ' := by
  obtain ⟨d, μ', d0, d1, p, e⟩ := draw (many := 5) hp hN (by omega) (by omega)
  refine ⟨d - 2, μ', p, ?_⟩
  unfold q_law_13
  simp only [r_seq, r_seq_nx, r_seq_rt, r_seq_bk, r_seq_ct, r_next, r_ret, r_retN, r_drop, r_ifS, r_asg, r_set, r_var, r_c, r_op, r_un, r_cl, r_nil, r_cons, r_tst, r_chain, r_tru, r_not, r_and, r_or, r_andV, r_orV, r_notV, r_if, r_call, r_par2, r_nm, r_snil, r_scons, r_tp, r_yes, r_fin, r_fz, r_lc, r_for, r_it, r_walk, r_few, r_tupG, r_lstG,
  List.getElem?_cons_zero, List.getElem?_cons_succ, List.set_cons_zero, List.set_cons_succ, Out.bind_ok, List.append_nil, List.nil_append, List.cons_append, if_true, if_false, Bool.false_eq_true, endO, (number_ok one μ h1.val).2, e, gSub_i]
theorem q14_ok {x0 x2 x5 x6 x7 x8 x9 x10 x11 x12 x13 x14 x17 x18 x19 x20 x21 : Option T} {one other : T} {l : Int} (h1 : Good 3 one) (h2 : Good 3 other) (μ : Mu) : q_law_14 [x0, some (.mr 0), x2, some (one), some (other), x5, x6, x7, x8, x9, x10, x11, x12, x13, x14, some (.bl (isI one)), some (.int l), x17, x18, x19, x20, x21] μ = .ok (.nx [x0, some (.mr 0), x2, some (one), some (other), x5, x6, x7, x8, x9, x10, x11, x12, x13, x14, some (.bl (isI one)), some (.int l), x17, x18, x19, x20, x21]) μ := by
  have r2 : mAndV (mVar 15) (mChain gLeS gLeS (mVar 16) (mVar 3) (mOp (gAdd fzT) (mVar 16) (mC (.int 3)))) [x0, some (.mr 0), x2, some (one), some (other), x5, x6, x7, x8, x9, x10, x11, x12, x13, x14, some (.bl (isI one)), some (.int l), x17, x18, x19, x20, x21] μ = .ok (.bl (wthn one l (l + 3))) μ := by
    rw [r_andV]
    cases q : isI one with
    | false =>
      have z : wthn one l (l + 3) = false := by cases one <;> first | rfl | cases q
      simp only [r_seq, r_seq_nx, r_seq_rt, r_seq_bk, r_seq_ct, r_next, r_ret, r_retN, r_drop, r_ifS, r_asg, r_set, r_var, r_c, r_op, r_un, r_cl, r_nil, r_cons, r_tst, r_chain, r_tru, r_not, r_and, r_or, r_andV, r_orV, r_notV, r_if, r_call, r_par2, r_nm, r_snil, r_scons, r_tp, r_yes, r_fin, r_fz, r_lc, r_for, r_it, r_walk, r_few, r_tupG, r_lstG,
  List.getElem?_cons_zero, List.getElem?_cons_succ, List.set_cons_zero, List.set_cons_succ, Out.bind_ok, List.append_nil, List.nil_append, List.cons_append, if_true, if_false, Bool.false_eq_true, endO, truT_bl, z]
    | true =>
      cases one with
      | int i =>
        simp only [r_seq, r_seq_nx, r_seq_rt, r_seq_bk, r_seq_ct, r_next, r_ret, r_retN, r_drop, r_ifS, r_asg, r_set, r_var, r_c, r_op, r_un, r_cl, r_nil, r_cons, r_tst, r_chain, r_tru, r_not, r_and, r_or, r_andV, r_orV, r_notV, r_if, r_call, r_par2, r_nm, r_snil, r_scons, r_tp, r_yes, r_fin, r_fz, r_lc, r_for, r_it, r_walk, r_few, r_tupG, r_lstG,
  List.getElem?_cons_zero, List.getElem?_cons_succ, List.set_cons_zero, List.set_cons_succ, Out.bind_ok, List.append_nil, List.nil_append, List.cons_append, if_true, if_false, Bool.false_eq_true, endO, truT_bl, gLeS_i, gAdd_i, wthn]
        cases decide (l ≤ i) <;> simp only [r_seq, r_seq_nx, r_seq_rt, r_seq_bk, r_seq_ct, r_next, r_ret, r_retN, r_drop, r_ifS, r_asg, r_set, r_var, r_c, r_op, r_un, r_cl, r_nil, r_cons, r_tst, r_chain, r_tru, r_not, r_and, r_or, r_andV, r_orV, r_notV, r_if, r_call, r_par2, r_nm, r_snil, r_scons, r_tp, r_yes, r_fin, r_fz, r_lc, r_for, r_it, r_walk, r_few, r_tupG, r_lstG,
  List.getElem?_cons_zero, List.getElem?_cons_succ, List.set_cons_zero, List.set_cons_succ, Out.bind_ok, List.append_nil, List.nil_append, List.cons_append, if_true, if_false, Bool.false_eq_true, endO, Bool.true_and, Bool.false_and]
      | _ => cases q
  have i2 := (val_isi other μ h2.val).2.2
  have r4 : mAndV (mCl (gIsi isc0 ist0) (mCons (mVar 4) (mCons (mCl gTup (mCons (mC (.ty 4)) (mCons (mC (.ty 5)) mNil))) mNil))) (mChain gLeS gLeS (mC (.int 1)) (mCl gLen (mCons (mVar 4) mNil)) (mC (.int 2))) [x0, some (.mr 0), x2, some (one), some (other), x5, x6, x7, x8, x9, x10, x11, x12, x13, x14, some (.bl (isI one)), some (.int l), x17, x18, x19, x20, x21] μ = .ok (.bl (isLs other && (decide ((1 : Int) ≤ (lenT other : Int)) && decide ((lenT other : Int) ≤ 2)))) μ := by
    cases q : isLs other with
    | false =>
      rw [q] at i2
      simp only [r_seq, r_seq_nx, r_seq_rt, r_seq_bk, r_seq_ct, r_next, r_ret, r_retN, r_drop, r_ifS, r_asg, r_set, r_var, r_c, r_op, r_un, r_cl, r_nil, r_cons, r_tst, r_chain, r_tru, r_not, r_and, r_or, r_andV, r_orV, r_notV, r_if, r_call, r_par2, r_nm, r_snil, r_scons, r_tp, r_yes, r_fin, r_fz, r_lc, r_for, r_it, r_walk, r_few, r_tupG, r_lstG,
  List.getElem?_cons_zero, List.getElem?_cons_succ, List.set_cons_zero, List.set_cons_succ, Out.bind_ok, List.append_nil, List.nil_append, List.cons_append, if_true, if_false, Bool.false_eq_true, endO, few45, i2, truT_bl, Bool.false_and]
    | true =>
      rw [q] at i2
      simp only [r_seq, r_seq_nx, r_seq_rt, r_seq_bk, r_seq_ct, r_next, r_ret, r_retN, r_drop, r_ifS, r_asg, r_set, r_var, r_c, r_op, r_un, r_cl, r_nil, r_cons, r_tst, r_chain, r_tru, r_not, r_and, r_or, r_andV, r_orV, r_notV, r_if, r_call, r_par2, r_nm, r_snil, r_scons, r_tp, r_yes, r_fin, r_fz, r_lc, r_for, r_it, r_walk, r_few, r_tupG, r_lstG,
  List.getElem?_cons_zero, List.getElem?_cons_succ, List.set_cons_zero, List.set_cons_succ, Out.bind_ok, List.append_nil, List.nil_append, List.cons_append, if_true, if_false, Bool.false_eq_true, endO, few45, i2, truT_bl, Bool.true_and, lenT_ok other μ q, gLeS_i]
      cases decide ((1 : Int) ≤ (lenT other : Int)) <;> simp only [r_seq, r_seq_nx, r_seq_rt, r_seq_bk, r_seq_ct, r_next, r_ret, r_retN, r_drop, r_ifS, r_asg, r_set, r_var, r_c, r_op, r_un, r_cl, r_nil, r_cons, r_tst, r_chain, r_tru, r_not, r_and, r_or, r_andV, r_orV, r_notV, r_if, r_call, r_par2, r_nm, r_snil, r_scons, r_tp, r_yes, r_fin, r_fz, r_lc, r_for, r_it, r_walk, r_few, r_tupG, r_lstG,
  List.getElem?_cons_zero, List.getElem?_cons_succ, List.set_cons_zero, List.set_cons_succ, Out.bind_ok, List.append_nil, List.nil_append, List.cons_append, if_true, if_false, Bool.false_eq_true, endO, Bool.true_and, Bool.false_and]
  have fw : ∀ a b c d : T, few [a, b, c, d] = true := fun _ _ _ _ => rfl
  have ne := ne_bls [isI one, wthn one l (l + 3), isLs other, isLs other && (decide ((1 : Int) ≤ (lenT other : Int)) && decide ((lenT other : Int) ≤ 2))] [isI one, wthn one l (l + 3), isLs other, isLs other && (decide ((1 : Int) ≤ (lenT other : Int)) && decide ((lenT other : Int) ≤ 2))] μ
  rw [decide_eq_true rfl] at ne
  simp only [List.map_cons, List.map_nil, Bool.not_true] at ne
  unfold q_law_14
  simp only [r_ifS, r_tst, r_op, r_cl, r_cons, r_nil, r2, r4, r_call, r_var, r_c, List.getElem?_cons_zero, List.getElem?_cons_succ, Out.bind_ok, List.append_nil, r_tupG, few45, if_true, (number_ok one μ h1.val).1, within_ok one l (l + 3) μ h1.val, gAdd_i, listed_ok other μ h2.val, row_ok other 1 2 μ h2.val, i2, r_lstG, fw, ne, Bool.false_eq_true, if_false, r_next]
/-! ### the drawn name -/
theorem q15_ok {x0 x2 x3 x4 x5 x6 x7 x8 x9 x10 x11 x12 x13 x14 x15 x16 x17 x18 x19 x20 x21 : Option T} {N : Int} {μ : Mu} (hp : Pen N μ) (hN : N < 999000) : ∃ x μ', Alp x ∧ x.length ≤ 9 ∧ Pen (N + 30) μ' ∧ q_law_15 [x0, some (.mr 0), x2, x3, x4, x5, x6, x7, x8, x9, x10, x11, x12, x13, x14, x15, x16, x17, x18, x19, x20, x21] μ = .ok (.nx [x0, some (.mr 0), x2, x3, x4, x5, x6, x7, x8, x9, x10, x11, x12, x13, x14, x15, x16, some (.str x), x18, x19, x20, x21]) μ' := by
  obtain ⟨n, μ1, n0, n1, p1, e1⟩ := draw (many := 10) hp (by omega) (by omega) (by omega)
  obtain ⟨us, μ2, e2, hl, hP, hI⟩ := comp_inv (g := gNm 10) (mt := mYes) (me := (mIf (mTst (mOp gEq (mCall g__law_draw [] (mCons (mVar 1) (mCons (mC (.int 9)) mNil))) (mC (.int 0)))) (mCall g__law_pick [] (mCons (mVar 1) (mCons (mC (.str [97, 98, 121, 122, 48, 65, 95, 32])) mNil))) (mCall g__law_pick [] (mCons (mVar 1) (mCons (mC (.str [97, 109, 122])) mNil)))))
    (ρ := wipeR [x0, some (.mr 0), x2, x3, x4, x5, x6, x7, x8, x9, x10, x11, x12, x13, x14, x15, x16, x17, x18, x19, x20, x21] [10]) (I := fun k μ => Pen (N + 1 + 2 * k) μ) (P := fun u => ∃ c, c ∈ ALP ∧ u = .str [c]) (rangeT 0 n) 0 μ1 (by simpa using p1) fun k t μ ht hI => by
      have hk : k < 10 := by
        have := (List.getElem?_eq_some_iff.mp ht).1
        rw [rangeT_len] at this
        omega
      obtain ⟨d, μa, _, _, pa, ea⟩ := draw (many := 9) hI (by simp only [Nat.zero_add]; omega) (by omega) (by omega)
      refine ⟨_, rfl, rfl, ?_⟩
      have wp : (wipeR [x0, some (.mr 0), x2, x3, x4, x5, x6, x7, x8, x9, x10, x11, x12, x13, x14, x15, x16, x17, x18, x19, x20, x21] [10]).set 10 (some t) = [x0, some (.mr 0), x2, x3, x4, x5, x6, x7, x8, x9, some (t), x11, x12, x13, x14, x15, x16, x17, x18, x19, x20, x21] := rfl
      rw [wp]
      by_cases hd : d = 0
      · obtain ⟨c, μb, hc, pb, eb⟩ := pick_str (x := [97, 98, 121, 122, 48, 65, 95, 32]) pa (by simp only [Nat.zero_add]; omega) (by decide) (by decide)
        refine ⟨.str [c], μb, ?_, ⟨c, (show ∀ c ∈ [97, 98, 121, 122, 48, 65, 95, 32], c ∈ ALP by decide) c hc, rfl⟩, ?_⟩
        · simp only [r_seq, r_seq_nx, r_seq_rt, r_seq_bk, r_seq_ct, r_next, r_ret, r_retN, r_drop, r_ifS, r_asg, r_set, r_var, r_c, r_op, r_un, r_cl, r_nil, r_cons, r_tst, r_chain, r_tru, r_not, r_and, r_or, r_andV, r_orV, r_notV, r_if, r_call, r_par2, r_nm, r_snil, r_scons, r_tp, r_yes, r_fin, r_fz, r_lc, r_for, r_it, r_walk, r_few, r_tupG, r_lstG,
  List.getElem?_cons_zero, List.getElem?_cons_succ, List.set_cons_zero, List.set_cons_succ, Out.bind_ok, List.append_nil, List.nil_append, List.cons_append, if_true, if_false, Bool.false_eq_true, endO, ea, gEq_i, decide_eq_true hd, eb]
        · exact pb.mono (by omega)
      · obtain ⟨c, μb, hc, pb, eb⟩ := pick_str (x := [97, 109, 122]) pa (by simp only [Nat.zero_add]; omega) (by decide) (by decide)
        refine ⟨.str [c], μb, ?_, ⟨c, (show ∀ c ∈ [97, 109, 122], c ∈ ALP by decide) c hc, rfl⟩, ?_⟩
        · simp only [r_seq, r_seq_nx, r_seq_rt, r_seq_bk, r_seq_ct, r_next, r_ret, r_retN, r_drop, r_ifS, r_asg, r_set, r_var, r_c, r_op, r_un, r_cl, r_nil, r_cons, r_tst, r_chain, r_tru, r_not, r_and, r_or, r_andV, r_orV, r_notV, r_if, r_call, r_par2, r_nm, r_snil, r_scons, r_tp, r_yes, r_fin, r_fz, r_lc, r_for, r_it, r_walk, r_few, r_tupG, r_lstG,
  List.getElem?_cons_zero, List.getElem?_cons_succ, List.set_cons_zero, List.set_cons_succ, Out.bind_ok, List.append_nil, List.nil_append, List.cons_append, if_true, if_false, Bool.false_eq_true, endO, ea, gEq_i, decide_eq_false hd, eb]
        · exact pb.mono (by omega)
  obtain ⟨x, hx1, hx2, hx3, hx4⟩ := join_signs hP
  have hxl : x.length ≤ 9 := by
    rw [hx1, hl, rangeT_len]
    omega
  refine ⟨x, μ2, hx2, hxl, hI.mono (by rw [rangeT_len]; omega), ?_⟩
  have e2' : compM (gNm 10) mYes (mIf (mTst (mOp gEq (mCall g__law_draw [] (mCons (mVar 1) (mCons (mC (.int 9)) mNil))) (mC (.int 0)))) (mCall g__law_pick [] (mCons (mVar 1) (mCons (mC (.str [97, 98, 121, 122, 48, 65, 95, 32])) mNil))) (mCall g__law_pick [] (mCons (mVar 1) (mCons (mC (.str [97, 109, 122])) mNil)))) (wipeR [x0, some (.mr 0), x2, x3, x4, x5, x6, x7, x8, x9, x10, x11, x12, x13, x14, x15, x16, x17, x18, x19, x20, x21] [10]) (rangeT 0 n) μ1 = .ok us μ2 := e2
  have jn : mJoin (mC (.str [])) (mFin fzT (mLc [10] (mIt (mCons (mCall g__law_draw [] (mCons (mVar 1) (mCons (mC (.int 10)) mNil))) mNil) itR1) (gNm 10) mYes (mIf (mTst (mOp gEq (mCall g__law_draw [] (mCons (mVar 1) (mCons (mC (.int 9)) mNil))) (mC (.int 0)))) (mCall g__law_pick [] (mCons (mVar 1) (mCons (mC (.str [97, 98, 121, 122, 48, 65, 95, 32])) mNil))) (mCall g__law_pick [] (mCons (mVar 1) (mCons (mC (.str [97, 109, 122])) mNil)))))) [x0, some (.mr 0), x2, x3, x4, x5, x6, x7, x8, x9, x10, x11, x12, x13, x14, x15, x16, x17, x18, x19, x20, x21] μ = .ok (.str x) μ2 := by
    unfold mJoin
    simp only [r_seq, r_seq_nx, r_seq_rt, r_seq_bk, r_seq_ct, r_next, r_ret, r_retN, r_drop, r_ifS, r_asg, r_set, r_var, r_c, r_op, r_un, r_cl, r_nil, r_cons, r_tst, r_chain, r_tru, r_not, r_and, r_or, r_andV, r_orV, r_notV, r_if, r_call, r_par2, r_nm, r_snil, r_scons, r_tp, r_yes, r_fin, r_fz, r_lc, r_for, r_it, r_walk, r_few, r_tupG, r_lstG,
  List.getElem?_cons_zero, List.getElem?_cons_succ, List.set_cons_zero, List.set_cons_succ, Out.bind_ok, List.append_nil, List.nil_append, List.cons_append, if_true, if_false, Bool.false_eq_true, endO, e1, itR1_ok n0 (by omega), few_range n0 (by omega), e2']
    show (match asStrs us with
      | some xs => if Nat.ble ((xs.map List.length).sum + xs.length * ([] : List Nat).length) 100000 = true then Out.ok (T.str (joinL [] xs)) μ2 else .bad
      | none => .bad) = _
    rw [hx3]
    have sm : ((x.map fun c => ([c] : List Nat)).map List.length).sum ≤ 9 := by
      have z : ∀ y : List Nat, ((y.map fun c => ([c] : List Nat)).map List.length).sum = y.length := fun y => by
        induction y with
        | nil => rfl
        | cons a y ih => simp only [List.map_cons, List.sum_cons, ih, List.length_cons, List.length_nil]; omega
      rw [z]
      exact hxl
    have bl : Nat.ble (((x.map fun c => ([c] : List Nat)).map List.length).sum + (x.map fun c => ([c] : List Nat)).length * ([] : List Nat).length) 100000 = true := Nat.ble_eq_true_of_le (by simp only [List.length_nil, Nat.mul_zero]; omega)
    simp only [bl, if_true, hx4]
  unfold q_law_15
  rw [r_set, jn]
  rfl
theorem lt1 (c : Nat) : decide ([c] < [97]) = decide (c < 97) := by
  by_cases h : c < 97
  · rw [decide_eq_true h]
    exact decide_eq_true (List.cons_lt_cons_iff.mpr (.inl h))
  · rw [decide_eq_false h]
    refine decide_eq_false fun z => ?_
    rcases List.cons_lt_cons_iff.mp z with z | ⟨_, z⟩
    · exact h z
    · exact List.not_lt_nil _ z
theorem lt2 (c : Nat) : decide ([122] < [c]) = decide (122 < c) := by
  by_cases h : 122 < c
  · rw [decide_eq_true h]
    exact decide_eq_true (List.cons_lt_cons_iff.mpr (.inl h))
  · rw [decide_eq_false h]
    refine decide_eq_false fun z => ?_
    rcases List.cons_lt_cons_iff.mp z with z | ⟨_, z⟩
    · exact h z
    · exact List.not_lt_nil _ z
theorem gLeS_s (a b : List Nat) (μ : Mu) : gLeS (.str a) (.str b) μ = .ok (.bl (!decide (b < a))) μ := rfl
theorem low_not (c : Nat) : low c = (!decide (c < 97) && !decide (122 < c)) := by
  unfold low
  by_cases h : c < 97
  · rw [decide_eq_true h, decide_eq_false (by omega : ¬ 97 ≤ c)] <;> rfl
  · rw [decide_eq_false h, decide_eq_true (by omega : 97 ≤ c)]
    by_cases h2 : 122 < c
    · rw [decide_eq_true h2, decide_eq_false (by omega : ¬ c ≤ 122)] <;> rfl
    · rw [decide_eq_false h2, decide_eq_true (by omega : c ≤ 122)] <;> rfl
theorem eq_nil_str {x : List Nat} (hx : Asc x) (μ : Mu) : gEq (.lst (x.map fun c => T.str [c])) (.lst []) μ = .ok (.bl (decide (x = []))) μ := by
  cases x with
  | nil => rfl
  | cons c x =>
    rw [decide_eq_false (by simp)]
    have lay : ∀ y : List Nat, Asc y → PyData.canLayAll0 (y.map fun c => PyData.str ⟨#[c]⟩) = true ∧ PyData.depthAll (y.map fun c => PyData.str ⟨#[c]⟩) = 0 := fun y => by
      induction y with
      | nil => intro _; simp [PyData.canLayAll0, PyData.depthAll]
      | cons a y ih =>
        intro h
        obtain ⟨h1, h2⟩ := ih fun d hd => h d (List.mem_cons_of_mem _ hd)
        have ha := h a List.mem_cons_self
        refine ⟨?_, ?_⟩
        · simp only [List.map_cons, PyData.canLayAll0, PyData.canLay0, h1, Bool.and_true]
          simp [PyData.strOk]
          omega
        · simp only [List.map_cons, PyData.depthAll, PyData.depth, h2, Nat.max_self]
    have py : pyT μ 60 (.lst ((c :: x).map fun c => T.str [c])) = some (.list ((c :: x).map fun c => PyData.str ⟨#[c]⟩)) := by
      show (mapO (pyT μ 59) ((c :: x).map fun c => T.str [c])).map PyData.list = _
      rw [mapO_maps (f := pyT μ 59) (e := fun c : Nat => T.str [c]) (d := fun c => PyData.str ⟨#[c]⟩) fun o => rfl] <;> rfl
    have s : SeqAt.shaped (.list ((c :: x).map fun c => PyData.str ⟨#[c]⟩)) = true := by
      obtain ⟨h1, h2⟩ := lay (c :: x) hx
      unfold SeqAt.shaped
      rw [Bool.and_eq_true]
      refine ⟨by simpa only [PyData.canLay0] using h1, decide_eq_true ?_⟩
      simp only [PyData.depth, h2]
      omega
    unfold gEq eqM
    rw [py, show pyT μ 60 (.lst []) = some (.list []) from rfl]
    have s2 : SeqAt.shaped (.list []) = true := by decide
    simp only [s, s2, Bool.and_self, if_true]
    simp only [PyData.eqv, List.map_cons, PyData.eqvAll]
theorem q16_ok {x0 x2 x3 x4 x5 x6 x7 x8 x9 x10 x11 x12 x13 x14 x15 x16 x18 x19 x20 x21 : Option T} {x : List Nat} (hx : Alp x) (hl : x.length ≤ 9) (μ : Mu) : q_law_16 [x0, some (.mr 0), x2, x3, x4, x5, x6, x7, x8, x9, x10, x11, x12, x13, x14, x15, x16, some (.str x), x18, x19, x20, x21] μ = .ok (.nx [x0, some (.mr 0), x2, x3, x4, x5, x6, x7, x8, x9, x10, x11, x12, x13, x14, x15, x16, some (.str x), some (.bl (nm x)), x19, x20, x21]) μ := by
  have c := chain3 (m1 := mC (.int 1)) (m2 := mCl gLen (mCons (mVar 17) mNil)) (m3 := mC (.int 8)) (ρ := [x0, some (.mr 0), x2, x3, x4, x5, x6, x7, x8, x9, x10, x11, x12, x13, x14, x15, x16, some (.str x), x18, x19, x20, x21]) (μ := μ) (a := 1) (b := (x.length : Int)) (c := 8) rfl (by simp only [r_seq, r_seq_nx, r_seq_rt, r_seq_bk, r_seq_ct, r_next, r_ret, r_retN, r_drop, r_ifS, r_asg, r_set, r_var, r_c, r_op, r_un, r_cl, r_nil, r_cons, r_tst, r_chain, r_tru, r_not, r_and, r_or, r_andV, r_orV, r_notV, r_if, r_call, r_par2, r_nm, r_snil, r_scons, r_tp, r_yes, r_fin, r_fz, r_lc, r_for, r_it, r_walk, r_few, r_tupG, r_lstG,
  List.getElem?_cons_zero, List.getElem?_cons_succ, List.set_cons_zero, List.set_cons_succ, Out.bind_ok, List.append_nil, List.nil_append, List.cons_append, if_true, if_false, Bool.false_eq_true, endO, gLen_str (show x.length ≤ 1000 by omega)]) rfl
  have cm : compM (gNm 19) (mNot (mTst (mChain gLeS gLeS (mC (.str [97])) (mVar 19) (mC (.str [122]))))) (mVar 19) (wipeR [x0, some (.mr 0), x2, x3, x4, x5, x6, x7, x8, x9, x10, x11, x12, x13, x14, x15, x16, some (.str x), x18, x19, x20, x21] [19]) (sgT x) μ = .ok ((x.filter fun c => !low c).map fun c => T.str [c]) μ :=
    comp_filter (fun c : Nat => T.str [c]) (fun c => !low c) (fun c => T.str [c]) x fun c _ => by
      refine ⟨_, rfl, ?_, fun _ => rfl⟩
      show mNot (mTst (mChain gLeS gLeS (mC (.str [97])) (mVar 19) (mC (.str [122])))) [x0, some (.mr 0), x2, x3, x4, x5, x6, x7, x8, x9, x10, x11, x12, x13, x14, x15, x16, some (.str x), x18, some (.str [c]), x20, x21] μ = _
      rw [low_not]
      simp only [r_seq, r_seq_nx, r_seq_rt, r_seq_bk, r_seq_ct, r_next, r_ret, r_retN, r_drop, r_ifS, r_asg, r_set, r_var, r_c, r_op, r_un, r_cl, r_nil, r_cons, r_tst, r_chain, r_tru, r_not, r_and, r_or, r_andV, r_orV, r_notV, r_if, r_call, r_par2, r_nm, r_snil, r_scons, r_tp, r_yes, r_fin, r_fz, r_lc, r_for, r_it, r_walk, r_few, r_tupG, r_lstG,
  List.getElem?_cons_zero, List.getElem?_cons_succ, List.set_cons_zero, List.set_cons_succ, Out.bind_ok, List.append_nil, List.nil_append, List.cons_append, if_true, if_false, Bool.false_eq_true, endO, gLeS_s, lt1]
      cases decide (c < 97) <;> simp only [r_seq, r_seq_nx, r_seq_rt, r_seq_bk, r_seq_ct, r_next, r_ret, r_retN, r_drop, r_ifS, r_asg, r_set, r_var, r_c, r_op, r_un, r_cl, r_nil, r_cons, r_tst, r_chain, r_tru, r_not, r_and, r_or, r_andV, r_orV, r_notV, r_if, r_call, r_par2, r_nm, r_snil, r_scons, r_tp, r_yes, r_fin, r_fz, r_lc, r_for, r_it, r_walk, r_few, r_tupG, r_lstG,
  List.getElem?_cons_zero, List.getElem?_cons_succ, List.set_cons_zero, List.set_cons_succ, Out.bind_ok, List.append_nil, List.nil_append, List.cons_append, if_true, if_false, Bool.false_eq_true, endO, Bool.not_true, Bool.not_false, gLeS_s, lt2, Bool.true_and, Bool.false_and, Bool.not_not]
  have asc : Asc (x.filter fun c => !low c) := fun c hc => hx.asc c (List.mem_filter.mp hc).1
  have fin : decide ((x.filter fun c => !low c) = []) = x.all low := by
    cases q : x.all low with
    | true =>
      refine decide_eq_true (List.filter_eq_nil_iff.mpr fun c hc => ?_)
      rw [List.all_eq_true.mp q c hc]
      simp
    | false =>
      refine decide_eq_false fun z => ?_
      have : x.all low = true := List.all_eq_true.mpr fun c hc => by
        have := List.filter_eq_nil_iff.mp z c hc
        simpa using this
      rw [this] at q
      cases q
  have e := eq_nil_str asc μ
  rw [fin] at e
  unfold q_law_16 nm
  rw [r_set, r_andV, c]
  simp only [Out.bind_ok, truT_bl]
  cases (decide ((1 : Int) ≤ (x.length : Int)) && decide ((x.length : Int) ≤ 8)) with
  | true => simp only [r_seq, r_seq_nx, r_seq_rt, r_seq_bk, r_seq_ct, r_next, r_ret, r_retN, r_drop, r_ifS, r_asg, r_set, r_var, r_c, r_op, r_un, r_cl, r_nil, r_cons, r_tst, r_chain, r_tru, r_not, r_and, r_or, r_andV, r_orV, r_notV, r_if, r_call, r_par2, r_nm, r_snil, r_scons, r_tp, r_yes, r_fin, r_fz, r_lc, r_for, r_it, r_walk, r_few, r_tupG, r_lstG,
  List.getElem?_cons_zero, List.getElem?_cons_succ, List.set_cons_zero, List.set_cons_succ, Out.bind_ok, List.append_nil, List.nil_append, List.cons_append, if_true, if_false, Bool.false_eq_true, endO, r_itS2, itS2_str, few_sg (show x.length ≤ 1000 by omega), cm, show few ([] : List T) = true from rfl, e, Bool.true_and]
  | false => simp only [r_seq, r_seq_nx, r_seq_rt, r_seq_bk, r_seq_ct, r_next, r_ret, r_retN, r_drop, r_ifS, r_asg, r_set, r_var, r_c, r_op, r_un, r_cl, r_nil, r_cons, r_tst, r_chain, r_tru, r_not, r_and, r_or, r_andV, r_orV, r_notV, r_if, r_call, r_par2, r_nm, r_snil, r_scons, r_tp, r_yes, r_fin, r_fz, r_lc, r_for, r_it, r_walk, r_few, r_tupG, r_lstG,
  List.getElem?_cons_zero, List.getElem?_cons_succ, List.set_cons_zero, List.set_cons_succ, Out.bind_ok, List.append_nil, List.nil_append, List.cons_append, if_true, if_false, Bool.false_eq_true, endO, Bool.false_and]
/-! ### words -/
theorem q17_ok {x0 x2 x3 x4 x5 x6 x7 x8 x9 x10 x11 x12 x13 x14 x15 x16 x17 x18 x19 x20 x21 : Option T} {N : Int} {μ : Mu} (hp : Pen N μ) (hN : N < 1000000) : ∃ u μ', u ∈ RES ∧ Pen (N + 1) μ' ∧ q_law_17 [x0, some (.mr 0), x2, x3, x4, x5, x6, x7, x8, x9, x10, x11, x12, x13, x14, x15, x16, x17, x18, x19, x20, x21] μ = .ok (.nx [x0, some (.mr 0), x2, x3, x4, x5, x6, x7, x8, x9, x10, x11, x12, x13, x14, x15, x16, x17, x18, x19, some (u), x21]) μ' := by
  obtain ⟨u, μ', hu, p, e⟩ := pick_lst (ts := RES) hp hN (by decide) (by decide)
  refine ⟨u, μ', hu, p, ?_⟩
  unfold q_law_17
  simp only [r_seq, r_seq_nx, r_seq_rt, r_seq_bk, r_seq_ct, r_next, r_ret, r_retN, r_drop, r_ifS, r_asg, r_set, r_var, r_c, r_op, r_un, r_cl, r_nil, r_cons, r_tst, r_chain, r_tru, r_not, r_and, r_or, r_andV, r_orV, r_notV, r_if, r_call, r_par2, r_nm, r_snil, r_scons, r_tp, r_yes, r_fin, r_fz, r_lc, r_for, r_it, r_walk, r_few, r_tupG, r_lstG,
  List.getElem?_cons_zero, List.getElem?_cons_succ, List.set_cons_zero, List.set_cons_succ, Out.bind_ok, List.append_nil, List.nil_append, List.cons_append, if_true, if_false, Bool.false_eq_true, endO, show ∀ a b c d e f g : T, few [a, b, c, d, e, f, g] = true from fun _ _ _ _ _ _ _ => rfl, e]
theorem kept_tab : ∀ w ∈ ([[108, 111, 97, 100], [115, 116, 111, 114, 101], [99, 97, 108, 108], [103, 105, 118, 101], [103, 111], [105, 110], [97, 115, 107]] : List (List Nat)), nm w = true ∧ inT (.str w) RES = true ∧ nm (w ++ [115]) = true ∧ inT (.str (w ++ [115])) RES = false ∧ (∀ c ∈ w ++ [115], c < 128) ∧ w.length ≤ 5 := by decide +kernel
theorem q18_ok {x0 x2 x4 x5 x6 x7 x8 x9 x10 x11 x12 x13 x14 x15 x16 x19 x21 : Option T} {one u : T} {x : List Nat} (h1 : Good 3 one) (hx : Alp x) (hl : x.length ≤ 9) (hu : u ∈ RES) (μ : Mu) : q_law_18 [x0, some (.mr 0), x2, some (one), x4, x5, x6, x7, x8, x9, x10, x11, x12, x13, x14, x15, x16, some (.str x), some (.bl (nm x)), x19, some (u), x21] μ = .ok (.nx [x0, some (.mr 0), x2, some (one), x4, x5, x6, x7, x8, x9, x10, x11, x12, x13, x14, x15, x16, some (.str x), some (.bl (nm x)), x19, some (u), x21]) μ := by
  obtain ⟨w, hw, eu⟩ : ∃ w, w ∈ ([[108, 111, 97, 100], [115, 116, 111, 114, 101], [99, 97, 108, 108], [103, 105, 118, 101], [103, 111], [105, 110], [97, 115, 107]] : List (List Nat)) ∧ u = .str w := by
    simp at hu
    rcases hu with e | e | e | e | e | e | e <;> exact ⟨_, by decide, e⟩
  subst eu
  obtain ⟨k1, k2, k3, k4, k5, k6⟩ := kept_tab w hw
  have kw : Asc w := fun c hc => k5 c (List.mem_append_left _ hc)
  have n1 := name_str hx.asc (show x.length ≤ 1000 by omega) μ
  have n2 := word_str hx.asc (show x.length ≤ 1000 by omega) μ
  rw [alp_res hx, Bool.not_false, Bool.and_true] at n2
  have n3 := name_str kw (show w.length ≤ 1000 by omega) μ
  have n4 := word_str kw (show w.length ≤ 1000 by omega) μ
  have n5 := word_str (x := w ++ [115]) k5 (by simp; omega) μ
  rw [k1] at n3
  rw [k1, k2] at n4
  rw [k3, k4] at n5
  have ad : gAdd fzT (.str w) (.str [115]) μ = .ok (.str (w ++ [115])) μ := by
    show (if Nat.ble (w.length + ([115] : List Nat).length) 100000 = true then Out.ok (T.str (w ++ [115])) μ else .bad) = _
    rw [if_pos (Nat.ble_eq_true_of_le (by simp; omega))]
  have n6 : mAndV (mCall g_is_name [] (mCons (mVar 3) mNil)) (mOp gNe (mVar 3) (mC (.str [97]))) [x0, some (.mr 0), x2, some (one), x4, x5, x6, x7, x8, x9, x10, x11, x12, x13, x14, x15, x16, some (.str x), some (.bl (nm x)), x19, some (.str w), x21] μ = .ok (.bl false) μ := by
    by_cases hs : ∃ y, one = .str y
    · obtain ⟨y, e⟩ := hs
      have ey : one = .str [97] := by
        have at_ : ∀ i, i < 8 → ∀ y, atT i = .str y → atT i = .str [97]
          | 0, _, y, h => by cases h
          | 1, _, y, h => by cases h
          | 2, _, y, h => by cases h
          | 3, _, y, h => by cases h
          | 4, _, y, h => by cases h
          | 5, _, y, h => by cases h
          | 6, _, y, h => rfl
          | 7, _, y, h => by cases h
          | n + 8, h, _, _ => by omega
        rcases h1 with ⟨i, hi, e1⟩ | ⟨ts, e1 | e1, _⟩
        · rw [e1] at e ⊢
          exact at_ i hi y e
        · rw [e1] at e; cases e
        · rw [e1] at e; cases e
      subst ey
      have nn := name_str (x := [97]) (show Asc [97] from fun c hc => by simp at hc; omega) (by decide) μ
      simp only [r_seq, r_seq_nx, r_seq_rt, r_seq_bk, r_seq_ct, r_next, r_ret, r_retN, r_drop, r_ifS, r_asg, r_set, r_var, r_c, r_op, r_un, r_cl, r_nil, r_cons, r_tst, r_chain, r_tru, r_not, r_and, r_or, r_andV, r_orV, r_notV, r_if, r_call, r_par2, r_nm, r_snil, r_scons, r_tp, r_yes, r_fin, r_fz, r_lc, r_for, r_it, r_walk, r_few, r_tupG, r_lstG,
  List.getElem?_cons_zero, List.getElem?_cons_succ, List.set_cons_zero, List.set_cons_succ, Out.bind_ok, List.append_nil, List.nil_append, List.cons_append, if_true, if_false, Bool.false_eq_true, endO, nn, truT_bl, show nm [97] = true from by decide +kernel, ne_self_str (x := [97]) (fun c hc => by simp at hc; omega) μ]
    · have nn := name_no h1.val (fun y e => hs ⟨y, e⟩) μ
      simp only [r_seq, r_seq_nx, r_seq_rt, r_seq_bk, r_seq_ct, r_next, r_ret, r_retN, r_drop, r_ifS, r_asg, r_set, r_var, r_c, r_op, r_un, r_cl, r_nil, r_cons, r_tst, r_chain, r_tru, r_not, r_and, r_or, r_andV, r_orV, r_notV, r_if, r_call, r_par2, r_nm, r_snil, r_scons, r_tp, r_yes, r_fin, r_fz, r_lc, r_for, r_it, r_walk, r_few, r_tupG, r_lstG,
  List.getElem?_cons_zero, List.getElem?_cons_succ, List.set_cons_zero, List.set_cons_succ, Out.bind_ok, List.append_nil, List.nil_append, List.cons_append, if_true, if_false, Bool.false_eq_true, endO, nn, truT_bl]
  have fw6 : ∀ a b c d e f : T, few [a, b, c, d, e, f] = true := fun _ _ _ _ _ _ => rfl
  have fw2 : ∀ a b : T, few [a, b] = true := fun _ _ => rfl
  have fw1 : ∀ a : T, few [a] = true := fun _ => rfl
  have ne := ne_bls [nm x, nm x, true, false, true, false] [nm x, nm x, true, false, true, false] μ
  rw [decide_eq_true rfl] at ne
  simp only [List.map_cons, List.map_nil, Bool.not_true] at ne
  unfold q_law_18
  simp only [r_ifS, r_or, r_tst, r_op, r_cl, r_cons, r_nil, n6, r_call, r_var, r_c, List.getElem?_cons_zero, List.getElem?_cons_succ, Out.bind_ok, List.append_nil, n1, n2, n3, n4, n5, ad, Bool.not_true, Bool.not_false, Bool.and_false, Bool.and_true, Bool.and_self, r_lstG, r_tupG, fw6, fw2, fw1, if_true, ne, Bool.false_eq_true, if_false, names2 hx.asc (show x.length ≤ 1000 by omega) μ, ne_bl, beq_self_eq_true, names1 (x := x) μ, show gIsNot (.bl false) (.bl false) μ = .ok (.bl false) μ from rfl, r_next]
/-! ### rows -/
theorem q19_ok {x0 x2 x3 x4 x5 x6 x7 x8 x9 x10 x11 x12 x13 x14 x15 x16 x17 x18 x19 x20 x21 : Option T} {N : Int} {μ : Mu} (hp : Pen N μ) (hN : N < 999000) : ∃ (is : List Int) (μ' : Mu), is.length ≤ 3 ∧ (∀ i ∈ is, Row i) ∧ Pen (N + 10) μ' ∧ q_law_19 [x0, some (.mr 0), x2, x3, x4, x5, x6, x7, x8, x9, x10, x11, x12, x13, x14, x15, x16, x17, x18, x19, x20, x21] μ = .ok (.nx [x0, some (.mr 0), x2, x3, x4, x5, x6, x7, x8, x9, x10, x11, x12, x13, x14, x15, x16, x17, x18, x19, x20, some (.lst (is.map T.int))]) μ' := by
  obtain ⟨n, μ1, n0, n1, p1, e1⟩ := draw (many := 4) hp (by omega) (by omega) (by omega)
  obtain ⟨us, μ2, e2, hl, hP, hI⟩ := comp_inv (g := gNm 10) (mt := mYes) (me := mCall g__law_draw [] (mCons (mVar 1) (mCons (mC (.int 4)) mNil)))
    (ρ := wipeR [x0, some (.mr 0), x2, x3, x4, x5, x6, x7, x8, x9, x10, x11, x12, x13, x14, x15, x16, x17, x18, x19, x20, x21] [10]) (I := fun k μ => Pen (N + 1 + k) μ) (P := fun u => ∃ i, Row i ∧ u = .int i) (rangeT 0 n) 0 μ1 (by simpa using p1) fun k t μ ht hI => by
      have hk : k < 10 := by
        have := (List.getElem?_eq_some_iff.mp ht).1
        rw [rangeT_len] at this
        omega
      obtain ⟨d, μa, d0, d1, pa, ea⟩ := draw (many := 4) hI (by simp only [Nat.zero_add]; omega) (by omega) (by omega)
      refine ⟨_, rfl, rfl, .int d, μa, ?_, ⟨d, ⟨d0, d1⟩, rfl⟩, pa.mono (by omega)⟩
      have wp : (wipeR [x0, some (.mr 0), x2, x3, x4, x5, x6, x7, x8, x9, x10, x11, x12, x13, x14, x15, x16, x17, x18, x19, x20, x21] [10]).set 10 (some t) = [x0, some (.mr 0), x2, x3, x4, x5, x6, x7, x8, x9, some (t), x11, x12, x13, x14, x15, x16, x17, x18, x19, x20, x21] := rfl
      rw [wp]
      simp only [r_seq, r_seq_nx, r_seq_rt, r_seq_bk, r_seq_ct, r_next, r_ret, r_retN, r_drop, r_ifS, r_asg, r_set, r_var, r_c, r_op, r_un, r_cl, r_nil, r_cons, r_tst, r_chain, r_tru, r_not, r_and, r_or, r_andV, r_orV, r_notV, r_if, r_call, r_par2, r_nm, r_snil, r_scons, r_tp, r_yes, r_fin, r_fz, r_lc, r_for, r_it, r_walk, r_few, r_tupG, r_lstG,
  List.getElem?_cons_zero, List.getElem?_cons_succ, List.set_cons_zero, List.set_cons_succ, Out.bind_ok, List.append_nil, List.nil_append, List.cons_append, if_true, if_false, Bool.false_eq_true, endO, ea]
  have conv : ∀ {us : List T}, (∀ u ∈ us, ∃ i, Row i ∧ u = .int i) → ∃ is : List Int, us = is.map T.int ∧ ∀ i ∈ is, Row i := fun {us} => by
    induction us with
    | nil => exact fun _ => ⟨[], rfl, (fun _ h => nomatch h)⟩
    | cons u us ih =>
      intro h
      obtain ⟨i, hi, e⟩ := h u List.mem_cons_self
      obtain ⟨is, e2, h2⟩ := ih fun v hv => h v (List.mem_cons_of_mem _ hv)
      refine ⟨i :: is, by rw [e, e2]; rfl, fun j hj => ?_⟩
      rcases List.mem_cons.mp hj with z | z
      · rw [z]; exact hi
      · exact h2 j z
  obtain ⟨is, eu, hr⟩ := conv hP
  have hil : is.length ≤ 3 := by
    have : us.length = is.length := by rw [eu, List.length_map]
    rw [← this, hl, rangeT_len]
    omega
  refine ⟨is, μ2, hil, hr, hI.mono (by rw [rangeT_len]; omega), ?_⟩
  have e2' : compM (gNm 10) mYes (mCall g__law_draw [] (mCons (mVar 1) (mCons (mC (.int 4)) mNil))) (wipeR [x0, some (.mr 0), x2, x3, x4, x5, x6, x7, x8, x9, x10, x11, x12, x13, x14, x15, x16, x17, x18, x19, x20, x21] [10]) (rangeT 0 n) μ1 = .ok us μ2 := e2
  unfold q_law_19
  simp only [r_seq, r_seq_nx, r_seq_rt, r_seq_bk, r_seq_ct, r_next, r_ret, r_retN, r_drop, r_ifS, r_asg, r_set, r_var, r_c, r_op, r_un, r_cl, r_nil, r_cons, r_tst, r_chain, r_tru, r_not, r_and, r_or, r_andV, r_orV, r_notV, r_if, r_call, r_par2, r_nm, r_snil, r_scons, r_tp, r_yes, r_fin, r_fz, r_lc, r_for, r_it, r_walk, r_few, r_tupG, r_lstG,
  List.getElem?_cons_zero, List.getElem?_cons_succ, List.set_cons_zero, List.set_cons_succ, Out.bind_ok, List.append_nil, List.nil_append, List.cons_append, if_true, if_false, Bool.false_eq_true, endO, e1, itR1_ok n0 (by omega), few_range n0 (by omega), e2', eu]
theorem q20_ok {x0 x2 x3 x4 x5 x6 x7 x8 x9 x10 x11 x12 x13 x14 x15 x16 x17 x18 x19 x20 : Option T} {is : List Int} (hl : is.length ≤ 3) (h : ∀ i ∈ is, Row i) (μ : Mu) : q_law_20 [x0, some (.mr 0), x2, x3, x4, x5, x6, x7, x8, x9, x10, x11, x12, x13, x14, x15, x16, x17, x18, x19, x20, some (.lst (is.map T.int))] μ = .ok (.nx [x0, some (.mr 0), x2, x3, x4, x5, x6, x7, x8, x9, x10, x11, x12, x13, x14, x15, x16, x17, x18, x19, x20, some (.lst (is.map T.int))]) μ := by
  have a := asc_ok (is := is) (by omega) μ
  have b := unlike_ok (is := is) (by omega) μ
  have c := sortSet_ok (m := mVar 21) (ρ := [x0, some (.mr 0), x2, x3, x4, x5, x6, x7, x8, x9, x10, x11, x12, x13, x14, x15, x16, x17, x18, x19, x20, some (.lst (is.map T.int))]) (μ := μ) (is := is) rfl (by omega)
  have d := lenSet_ok (m := mVar 21) (ρ := [x0, some (.mr 0), x2, x3, x4, x5, x6, x7, x8, x9, x10, x11, x12, x13, x14, x15, x16, x17, x18, x19, x20, some (.lst (is.map T.int))]) (μ := μ) (is := is) rfl (by omega)
  have eqs : gEq (.lst (is.map T.int)) (.lst ((sortU is).map T.int)) μ = .ok (.bl (decide (is = sortU is))) μ := by
    unfold gEq
    rw [eq_ints]
  have ne := ne_bls [ascI is, decide (((dedI is).length : Int) = (is.length : Int))] [decide (is = sortU is), decide (((dedI is).length : Int) = (is.length : Int))] μ
  rw [rows_asc hl h, decide_eq_true rfl] at ne
  simp only [List.map_cons, List.map_nil, Bool.not_true] at ne
  rw [rows_asc hl h] at a
  have fw : ∀ a b : T, few [a, b] = true := fun _ _ => rfl
  unfold q_law_20
  simp only [r_ifS, r_tst, r_op, c, d, r_cl, r_cons, r_nil, r_call, r_var, List.getElem?_cons_zero, List.getElem?_cons_succ, Out.bind_ok, List.append_nil, a, b, eqs, gLen_lst, List.length_map, gEq_i, r_lstG, fw, if_true, ne, Bool.false_eq_true, if_false, r_next]
end Mr

namespace Mr
open PySem PySem.Spec PyProof.Rows L2 TL

theorem q1_ok {x0 x2 x5 x6 x7 x8 x9 x10 x11 x12 x13 x14 x15 x16 x17 x18 x19 x20 x21 : Option T} {x3 x4 : Option T} {N : Int} {μ : Mu} (hp : Pen N μ) (hN : N < 999000) : ∃ one other μ', Good 3 one ∧ Good 3 other ∧ Pen (N + 70) μ' ∧ q_law_1 [x0, some (.mr 0), x2, x3, x4, x5, x6, x7, x8, x9, x10, x11, x12, x13, x14, x15, x16, x17, x18, x19, x20, x21] μ = .ok (.nx [x0, some (.mr 0), x2, some (one), some (other), x5, x6, x7, x8, x9, x10, x11, x12, x13, x14, x15, x16, x17, x18, x19, x20, x21]) μ' := by
  obtain ⟨one, μ1, e1, g1, p1⟩ := thing_ok 2 6 μ N (by omega) hp (by show N + 17 < 1000000; omega)
  have p1 : Pen (N + 17) μ1 := p1
  obtain ⟨other, μ2, e2, g2, p2⟩ := thing_ok 3 6 μ1 (N + 17) (by omega) p1 (by show N + 17 + 53 < 1000000; omega)
  have p2 : Pen (N + 17 + 53) μ2 := p2
  have e1 : g__law_thing 6 [.mr 0, .int 2] μ = .ok one μ1 := e1
  have e2 : g__law_thing 6 [.mr 0, .int 3] μ1 = .ok other μ2 := e2
  refine ⟨one, other, μ2, g1.up, g2, p2.mono (by omega), ?_⟩
  unfold q_law_1
  simp only [r_seq, r_seq_nx, r_seq_rt, r_seq_bk, r_seq_ct, r_next, r_ret, r_retN, r_drop, r_ifS, r_asg, r_set, r_var, r_c, r_op, r_un, r_cl, r_nil, r_cons, r_tst, r_chain, r_tru, r_not, r_and, r_or, r_andV, r_orV, r_notV, r_if, r_call, r_par2, r_nm, r_snil, r_scons, r_tp, r_yes, r_fin, r_fz, r_lc, r_for, r_it, r_walk, r_few, r_tupG, r_lstG,
  List.getElem?_cons_zero, List.getElem?_cons_succ, List.set_cons_zero, List.set_cons_succ, Out.bind_ok, List.append_nil, List.nil_append, List.cons_append, if_true, if_false, Bool.false_eq_true, endO, e1, e2]
def Slots (ρ : Rho) : Prop := ∃ x0 x2 x3 x4 x5 x6 x7 x8 x9 x10 x11 x12 x13 x14 x15 x16 x17 x18 x19 x20 x21 : Option T, ρ = [x0, some (.mr 0), x2, x3, x4, x5, x6, x7, x8, x9, x10, x11, x12, x13, x14, x15, x16, x17, x18, x19, x20, x21]
def turnM : MS := (mSeq (q_law_1)
  (mSeq (q_law_2)
  (mSeq (q_law_3)
  (mSeq (q_law_4)
  (mSeq (q_law_8)
  (mSeq (q_law_9)
  (mSeq (q_law_10)
  (mSeq (q_law_11)
  (mSeq (q_law_12)
  (mSeq (q_law_13)
  (mSeq (q_law_14)
  (mSeq (q_law_15)
  (mSeq (q_law_16)
  (mSeq (q_law_17)
  (mSeq (q_law_18)
  (mSeq (q_law_19)
  (q_law_20)))))))))))))))))
theorem turn_ok {N : Int} {μ : Mu} {ρ : Rho} (hs : Slots ρ) (hp : Pen N μ) (hN : N < 990000) : ∃ ρ' μ', Slots ρ' ∧ Pen (N + 200) μ' ∧ turnM ρ μ = .ok (.nx ρ') μ' := by
  obtain ⟨x0, x2, x3, x4, x5, x6, x7, x8, x9, x10, x11, x12, x13, x14, x15, x16, x17, x18, x19, x20, x21, rfl⟩ := hs
  obtain ⟨one, other, μ1, g1, g2, p1, e1⟩ := q1_ok (x0 := x0) (x2 := x2) (x3 := x3) (x4 := x4) (x5 := x5) (x6 := x6) (x7 := x7) (x8 := x8) (x9 := x9) (x10 := x10) (x11 := x11) (x12 := x12) (x13 := x13) (x14 := x14) (x15 := x15) (x16 := x16) (x17 := x17) (x18 := x18) (x19 := x19) (x20 := x20) (x21 := x21) hp (by omega)
  obtain ⟨cells, a, r, rfl, a0, aN, r0⟩ := id p1
  generalize penO cells a r = o at e1 p1
  unfold turnM
  rw [r_seq, e1, r_seq_nx]
  rw [r_seq, q2_ok one other o, r_seq_nx]
  rw [r_seq, q3_ok one other o, r_seq_nx]
  rw [r_seq, q4_ok g1 g2 o, r_seq_nx]
  rw [r_seq, q8_ok one other o, r_seq_nx]
  rw [r_seq, q9_ok g1 g2 [o], r_seq_nx]
  rw [r_seq, q10_ok g1 g2 [o], r_seq_nx]
  rw [r_seq, q11_ok g1 o, r_seq_nx]
  rw [r_seq, q12_ok g1 o, r_seq_nx]
  obtain ⟨l, μ2, p2, e13⟩ := @q13_ok x0 x2 (some (.lst (ERR one other))) (some (TOLD one)) (some (.int 11)) (some (.err 131320007385410 xns11 [one, other, .int 5])) (some (.lst [.bl false, .bl false, .bl false, .bl false, .bl false, .bl false, .bl false, .bl false, .bl false, .bl false, .bl false, .bl true])) x10 (some (fx 3 one)) (some (fx 3 other)) (some (.lst (PAP (fx 3 one)))) x14 x15 x16 x17 x18 x19 x20 x21 one (some other) (N + 70) [o] g1 p1 (by omega)
  rw [r_seq, e13, r_seq_nx]
  rw [r_seq, q14_ok g1 g2 μ2, r_seq_nx]
  obtain ⟨x, μ3, hx, hl, p3, e15⟩ := @q15_ok x0 x2 (some (one)) (some (other)) (some (.lst (ERR one other))) (some (TOLD one)) (some (.int 11)) (some (.err 131320007385410 xns11 [one, other, .int 5])) (some (.lst [.bl false, .bl false, .bl false, .bl false, .bl false, .bl false, .bl false, .bl false, .bl false, .bl false, .bl false, .bl true])) x10 (some (fx 3 one)) (some (fx 3 other)) (some (.lst (PAP (fx 3 one)))) x14 (some (.bl (isI one))) (some (.int l)) x17 x18 x19 x20 x21 (N + 70 + 1) μ2 p2 (by omega)
  rw [r_seq, e15, r_seq_nx]
  rw [r_seq, q16_ok hx hl μ3, r_seq_nx]
  obtain ⟨u, μ4, hu, p4, e17⟩ := @q17_ok x0 x2 (some (one)) (some (other)) (some (.lst (ERR one other))) (some (TOLD one)) (some (.int 11)) (some (.err 131320007385410 xns11 [one, other, .int 5])) (some (.lst [.bl false, .bl false, .bl false, .bl false, .bl false, .bl false, .bl false, .bl false, .bl false, .bl false, .bl false, .bl true])) x10 (some (fx 3 one)) (some (fx 3 other)) (some (.lst (PAP (fx 3 one)))) x14 (some (.bl (isI one))) (some (.int l)) (some (.str x)) (some (.bl (nm x))) x19 x20 x21 (N + 70 + 1 + 30) μ3 p3 (by omega)
  rw [r_seq, e17, r_seq_nx]
  rw [r_seq, q18_ok g1 hx hl hu μ4, r_seq_nx]
  obtain ⟨is, μ5, il, ir, p5, e19⟩ := @q19_ok x0 x2 (some (one)) (some (other)) (some (.lst (ERR one other))) (some (TOLD one)) (some (.int 11)) (some (.err 131320007385410 xns11 [one, other, .int 5])) (some (.lst [.bl false, .bl false, .bl false, .bl false, .bl false, .bl false, .bl false, .bl false, .bl false, .bl false, .bl false, .bl true])) x10 (some (fx 3 one)) (some (fx 3 other)) (some (.lst (PAP (fx 3 one)))) x14 (some (.bl (isI one))) (some (.int l)) (some (.str x)) (some (.bl (nm x))) x19 (some (u)) x21 (N + 70 + 1 + 30 + 1) μ4 p4 (by omega)
  rw [r_seq, e19, r_seq_nx]
  rw [q20_ok il ir μ5]
  · exact ⟨_, μ5, ⟨_, _, _, _, _, _, _, _, _, _, _, _, _, _, _, _, _, _, _, _, _, rfl⟩, p5.mono (by omega), rfl⟩
  all_goals exact none
/-! ### the law -/
theorem cut_map {α β : Type} (f : α → β) (xs : List α) (lo hi : Option Int) : cutT (xs.map f) lo hi = (cutT xs lo hi).map f := by
  unfold cutT
  rw [List.length_map, List.map_take, List.map_drop]
theorem pen_made (ns : List Int) : ∃ cells, g__law_pen [.kls (ns.map T.int)] [] = .ok (.mr 0) [penO cells 0 0] := by
  refine ⟨cutT ns none (some 63), ?_⟩
  unfold g__law_pen
  rw [fn_k (k := 1) (ts := [_]) rfl]
  show endO (m__law_pen [some (.kls (ns.map T.int))] []) = _
  unfold m__law_pen
  have sl : mSl fzT (mVar 0) mPN (mPS (mC (.int 63))) [some (.kls (ns.map T.int))] [] = .ok (.lst ((cutT ns none (some 63)).map T.int)) [] := by
    show fzT (cutT (ns.map T.int) none (some 63)) [] = _
    rw [cut_map]
    rfl
  have lo : ∀ ts : List T, gLstOf fzT [.lst ts] [] = .ok (.lst ts) [] := fun _ => rfl
  have lm : ∀ a b c : T, gLstM [a, b, c] [] = .ok (.mr 0) [.lst [a, b, c]] := fun _ _ _ => rfl
  simp only [r_seq, r_seq_nx, r_seq_rt, r_seq_bk, r_seq_ct, r_next, r_ret, r_retN, r_drop, r_ifS, r_asg, r_set, r_var, r_c, r_op, r_un, r_cl, r_nil, r_cons, r_tst, r_chain, r_tru, r_not, r_and, r_or, r_andV, r_orV, r_notV, r_if, r_call, r_par2, r_nm, r_snil, r_scons, r_tp, r_yes, r_fin, r_fz, r_lc, r_for, r_it, r_walk, r_few, r_tupG, r_lstG,
  List.getElem?_cons_zero, List.getElem?_cons_succ, List.set_cons_zero, List.set_cons_succ, Out.bind_ok, List.append_nil, List.nil_append, List.cons_append, if_true, if_false, Bool.false_eq_true, endO, sl, lo, lm]
  rfl
theorem plain : PlainLaw := fun ns _ _ => by
  obtain ⟨cells, e⟩ := pen_made ns
  have hp0 : Pen 0 [penO cells 0 0] := ⟨cells, 0, 0, rfl, Int.le_refl _, Int.le_refl _, Int.le_refl _⟩
  obtain ⟨ρ', μ', h1, h2⟩ := loop_all (g := gNm 2) (mb := turnM) (I := fun j ρ μ => Slots ρ ∧ Pen (200 * j) μ) (rangeT 0 8) 0 [some (.kls (ns.map T.int)), some (.mr 0), none, none, none, none, none, none, none, none, none, none, none, none, none, none, none, none, none, none, none, none] [penO cells 0 0]
    ⟨⟨_, _, _, _, _, _, _, _, _, _, _, _, _, _, _, _, _, _, _, _, _, rfl⟩, by simpa using hp0⟩ fun j t ρ μ ht hI => by
      obtain ⟨⟨x0, x2, x3, x4, x5, x6, x7, x8, x9, x10, x11, x12, x13, x14, x15, x16, x17, x18, x19, x20, x21, rfl⟩, hp⟩ := hI
      have hj : j < 8 := by
        have := (List.getElem?_eq_some_iff.mp ht).1
        rw [rangeT_len] at this
        omega
      obtain ⟨ρ2, μ2, s2, p2, e2⟩ := turn_ok (ρ := [x0, some (.mr 0), some (t), x3, x4, x5, x6, x7, x8, x9, x10, x11, x12, x13, x14, x15, x16, x17, x18, x19, x20, x21]) ⟨_, _, _, _, _, _, _, _, _, _, _, _, _, _, _, _, _, _, _, _, _, rfl⟩ hp (by simp only [Nat.zero_add]; omega)
      exact ⟨_, μ, rfl, ρ2, μ2, .inl e2, s2, p2.mono (by omega)⟩
  refine ⟨μ', ?_⟩
  unfold g_law
  rw [fn_k (k := 1) (ts := [_]) rfl]
  show endO (m_law [some (.kls (ns.map T.int)), none, none, none, none, none, none, none, none, none, none, none, none, none, none, none, none, none, none, none, none, none] []) = _
  have hf : q_law_21 [some (.kls (ns.map T.int)), some (.mr 0), none, none, none, none, none, none, none, none, none, none, none, none, none, none, none, none, none, none, none, none] [penO cells 0 0] = .ok (.nx ρ') μ' := by
    show mFor (mIt (mCons (mC (.int 8)) mNil) itR1) (gNm 2) turnM _ _ = _
    rw [r_for, r_it]
    simp only [r_cons, r_c, r_nil, Out.bind_ok, itR1_ok (show (0 : Int) ≤ 8 by omega) (by omega), r_walk]
    exact h1
  unfold m_law
  simp only [r_seq, r_seq_nx, r_seq_rt, r_seq_bk, r_seq_ct, r_next, r_ret, r_retN, r_drop, r_ifS, r_asg, r_set, r_var, r_c, r_op, r_un, r_cl, r_nil, r_cons, r_tst, r_chain, r_tru, r_not, r_and, r_or, r_andV, r_orV, r_notV, r_if, r_call, r_par2, r_nm, r_snil, r_scons, r_tp, r_yes, r_fin, r_fz, r_lc, r_for, r_it, r_walk, r_few, r_tupG, r_lstG,
  List.getElem?_cons_zero, List.getElem?_cons_succ, List.set_cons_zero, List.set_cons_succ, Out.bind_ok, List.append_nil, List.nil_append, List.cons_append, if_true, if_false, Bool.false_eq_true, endO, e, hf]
end Mr
theorem PySem.Challenge.cw_anydepth_k00_errors_papers_checks_holds : PySem.Challenge.rw_anydepth_k00_errors_papers_checks.Holds := by
  exact Mr.holdsOf Mr.plain
