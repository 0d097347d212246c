import PyProof.Rows.All
import Wide.All
import OpenK.AllK
import Wide.FinOn
import KE.KStateDown
import Lean
import HandS.Base
import HandS.Call
import HandS.List
import HandS.Comp
import HandS.Iter
import HandS.Ends
import HandS.Words
import HandS.Flow
import HandS.Style
import HandS.IsInst
import HandS.Zip
import HandS.Lambda
import HandS.Defaults
import HandS.Wide
import HandS.TupAny
import HandS.Text
import PyProof.ReprRoads
import KE.SortKeyHeap
import HandS.SortKw
import PyProof.CallFns
import HandS.EndTab
import HandS.HeadHook4
import HandS.Head0
import HandS.Head1
import HandS.Head2
import HandS.HeadEnd
import PySem.Challenge.RW_anydepth_k05_stairs_by_trying_dues
set_option Elab.async false
set_option linter.all false
set_option maxRecDepth 100000
set_option maxHeartbeats 0
/-! Mr: a def's body as a plain function over trees with a small store of mutable objects. -/
namespace Mr
open PySem PySem.Spec PyProof.Rows L2

/-! ### trees, the store -/
inductive T where
  | non | bl (b : Bool) | int (i : Int) | str (x : List Nat) | ty (n : String) | ref (a : Addr)
  | tup (xs : List T) | lst (xs : List T) | kls (xs : List T) | mr (i : Nat) | dic (ks : List Key) (xs : List T)
  | lam (q : Str) (ps : Arguments) (b : Expr) (sc : Scope)
inductive MO where
  | lst (xs : List T) | dead | tab (P : Addr) (q : Str)
abbrev Mu := List MO
abbrev Rho := List (Option T)

inductive Out (α : Type) where
  | ok (a : α) (m : Mu)
  | bad
def Out.bind {α β : Type} (o : Out α) (k : α → Mu → Out β) : Out β := match o with
  | .ok a m => k a m
  | .bad => .bad
@[simp] theorem Out.bind_ok {α β : Type} (a : α) (m : Mu) (k : α → Mu → Out β) : (Out.ok a m).bind k = k a m := rfl
@[simp] theorem Out.bind_bad {α β : Type} (k : α → Mu → Out β) : (Out.bad : Out α).bind k = .bad := rfl
inductive Flo where
  | nx (r : Rho) | rt (t : T) | bk (r : Rho) | ct (r : Rho)

abbrev ME := Rho → Mu → Out T
abbrev MA := Rho → Mu → Out (List T)
abbrev MT := Rho → Mu → Out Bool
abbrev MS := Rho → Mu → Out Flo
abbrev MG := T → Rho → Mu → Out Rho

/-! ### what stands for what -/
/-- G: objects that others are at work on; F: objects that nobody changes; e: where the store's objects lie -/
structure Wd where
  G : Addr → Prop
  F : Addr → Prop
  e : List Addr
/-- a list that nobody changes -/
def LF (H : Hp) (W : Wd) (a : Addr) (vs : List V) : Prop := W.F a ∧ H a = some (.lst vs)
/-- a known list (the script, a list of the module) -/
def KF (K : PySem.W.Frag) (H : Hp) (a : Addr) (vs : List V) : Prop := (∃ o, H a = some (.frz o (.lst vs))) ∨
    ∃ (o : Obj) (its : Array Value) (n : Nat), K.lookup a = some o ∧ o.cls = .type "list" ∧ o.dict = none ∧ o.data = .seq its n ∧ its.size ≤ sizeLine ∧ Vals vs its.toList
theorem LF.sq {K : PySem.W.Frag} {H : Hp} {W : Wd} {a : Addr} {vs : List V} (h : LF H W a vs) : SqL K H a vs := .inl (.inl h.2)
theorem KF.sq {K : PySem.W.Frag} {H : Hp} {a : Addr} {vs : List V} (h : KF K H a vs) : SqL K H a vs := by
  rcases h with h | h
  · exact .inl (.inr h)
  · exact .inr h
/-- the lambda at a -/
def LamO (a : Addr) (q : Str) (ps : Arguments) (b : Expr) (sc : Scope) (pm : Value) (c : Addr) (ctv : Value) : HO := .ext fun h => h.get? a = some (PySem.W.kla_obj "<lambda>" q ps b sc [] pm c ctv)
mutual
inductive Rp (K : PySem.W.Frag) (H : Hp) (W : Wd) : T → V → Prop
  | non : Rp K H W .non .non
  | bl (b : Bool) : Rp K H W (.bl b) (.bl b)
  | int (i : Int) : Rp K H W (.int i) (.int i)
  | str (x : List Nat) : Rp K H W (.str x) (.str ⟨x.toArray⟩)
  | ty (n : String) : Rp K H W (.ty n) (.ty n)
  | ref (a : Addr) : Rp K H W (.ref a) (.ref a)
  | tup {ts : List T} {a : Addr} {vs : List V} : SqT K H a vs → RpL K H W ts vs → Rp K H W (.tup ts) (.ref a)
  | lst {ts : List T} {a : Addr} {vs : List V} : LF H W a vs → RpL K H W ts vs → Rp K H W (.lst ts) (.ref a)
  | kls {ts : List T} {a : Addr} {vs : List V} : KF K H a vs → RpL K H W ts vs → Rp K H W (.kls ts) (.ref a)
  | mr {i : Nat} {a : Addr} : W.e[i]? = some a → Rp K H W (.mr i) (.ref a)
  | dic {ks : List Key} {ts : List T} {a : Addr} {vs : List V} : W.F a → H a = some (.dK (ks.zip vs)) → ks.length = vs.length → RpL K H W ts vs → Rp K H W (.dic ks ts) (.ref a)
  | lam {q : Str} {ps : Arguments} {b : Expr} {sc : Scope} {a : Addr} {pm : Value} {c : Addr} {ctv : Value} : H a = some (LamO a q ps b sc pm c ctv) → H c = some (LamX.CodeO c q) → Rp K H W (.lam q ps b sc) (.ref a)
inductive RpL (K : PySem.W.Frag) (H : Hp) (W : Wd) : List T → List V → Prop
  | nil : RpL K H W [] []
  | cons {t : T} {ts : List T} {v : V} {vs : List V} : Rp K H W t v → RpL K H W ts vs → RpL K H W (t :: ts) (v :: vs)
end
/-- what is read stays: the frozen objects, tuples, known ones; the store only grows -/
structure Rf (H : Hp) (W : Wd) (H' : Hp) (W' : Wd) : Prop where
  fz : ∀ a, W.F a → W'.F a ∧ H' a = H a
  tp : ∀ a xs, H a = some (.tup xs) → H' a = some (.tup xs)
  kn : ∀ a o u, H a = some (.frz o u) → H' a = some (.frz o u)
  et : ∀ (i : Nat) (a : Addr), W.e[i]? = some a → W'.e[i]? = some a
  ex : ∀ a φ, H a = some (.ext φ) → H' a = some (.ext φ)
/-- .. and the guarded ones -/
structure Fr (H : Hp) (W : Wd) (H' : Hp) (W' : Wd) : Prop extends Rf H W H' W' where
  gg : W'.G = W.G
  gz : ∀ a, W.G a → H' a = H a
/-- an object, and no table of code objects -/
def NT (o : Option HO) : Prop := o ≠ none ∧ ∀ ps, o ≠ some (.tbl ps)
theorem NT.of {o : HO} (h : ∀ ps, o ≠ .tbl ps) : NT (some o) := ⟨(fun z => nomatch z), fun ps z => h ps (Option.some.inj z)⟩
theorem NT.lst {xs : List V} : NT (some (.lst xs)) := NT.of fun _ z => nomatch z
def RpO (K : PySem.W.Frag) (H : Hp) (W : Wd) (a : Addr) : MO → Prop
  | .lst ts => ∃ vs, H a = some (.lst vs) ∧ RpL K H W ts vs
  | .dead => NT (H a)
  | .tab P q => a = P ∧ LamX.TabS H P q
structure Ok (K : PySem.W.Frag) (H : Hp) (W : Wd) (m : Mu) : Prop where
  len : W.e.length = m.length
  nd : W.e.Nodup
  nf : ∀ a, a ∈ W.e → ¬ W.F a ∧ ¬ W.G a
  fk : ∀ a, W.F a → NT (H a) ∧ ¬ W.G a
  gk : ∀ a, W.G a → NT (H a)
  ob : ∀ (i : Nat) (a : Addr) (o : MO), W.e[i]? = some a → m[i]? = some o → RpO K H W a o
structure RpSt (K : PySem.W.Frag) (H : Hp) (W : Wd) (σ : L2.St) (ρ : Rho) : Prop where
  len : ρ.length = σ.length
  at_ : ∀ (i : Nat) (t : T), ρ[i]? = some (some t) → ∃ v, σ[i]? = some (some v) ∧ Rp K H W t v

section
variable {K : PySem.W.Frag} {H H' H1 H2 : Hp} {W W' W1 W2 : Wd}
theorem Rf.refl : Rf H W H W := ⟨fun _ h => ⟨h, rfl⟩, fun _ _ h => h, fun _ _ _ h => h, fun _ _ h => h, fun _ _ h => h⟩
/-- the tables stay where all but lists stays -/
theorem tabS_nl {P : Addr} {q : Str} (t : LamX.TabS H P q) (e : ∀ b o, H b = some o → (∀ xs, o ≠ .lst xs) → H' b = some o) : LamX.TabS H' P q := by
  obtain ⟨ps, h1, h2, h3⟩ := t
  refine ⟨ps, e _ _ h1 (fun _ z => nomatch z), h2, fun pos cv hc => ?_⟩
  obtain ⟨c, e1, e2⟩ := h3 pos cv hc
  exact ⟨c, e1, e _ _ e2 (fun _ z => nomatch z)⟩
theorem tabs_nl {l : List (Addr × Str)} (t : LamX.Tabs l H) (e : ∀ b o, H b = some o → (∀ xs, o ≠ .lst xs) → H' b = some o) : LamX.Tabs l H' := fun p hp => tabS_nl (t p hp) e
theorem tabs_upd {l : List (Addr × Str)} {a : Addr} {o : HO} (t : LamX.Tabs l H) (h : H a = none ∨ ∃ ys, H a = some (.lst ys)) : LamX.Tabs l (upd H a o) := tabs_nl t fun b u hb n => by
  have hne : b ≠ a := fun z => by
    subst z
    rcases h with h | ⟨ys, h⟩
    · rw [h] at hb; cases hb
    · rw [h] at hb; cases hb; exact n ys rfl
  rw [upd_ne hne]
  exact hb
theorem Rf.trans (a : Rf H W H1 W1) (b : Rf H1 W1 H2 W2) : Rf H W H2 W2 :=
  ⟨fun x h => ⟨(b.fz x (a.fz x h).1).1, (b.fz x (a.fz x h).1).2.trans (a.fz x h).2⟩, fun x xs h => b.tp x xs (a.tp x xs h), fun x o u h => b.kn x o u (a.kn x o u h), fun i x h => b.et i x (a.et i x h), fun x o h => b.ex x o (a.ex x o h)⟩
theorem Fr.refl : Fr H W H W := ⟨Rf.refl, rfl, fun _ _ => rfl⟩
theorem Fr.trans (a : Fr H W H1 W1) (b : Fr H1 W1 H2 W2) : Fr H W H2 W2 :=
  ⟨a.toRf.trans b.toRf, b.gg.trans a.gg, fun x h => (b.gz x (by rw [a.gg]; exact h)).trans (a.gz x h)⟩
theorem sqT_rf (f : Rf H W H' W') {a : Addr} {vs : List V} (h : SqT K H a vs) : SqT K H' a vs := by
  rcases h with (h | ⟨o, h⟩) | h
  · exact .inl (.inl (f.tp _ _ h))
  · exact .inl (.inr ⟨o, f.kn _ _ _ h⟩)
  · exact .inr h
theorem lf_rf (f : Rf H W H' W') {a : Addr} {vs : List V} (h : LF H W a vs) : LF H' W' a vs := ⟨(f.fz a h.1).1, (f.fz a h.1).2.trans h.2⟩
theorem kf_rf (f : Rf H W H' W') {a : Addr} {vs : List V} (h : KF K H a vs) : KF K H' a vs := h.imp (fun ⟨o, z⟩ => ⟨o, f.kn _ _ _ z⟩) id
mutual
theorem Rp.rf (f : Rf H W H' W') : ∀ {t : T} {v : V}, Rp K H W t v → Rp K H' W' t v
  | _, _, .non => .non
  | _, _, .bl b => .bl b
  | _, _, .int i => .int i
  | _, _, .str x => .str x
  | _, _, .ty n => .ty n
  | _, _, .ref a => .ref a
  | _, _, .tup h l => .tup (sqT_rf f h) (RpL.rf f l)
  | _, _, .lst h l => .lst (lf_rf f h) (RpL.rf f l)
  | _, _, .kls h l => .kls (kf_rf f h) (RpL.rf f l)
  | _, _, .mr h => .mr (f.et _ _ h)
  | _, _, .dic h h1 h2 l => .dic (f.fz _ h).1 ((f.fz _ h).2.trans h1) h2 (RpL.rf f l)
  | _, _, .lam h1 h2 => .lam (f.ex _ _ h1) (f.ex _ _ h2)
theorem RpL.rf (f : Rf H W H' W') : ∀ {ts : List T} {vs : List V}, RpL K H W ts vs → RpL K H' W' ts vs
  | _, _, .nil => .nil
  | _, _, .cons h l => .cons (Rp.rf f h) (RpL.rf f l)
end
theorem sqT_fr (f : Fr H W H' W') {a : Addr} {vs : List V} (h : SqT K H a vs) : SqT K H' a vs := sqT_rf f.toRf h
theorem lf_fr (f : Fr H W H' W') {a : Addr} {vs : List V} (h : LF H W a vs) : LF H' W' a vs := lf_rf f.toRf h
theorem Rp.fr (f : Fr H W H' W') {t : T} {v : V} (h : Rp K H W t v) : Rp K H' W' t v := h.rf f.toRf
theorem RpL.fr (f : Fr H W H' W') {ts : List T} {vs : List V} (h : RpL K H W ts vs) : RpL K H' W' ts vs := h.rf f.toRf
theorem RpL.length : ∀ {ts : List T} {vs : List V}, RpL K H W ts vs → ts.length = vs.length
  | _, _, .nil => rfl
  | _, _, .cons _ l => congrArg Nat.succ (RpL.length l)
theorem RpL.get : ∀ {ts : List T} {vs : List V} {i : Nat} {t : T}, RpL K H W ts vs → ts[i]? = some t → ∃ v, vs[i]? = some v ∧ Rp K H W t v
  | _, _, _, _, .nil, h => by simp at h
  | _, _, 0, _, .cons r _, h => by simp at h; subst h; exact ⟨_, rfl, r⟩
  | _, _, i + 1, t, .cons _ l, h => by
    obtain ⟨v, h1, h2⟩ := RpL.get (i := i) (t := t) l (by simpa using h)
    exact ⟨v, by simpa using h1, h2⟩
theorem RpL.getV : ∀ {ts : List T} {vs : List V} {i : Nat} {v : V}, RpL K H W ts vs → vs[i]? = some v → ∃ t, ts[i]? = some t ∧ Rp K H W t v
  | _, _, _, _, .nil, h => by simp at h
  | _, _, 0, _, .cons r _, h => by simp at h; subst h; exact ⟨_, rfl, r⟩
  | _, _, i + 1, t, .cons _ l, h => by
    obtain ⟨v, h1, h2⟩ := RpL.getV (i := i) (v := t) l (by simpa using h)
    exact ⟨v, by simpa using h1, h2⟩
theorem RpL.append : ∀ {ts us : List T} {vs ws : List V}, RpL K H W ts vs → RpL K H W us ws → RpL K H W (ts ++ us) (vs ++ ws)
  | _, _, _, _, .nil, s => s
  | _, _, _, _, .cons r l, s => .cons r (RpL.append l s)
theorem RpL.take : ∀ {ts : List T} {vs : List V} (n : Nat), RpL K H W ts vs → RpL K H W (ts.take n) (vs.take n)
  | _, _, 0, _ => .nil
  | _, _, _ + 1, .nil => .nil
  | _, _, n + 1, .cons r l => .cons r (RpL.take n l)
theorem RpL.drop : ∀ {ts : List T} {vs : List V} (n : Nat), RpL K H W ts vs → RpL K H W (ts.drop n) (vs.drop n)
  | _, _, 0, r => r
  | _, _, _ + 1, .nil => .nil
  | _, _, n + 1, .cons _ l => RpL.drop n l
theorem RpL.set {t : T} {v : V} (r : Rp K H W t v) : ∀ {ts : List T} {vs : List V} (i : Nat), RpL K H W ts vs → RpL K H W (ts.set i t) (vs.set i v)
  | _, _, _, .nil => .nil
  | _, _, 0, .cons _ l => .cons r l
  | _, _, i + 1, .cons q l => .cons q (RpL.set r i l)
theorem RpL.reverse {ts : List T} {vs : List V} (r : RpL K H W ts vs) : RpL K H W ts.reverse vs.reverse := by
  induction ts generalizing vs with
  | nil => cases r; exact .nil
  | cons t ts ih =>
    cases r with
    | cons h l =>
      rw [List.reverse_cons, List.reverse_cons]
      exact (ih l).append (.cons h .nil)
theorem RpL.eraseIdx : ∀ {ts : List T} {vs : List V} (i : Nat), RpL K H W ts vs → RpL K H W (ts.eraseIdx i) (vs.eraseIdx i)
  | _, _, _, .nil => .nil
  | _, _, 0, .cons _ l => l
  | _, _, i + 1, .cons q l => .cons q (RpL.eraseIdx i l)
theorem RpL.flatRep {ts : List T} {vs : List V} (r : RpL K H W ts vs) : ∀ k : Nat, RpL K H W (List.replicate k ts).flatten (List.replicate k vs).flatten
  | 0 => .nil
  | k + 1 => by
    rw [List.replicate_succ, List.replicate_succ, List.flatten_cons, List.flatten_cons]
    exact r.append (RpL.flatRep r k)
theorem RpL.ints : ∀ {ns : List Int} {vs : List V}, RpL K H W (ns.map T.int) vs → vs = ns.map V.int
  | [], _, r => by cases r; rfl
  | n :: ns, _, r => by
    cases r with
    | cons h l =>
      cases h
      rw [RpL.ints l] <;> rfl
theorem RpL.bls : ∀ {ns : List Bool} {vs : List V}, RpL K H W (ns.map T.bl) vs → vs = ns.map V.bl
  | [], _, r => by cases r; rfl
  | n :: ns, _, r => by
    cases r with
    | cons h l =>
      cases h
      rw [RpL.bls l] <;> rfl
theorem RpL.of_ints : ∀ {ns : List Int}, RpL K H W (ns.map T.int) (ns.map V.int)
  | [] => .nil
  | _ :: _ => .cons (.int _) RpL.of_ints
theorem RpSt.fr {σ : L2.St} {ρ : Rho} (f : Fr H W H' W') (r : RpSt K H W σ ρ) : RpSt K H' W' σ ρ :=
  ⟨r.len, fun i t h => let ⟨v, h1, h2⟩ := r.at_ i t h; ⟨v, h1, h2.fr f⟩⟩
theorem RpSt.set {σ : L2.St} {ρ : Rho} {t : T} {v : V} (r : RpSt K H W σ ρ) (h : Rp K H W t v) (i : Nat) : RpSt K H W (σ.set i (some v)) (ρ.set i (some t)) := by
  refine ⟨by rw [List.length_set, List.length_set]; exact r.len, fun j u hj => ?_⟩
  by_cases hij : i = j
  · subst hij
    have hl : i < ρ.length := by
      have := (List.getElem?_eq_some_iff.mp hj).1
      rwa [List.length_set] at this
    rw [List.getElem?_set_self hl] at hj
    cases hj
    refine ⟨v, ?_, h⟩
    rw [List.getElem?_set_self (by rw [← r.len]; exact hl)]
  · rw [List.getElem?_set_ne hij] at hj ⊢
    exact r.at_ j u hj
theorem Ok.get {m : Mu} (o : Ok K H W m) {i : Nat} {x : MO} (h : m[i]? = some x) : ∃ a, W.e[i]? = some a ∧ RpO K H W a x := by
  have hl : i < W.e.length := by rw [o.len]; exact (List.getElem?_eq_some_iff.mp h).1
  exact ⟨W.e[i], List.getElem?_eq_getElem hl, o.ob i _ x (List.getElem?_eq_getElem hl) h⟩
theorem Ok.known {m : Mu} (o : Ok K H W m) {a : Addr} (h : a ∈ W.e) : H a ≠ none := by
  obtain ⟨i, hi⟩ := List.mem_iff_getElem?.mp h
  have hl : i < m.length := by rw [← o.len]; exact (List.getElem?_eq_some_iff.mp hi).1
  have q := o.ob i a _ hi (List.getElem?_eq_getElem hl)
  cases e1 : m[i] with
  | lst ts =>
    rw [e1] at q
    obtain ⟨vs, h1, _⟩ := q
    rw [h1]
    exact fun z => nomatch z
  | dead =>
    rw [e1] at q
    exact q.1
  | tab P q' =>
    rw [e1] at q
    obtain ⟨rfl, ps, h1, _⟩ := q
    rw [h1]
    exact fun z => nomatch z
theorem RpO.rf {a : Addr} {x : MO} (f : Rf H W H' W') (h : H' a = H a) (r : RpO K H W a x) : RpO K H' W' a x := by
  cases x with
  | lst ts =>
    obtain ⟨vs, h1, h2⟩ := r
    exact ⟨vs, h.trans h1, h2.rf f⟩
  | dead =>
    show NT (H' a)
    rw [h]
    exact r
  | tab P q =>
    obtain ⟨rfl, ps, h1, h2, h3⟩ := r
    refine ⟨rfl, ps, h.trans h1, h2, fun pos cv hc => ?_⟩
    obtain ⟨c, e1, e2⟩ := h3 pos cv hc
    exact ⟨c, e1, f.ex _ _ e2⟩
theorem RpO.fr {a : Addr} {x : MO} (f : Fr H W H' W') (h : H' a = H a) (r : RpO K H W a x) : RpO K H' W' a x := r.rf f.toRf h
/-! ### the heap's steps -/
theorem fr_new {p : Addr} {o : HO} (hp : H p = none) (hg : W'.G = W.G) (hG : ∀ a, W.G a → H a ≠ none) (hF : ∀ a, W.F a → H a ≠ none) (hFF : ∀ a, W.F a → W'.F a) (he : ∀ (i : Nat) (a : Addr), W.e[i]? = some a → W'.e[i]? = some a) : Fr H W (upd H p o) W' where
  gg := hg
  gz := fun a h => upd_ne fun z => hG a h (by rw [z]; exact hp)
  fz := fun a h => ⟨hFF a h, upd_ne fun z => hF a h (by rw [z]; exact hp)⟩
  tp := fun a xs h => by rw [upd_ne (ne_of_none h hp)]; exact h
  kn := fun a o u h => by rw [upd_ne (ne_of_none h hp)]; exact h
  et := he
  ex := fun a x h => by rw [upd_ne (ne_of_none h hp)]; exact h
/-- the world with one more object that nobody changes, one more in the store, one more at work -/
def Wd.frz (W : Wd) (p : Addr) : Wd := { W with F := fun a => W.F a ∨ a = p }
def Wd.psh (W : Wd) (p : Addr) : Wd := { W with e := W.e ++ [p] }
def Wd.grd (W : Wd) (p : Addr) : Wd := { W with G := fun a => W.G a ∨ a = p }
theorem Ok.frozen {m : Mu} {p : Addr} {o : HO} (k : Ok K H W m) (hp : H p = none) (hno : ∀ ps, o ≠ .tbl ps := by intro _ z; cases z) : Fr H W (upd H p o) (W.frz p) ∧ Ok K (upd H p o) (W.frz p) m := by
  have f : Fr H W (upd H p o) (W.frz p) := fr_new hp rfl (fun a h => (k.gk a h).1) (fun a h => (k.fk a h).1.1) (fun _ h => .inl h) fun _ _ h => h
  refine ⟨f, k.len, k.nd, fun a ha => ⟨fun h => ?_, (k.nf a ha).2⟩, fun a h => ?_, fun a h => ?_, fun i a x h1 h2 => ?_⟩
  · rcases h with h | h
    · exact (k.nf a ha).1 h
    · exact k.known ha (by rw [h]; exact hp)
  · rcases h with h | h
    · rw [(f.fz a h).2]; exact k.fk a h
    · refine ⟨?_, fun g => (k.gk a g).1 (by rw [h]; exact hp)⟩
      rw [h, upd_same]; exact NT.of hno
  · rw [f.gz a h]; exact k.gk a h
  · have hne : a ≠ p := fun z => k.known (List.mem_of_getElem? h1) (by rw [z]; exact hp)
    exact (k.ob i a x h1 h2).fr f (upd_ne hne)
/-- a new object for the store -/
theorem Ok.push {m : Mu} {p : Addr} {vs : List V} {ts : List T} (k : Ok K H W m) (hp : H p = none) (r : RpL K H W ts vs) :
    Fr H W (upd H p (.lst vs)) (W.psh p) ∧ Ok K (upd H p (.lst vs)) (W.psh p) (m ++ [.lst ts]) := by
  have f : Fr H W (upd H p (.lst vs)) (W.psh p) := fr_new hp rfl (fun a h => (k.gk a h).1) (fun a h => (k.fk a h).1.1) (fun _ h => h) fun i a h => by
    show (W.e ++ [p])[i]? = some a
    rw [List.getElem?_append_left (List.getElem?_eq_some_iff.mp h).1]; exact h
  have hnp : p ∉ W.e := fun z => k.known z hp
  refine ⟨f, by show (W.e ++ [p]).length = _; simp [k.len], ?_, fun a ha => ?_, fun a h => ?_, fun a h => ?_, fun i a x h1 h2 => ?_⟩
  · refine List.nodup_append.mpr ⟨k.nd, by simp, fun a ha b hb => ?_⟩
    rintro rfl
    have : a = p := by simpa using hb
    exact hnp (this ▸ ha)
  · rcases List.mem_append.mp ha with ha | ha
    · exact k.nf a ha
    · have : a = p := by simpa using ha
      subst this
      exact ⟨fun h => (k.fk a h).1.1 hp, fun h => (k.gk a h).1 hp⟩
  · rw [(f.fz a h).2]; exact k.fk a h
  · rw [f.gz a h]; exact k.gk a h
  · have h1 : (W.e ++ [p])[i]? = some a := h1
    by_cases hi : i < W.e.length
    · rw [List.getElem?_append_left hi] at h1
      rw [List.getElem?_append_left (by rw [← k.len]; exact hi)] at h2
      have hne : a ≠ p := fun z => hnp (z ▸ List.mem_of_getElem? h1)
      exact (k.ob i a x h1 h2).fr f (upd_ne hne)
    · rw [List.getElem?_append_right (by omega)] at h1
      rw [List.getElem?_append_right (by have := k.len; omega), ← k.len] at h2
      cases hz : i - W.e.length with
      | zero =>
        rw [hz] at h1 h2
        cases h1; cases h2
        exact ⟨vs, upd_same, r.fr f⟩
      | succ n =>
        rw [hz] at h1
        simp at h1
/-- an object of the store is written -/
theorem Ok.write {m : Mu} {i : Nat} {a : Addr} {o : HO} {x : MO} (k : Ok K H W m) (h : W.e[i]? = some a) (hm : ∃ ys, H a = some (.lst ys)) (r : RpO K (upd H a o) W a x) :
    Fr H W (upd H a o) W ∧ Ok K (upd H a o) W (m.set i x) := by
  obtain ⟨ys, hy⟩ := hm
  obtain ⟨hnf, hng⟩ := k.nf a (List.mem_of_getElem? h)
  have f : Fr H W (upd H a o) W := by
    refine ⟨⟨fun b hb => ⟨hb, upd_ne fun z => hnf (z ▸ hb)⟩, fun b xs hb => ?_, fun b o u hb => ?_, fun _ _ q => q, fun b x hb => by rw [upd_ne (ne_of hb hy fun z => nomatch z)]; exact hb⟩, rfl, fun b hb => upd_ne fun z => hng (z ▸ hb)⟩
    · rw [upd_ne (ne_of hb hy fun z => nomatch z)]; exact hb
    · rw [upd_ne (ne_of hb hy fun z => nomatch z)]; exact hb
  refine ⟨f, by rw [List.length_set]; exact k.len, k.nd, k.nf, fun b hb => ?_, fun b hb => ?_, fun j b y h1 h2 => ?_⟩
  · rw [(f.fz b hb).2]; exact k.fk b hb
  · rw [f.gz b hb]; exact k.gk b hb
  · by_cases hj : i = j
    · subst hj
      rw [h] at h1; cases h1
      have hl : i < m.length := by rw [← k.len]; exact (List.getElem?_eq_some_iff.mp h).1
      rw [List.getElem?_set_self hl] at h2
      cases h2
      exact r
    · rw [List.getElem?_set_ne hj] at h2
      have hne : b ≠ a := fun z => hj (by
        subst z
        obtain ⟨l1, g1⟩ := List.getElem?_eq_some_iff.mp h
        obtain ⟨l2, g2⟩ := List.getElem?_eq_some_iff.mp h1
        exact (List.getElem_inj k.nd).mp (g1.trans g2.symm))
      exact (k.ob j b y h1 h2).fr f (upd_ne hne)
/-- the same world, other guards -/
def Wd.un (W : Wd) (G0 : Addr → Prop) : Wd := { W with G := G0 }
theorem rf_un {G0 : Addr → Prop} : Rf H W H (W.un G0) := ⟨fun _ h => ⟨h, rfl⟩, fun _ _ h => h, fun _ _ _ h => h, fun _ _ h => h, fun _ _ h => h⟩
theorem rf_nu {G0 : Addr → Prop} : Rf H (W.un G0) H W := ⟨fun _ h => ⟨h, rfl⟩, fun _ _ h => h, fun _ _ _ h => h, fun _ _ h => h, fun _ _ h => h⟩
theorem Ok.un {m : Mu} {G0 : Addr → Prop} (k : Ok K H W m) (hG : ∀ a, G0 a → W.G a) : Ok K H (W.un G0) m :=
  ⟨k.len, k.nd, fun a ha => ⟨(k.nf a ha).1, fun g => (k.nf a ha).2 (hG a g)⟩, fun a h => ⟨(k.fk a h).1, fun g => (k.fk a h).2 (hG a g)⟩, fun a g => k.gk a (hG a g), fun i a x h1 h2 => (k.ob i a x h1 h2).rf rf_un rfl⟩
theorem Fr.un {G0 : Addr → Prop} (f : Fr H W H' W') (hG : ∀ a, G0 a → W.G a) : Fr H (W.un G0) H' (W'.un G0) :=
  ⟨rf_nu.trans (f.toRf.trans rf_un), rfl, fun a g => f.gz a (hG a g)⟩
/-- a new list is put under guard while one works on it -/
theorem Ok.guard {m : Mu} {p : Addr} {o : HO} (k : Ok K H W m) (hp : H p = none) (hno : ∀ ps, o ≠ .tbl ps := by intro _ z; cases z) : Fr H W (upd H p o) ((W.grd p).un W.G) ∧ Ok K (upd H p o) (W.grd p) m := by
  have f : Fr H W (upd H p o) ((W.grd p).un W.G) := fr_new hp rfl (fun a h => (k.gk a h).1) (fun a h => (k.fk a h).1.1) (fun _ h => h) fun _ _ h => h
  refine ⟨f, k.len, k.nd, fun a ha => ⟨(k.nf a ha).1, fun g => ?_⟩, fun a h => ⟨by rw [(f.fz a h).2]; exact (k.fk a h).1, fun g => ?_⟩, fun a g => ?_, fun i a x h1 h2 => ?_⟩
  · rcases g with g | g
    · exact (k.nf a ha).2 g
    · exact k.known ha (by rw [g]; exact hp)
  · rcases g with g | g
    · exact (k.fk a h).2 g
    · exact (k.fk a h).1.1 (by rw [g]; exact hp)
  · rcases g with g | g
    · rw [f.gz a g]; exact k.gk a g
    · rw [g, upd_same]; exact NT.of hno
  · have hne : a ≠ p := fun z => k.known (List.mem_of_getElem? h1) (by rw [z]; exact hp)
    exact (k.ob i a x h1 h2).rf (f.toRf.trans rf_nu) (upd_ne hne)
/-- the guarded list is written by who guards it -/
theorem Ok.gwrite {m : Mu} {p : Addr} {vs ws : List V} {G0 : Addr → Prop} (k : Ok K H W m) (hg : W.G p) (h0 : ¬ G0 p) (hG : ∀ a, G0 a → W.G a) (hp : H p = some (.lst vs)) : Fr H (W.un G0) (upd H p (.lst ws)) (W.un G0) ∧ Ok K (upd H p (.lst ws)) W m ∧ Rf H W (upd H p (.lst ws)) W := by
  have nF : ¬ W.F p := fun z => (k.fk p z).2 hg
  have f : Rf H W (upd H p (.lst ws)) W := by
    refine ⟨fun b hb => ⟨hb, upd_ne fun z => nF (z ▸ hb)⟩, fun b xs hb => ?_, fun b o u hb => ?_, fun _ _ q => q, fun b x hb => by rw [upd_ne (ne_of hb hp fun z => nomatch z)]; exact hb⟩
    · rw [upd_ne (ne_of hb hp fun z => nomatch z)]; exact hb
    · rw [upd_ne (ne_of hb hp fun z => nomatch z)]; exact hb
  refine ⟨⟨rf_nu.trans (f.trans rf_un), rfl, fun a g => upd_ne fun z => h0 (z ▸ g)⟩, ⟨k.len, k.nd, k.nf, fun a h => ⟨by rw [(f.fz a h).2]; exact (k.fk a h).1, (k.fk a h).2⟩, fun a g => ?_, fun i a x h1 h2 => ?_⟩, f⟩
  · by_cases z : a = p
    · subst z; rw [upd_same]; exact NT.lst
    · rw [upd_ne z]; exact k.gk a g
  · have hne : a ≠ p := fun z => (k.nf a (List.mem_of_getElem? h1)).2 (z ▸ hg)
    exact (k.ob i a x h1 h2).rf f (upd_ne hne)
/-- the guarded list is frozen, or goes to the store -/
theorem Ok.gfreeze {m : Mu} {p : Addr} {G0 : Addr → Prop} (k : Ok K H W m) (hg : W.G p) (h0 : ¬ G0 p) (hG : ∀ a, G0 a → W.G a) : Fr H (W.un G0) H ((W.un G0).frz p) ∧ Ok K H ((W.un G0).frz p) m := by
  have f : Fr H (W.un G0) H ((W.un G0).frz p) := ⟨⟨fun _ h => ⟨.inl h, rfl⟩, fun _ _ h => h, fun _ _ _ h => h, fun _ _ h => h, fun _ _ h => h⟩, rfl, fun _ _ => rfl⟩
  refine ⟨f, k.len, k.nd, fun a ha => ⟨fun h => ?_, fun g => (k.nf a ha).2 (hG a g)⟩, fun a h => ?_, fun a g => k.gk a (hG a g), fun i a x h1 h2 => (k.ob i a x h1 h2).rf (rf_un.trans f.toRf) rfl⟩
  · rcases h with h | h
    · exact (k.nf a ha).1 h
    · exact (k.nf a ha).2 (by rw [h]; exact hg)
  · rcases h with h | h
    · exact ⟨(k.fk a h).1, fun g => (k.fk a h).2 (hG a g)⟩
    · rw [h]
      exact ⟨k.gk p hg, h0⟩
theorem Ok.gpush {m : Mu} {p : Addr} {G0 : Addr → Prop} {vs : List V} {ts : List T} (k : Ok K H W m) (hg : W.G p) (h0 : ¬ G0 p) (hG : ∀ a, G0 a → W.G a) (hp : H p = some (.lst vs)) (r : RpL K H W ts vs) :
    Fr H (W.un G0) H ((W.un G0).psh p) ∧ Ok K H ((W.un G0).psh p) (m ++ [.lst ts]) := by
  have f : Fr H (W.un G0) H ((W.un G0).psh p) := ⟨⟨fun _ h => ⟨h, rfl⟩, fun _ _ h => h, fun _ _ _ h => h, fun i a h => by
    have h : W.e[i]? = some a := h
    show (W.e ++ [p])[i]? = some a
    rw [List.getElem?_append_left (List.getElem?_eq_some_iff.mp h).1]; exact h, fun _ _ h => h⟩, rfl, fun _ _ => rfl⟩
  have hnp : p ∉ W.e := fun z => (k.nf p z).2 hg
  refine ⟨f, by show (W.e ++ [p]).length = _; simp [k.len], ?_, fun a ha => ?_, fun a h => ⟨(k.fk a h).1, fun g => (k.fk a h).2 (hG a g)⟩, fun a g => k.gk a (hG a g), fun i a x h1 h2 => ?_⟩
  · refine List.nodup_append.mpr ⟨k.nd, by simp, fun a ha b hb => ?_⟩
    rintro rfl
    have : a = p := by simpa using hb
    exact hnp (this ▸ ha)
  · rcases List.mem_append.mp ha with ha | ha
    · exact ⟨(k.nf a ha).1, fun g => (k.nf a ha).2 (hG a g)⟩
    · have : a = p := by simpa using ha
      subst this
      exact ⟨fun h => (k.fk a h).2 hg, h0⟩
  · have h1 : (W.e ++ [p])[i]? = some a := h1
    by_cases hi : i < W.e.length
    · rw [List.getElem?_append_left hi] at h1
      rw [List.getElem?_append_left (by rw [← k.len]; exact hi)] at h2
      exact (k.ob i a x h1 h2).rf (rf_un.trans f.toRf) rfl
    · rw [List.getElem?_append_right (by omega)] at h1
      rw [List.getElem?_append_right (by have := k.len; omega), ← k.len] at h2
      cases hz : i - W.e.length with
      | zero =>
        rw [hz] at h1 h2
        cases h1; cases h2
        exact ⟨vs, hp, r.rf (rf_un.trans f.toRf)⟩
      | succ n =>
        rw [hz] at h1
        simp at h1
end

/-! ### what is wanted of an answer -/
/-- R: how the answer stands for the value -/
def Po {α β : Type} (K : PySem.W.Frag) (R : Hp → Wd → α → β → Prop) (H : Hp) (W : Wd) (Q : β → Hp → Prop) : Out α → Prop
  | .ok a m => ∀ H' W' v, Fr H W H' W' → Ok K H' W' m → R H' W' a v → Q v H'
  | .bad => False
section
variable {K : PySem.W.Frag} {H H' : Hp} {W W' : Wd} {α β γ δ : Type}
  {R : Hp → Wd → α → β → Prop} {R' : Hp → Wd → γ → δ → Prop}
theorem Po.fr {Q : β → Hp → Prop} {o : Out α} (f : Fr H W H' W') (h : Po K R H W Q o) : Po K R H' W' Q o := by
  cases o with
  | ok a m => exact fun H2 W2 v f2 k r => h H2 W2 v (f.trans f2) k r
  | bad => exact h
theorem Po.bind {Q : δ → Hp → Prop} {Q1 : β → Hp → Prop} {o : Out α} {k : α → Mu → Out γ} (h : Po K R' H W Q (o.bind k))
    (hk : ∀ a m1, o = .ok a m1 → ∀ H1 W1 v, Fr H W H1 W1 → Ok K H1 W1 m1 → R H1 W1 a v → Po K R' H1 W1 Q (k a m1) → Q1 v H1) : Po K R H W Q1 o := by
  cases o with
  | ok a m => exact fun H1 W1 v f ok r => hk a m rfl H1 W1 v f ok r (Po.fr f h)
  | bad => exact h.elim
theorem Po.go {Q : β → Hp → Prop} {a : α} {m : Mu} {v : β} (h : Po K R H W Q (.ok a m)) (f : Fr H W H' W') (k : Ok K H' W' m) (r : R H' W' a v) : Q v H' := h H' W' v f k r
end
abbrev PoE (K : PySem.W.Frag) := Po (α := T) (β := V) K (Rp K)
abbrev PoA (K : PySem.W.Frag) := Po (α := List T) (β := List V) K (RpL K)
abbrev PoT (K : PySem.W.Frag) := Po (α := Bool) (β := Bool) K (fun _ _ a b => b = a)

def tM (K : PySem.W.Frag) (m : ME) : TE := fun σ H Q => ∃ W ρ μ, Ok K H W μ ∧ RpSt K H W σ ρ ∧ PoE K H W Q (m ρ μ)
def tMA (K : PySem.W.Frag) (m : MA) : TA := fun σ H Q => ∃ W ρ μ, Ok K H W μ ∧ RpSt K H W σ ρ ∧ PoA K H W Q (m ρ μ)
def tMT (K : PySem.W.Frag) (m : MT) : TT := fun σ H Q => ∃ W ρ μ, Ok K H W μ ∧ RpSt K H W σ ρ ∧ PoT K H W Q (m ρ μ)

abbrev JE (X : Cx) (e : Expr) (m : ME) : Prop := PE X e (tM X.K m)
abbrev JT (X : Cx) (e : Expr) (m : MT) : Prop := PT X e (tMT X.K m)
abbrev JA (X : Cx) (es : List Expr) (m : MA) : Prop := PA X es (tMA X.K m)

theorem PE_imp {X : Cx} {e : Expr} {t t' : TE} (h : PE X e t) (hi : ∀ σ H Q, t' σ H Q → t σ H Q) : PE X e t' := ⟨fun pins s σ H Q I q => h.run pins s σ H Q I (hi σ H Q q)⟩
theorem PT_imp {X : Cx} {e : Expr} {t t' : TT} (h : PT X e t) (hi : ∀ σ H Q, t' σ H Q → t σ H Q) : PT X e t' := ⟨fun pins s σ H Q I q => h.run pins s σ H Q I (hi σ H Q q)⟩
theorem PA_imp {X : Cx} {e : List Expr} {t t' : TA} (h : PA X e t) (hi : ∀ σ H Q, t' σ H Q → t σ H Q) : PA X e t' := ⟨fun pos pins s σ H Q I q => h.run pos pins s σ H Q I (hi σ H Q q)⟩
theorem PS_imp {X : Cx} {e : Stmt} {t t' : TS} (h : PS X e t) (hi : ∀ D σ H, t' D σ H → t D σ H) : PS X e t' := ⟨fun pins s σ H D I q => h.run pins s σ H D I (hi D σ H q)⟩
theorem PSs_imp {X : Cx} {e : List Stmt} {t t' : TS} (h : PSs X e t) (hi : ∀ D σ H, t' D σ H → t D σ H) : PSs X e t' := ⟨fun pins s σ H D I q => h.run pins s σ H D I (hi D σ H q)⟩

/-! ### names, constants -/
def mVar (i : Nat) : ME := fun ρ μ => match ρ[i]? with
  | some (some t) => .ok t μ
  | _ => .bad
def mC (t : T) : ME := fun _ μ => .ok t μ
section
variable {X : Cx} {pos p : Pos}
theorem je_var (i : Nat) {x : Str} (h : PE X (.Name x pos) (tVar i)) : JE X (.Name x pos) (mVar i) := PE_imp h fun σ H Q ⟨W, ρ, μ, k, st, q⟩ => by
  unfold mVar at q
  cases h1 : ρ[i]? with
  | none => rw [h1] at q; exact q.elim
  | some o =>
    cases o with
    | none => rw [h1] at q; exact q.elim
    | some t =>
      rw [h1] at q
      obtain ⟨v, h2, r⟩ := st.at_ i t h1
      exact ⟨v, h2, Po.go (R := Rp X.K) q Fr.refl k r⟩
theorem je_c {e : Expr} {t : T} {v : V} (h : PE X e (tC v)) (r : ∀ H W, Rp X.K H W t v) : JE X e (mC t) := PE_imp h fun σ H Q ⟨W, ρ, μ, k, st, q⟩ => Po.go (R := Rp X.K) q Fr.refl k (r _ _)
theorem je_int {i : Int} {j : Nat} : JE X (.Constant (.int i) j pos) (mC (.int i)) := je_c pe_int fun _ _ => .int i
theorem je_bl {b : Bool} {j : Nat} : JE X (.Constant (.bool b) j pos) (mC (.bl b)) := je_c pe_bl fun _ _ => .bl b
theorem je_non {j : Nat} : JE X (.Constant .none j pos) (mC .non) := je_c pe_non fun _ _ => .non
theorem je_str {x : Str} {j : Nat} (cs : List Nat) (h : x = ⟨cs.toArray⟩ := by rfl) : JE X (.Constant (.str x) j pos) (mC (.str cs)) := by
  subst h
  exact je_c pe_str fun _ _ => .str cs
end

/-! ### argument lists -/
def mNil : MA := fun _ μ => .ok [] μ
def mCons (m : ME) (r : MA) : MA := fun ρ μ => (m ρ μ).bind fun t μ1 => (r ρ μ1).bind fun ts μ2 => .ok (t :: ts) μ2
section
variable {X : Cx} {pos : Pos}
theorem ja_nil : JA X [] mNil := PA_imp pa_nil fun σ H Q ⟨W, ρ, μ, k, st, q⟩ => Po.go (R := RpL X.K) q Fr.refl k .nil
theorem ja_cons {e : Expr} {es : List Expr} {m : ME} {r : MA} (ha : JE X e m) (hr : JA X es r) (hs : starEach (e :: es) X.env = (false, eval e X.env) :: starEach es X.env := by rfl) : JA X (e :: es) (mCons m r) :=
  PA_imp (pa_cons ha hr hs) fun σ H Q ⟨W, ρ, μ, k, st, q⟩ => ⟨W, ρ, μ, k, st, Po.bind (R := Rp X.K) q fun t μ1 _ H1 W1 v f1 k1 r1 q1 =>
    ⟨W1, ρ, μ1, k1, st.fr f1, Po.bind (R := RpL X.K) q1 fun ts μ2 _ H2 W2 vs f2 k2 r2 q2 => Po.go (R := RpL X.K) q2 Fr.refl k2 (.cons (r1.fr f2) r2)⟩⟩
end

/-! ### operations on values -/
abbrev G2 := T → T → Mu → Out T
abbrev G1 := T → Mu → Out T
abbrev GL := List T → Mu → Out T
def rM (K : PySem.W.Frag) (g : G2) : R2 := fun x y H Q => ∃ W μ tx ty, Ok K H W μ ∧ Rp K H W tx x ∧ Rp K H W ty y ∧ PoE K H W Q (g tx ty μ)
def rMU (K : PySem.W.Frag) (g : G1) : V → Hp → VK → Prop := fun x H Q => ∃ W μ tx, Ok K H W μ ∧ Rp K H W tx x ∧ PoE K H W Q (g tx μ)
def rML (K : PySem.W.Frag) (g : GL) : List V → Hp → VK → Prop := fun xs H Q => ∃ W μ ts, Ok K H W μ ∧ RpL K H W ts xs ∧ PoE K H W Q (g ts μ)
def mOp (g : G2) (ma mb : ME) : ME := fun ρ μ => (ma ρ μ).bind fun x μ1 => (mb ρ μ1).bind fun y μ2 => g x y μ2
def mUn (g : G1) (ma : ME) : ME := fun ρ μ => (ma ρ μ).bind fun x μ1 => g x μ1
def mCl (g : GL) (ma : MA) : ME := fun ρ μ => (ma ρ μ).bind fun x μ1 => g x μ1
section
variable {X : Cx} {pos p : Pos} {a b c : Expr} {ma mb mc : ME}
theorem tOp_M {g : G2} {r : R2} (hr : ∀ x y H Q, rM X.K g x y H Q → r x y H Q) : ∀ σ H Q, tM X.K (mOp g ma mb) σ H Q → tOp r (tM X.K ma) (tM X.K mb) σ H Q :=
  fun σ H Q ⟨W, ρ, μ, k, st, q⟩ => ⟨W, ρ, μ, k, st, Po.bind (R := Rp X.K) q fun x μ1 _ H1 W1 v f1 k1 r1 q1 =>
    ⟨W1, ρ, μ1, k1, st.fr f1, Po.bind (R := Rp X.K) q1 fun y μ2 _ H2 W2 u f2 k2 r2 q2 => hr _ _ _ _ ⟨W2, μ2, x, y, k2, r1.fr f2, r2, q2⟩⟩⟩
theorem je_op {op : Operator} {g : G2} (ho : OpR X (binaryOp op) (rM X.K g)) (ha : JE X a ma) (hb : JE X b mb) : JE X (.BinOp a op b pos) (mOp g ma mb) := PE_imp (pe_op ho ha hb) (tOp_M fun _ _ _ _ h => h)
theorem je_un {op : UnaryOp} {g : G1} (ho : UnR X (unaryOp op) (rMU X.K g)) (ha : JE X a ma) : JE X (.UnaryOp op a pos) (mUn g ma) :=
  PE_imp (pe_un ho ha) fun σ H Q ⟨W, ρ, μ, k, st, q⟩ => ⟨W, ρ, μ, k, st, Po.bind (R := Rp X.K) q fun x μ1 _ H1 W1 v f1 k1 r1 q1 => ⟨W1, μ1, x, k1, r1, q1⟩⟩
theorem je_cmp {op : CmpOp} {g : G2} (ho : OpR X (compareOp op) (rM X.K g)) (ha : JE X a ma) (hb : JE X b mb) (hm : behindInMarks op b = false) : JE X (.Compare a [op] [b] pos) (mOp g ma mb) := PE_imp (pe_cmpR ho ha hb hm) (tOp_M fun _ _ _ _ h => h)
def asBl (o : Out T) : Out Bool := o.bind fun t μ => match t with
  | .bl b => .ok b μ
  | _ => .bad
theorem Po.asBl {K : PySem.W.Frag} {H : Hp} {W : Wd} {Q : Bool → Hp → Prop} {o : Out T} (h : PoT K H W Q (asBl o)) : PoE K H W (fun x H' => ∃ k, x = .bl k ∧ Q k H') o :=
  Po.bind (R := Rp K) (R' := fun _ _ a b => b = a) h fun t μ _ H1 W1 v f k r q => by
    cases t with
    | bl b =>
      cases r
      exact ⟨b, rfl, Po.go (R := fun _ _ a b => b = a) q Fr.refl k rfl⟩
    | _ => exact q.elim
def mTst (m : ME) : MT := fun ρ μ => asBl (m ρ μ)
theorem jt_cmp {op : CmpOp} {g : G2} (ho : OpR X (compareOp op) (rM X.K g)) (ha : JE X a ma) (hb : JE X b mb) (hm : behindInMarks op b = false) : JT X (.Compare a [op] [b] pos) (mTst (mOp g ma mb)) :=
  PT_imp (pt_cmpR ho ha hb hm) fun σ H Q ⟨W, ρ, μ, k, st, q⟩ => tOp_M (fun _ _ _ _ h => h) σ H _ ⟨W, ρ, μ, k, st, Po.asBl q⟩
/-- a op b op' c -/
def mChain (g g' : G2) (ma mb mc : ME) : ME := fun ρ μ => (ma ρ μ).bind fun x μ1 => (mb ρ μ1).bind fun y μ2 => (g x y μ2).bind fun z μ3 => match z with
  | .bl true => (mc ρ μ3).bind fun w μ4 => g' y w μ4
  | .bl false => .ok (.bl false) μ3
  | _ => .bad
theorem tChain_M {g g' : G2} : ∀ σ H Q, tM X.K (mChain g g' ma mb mc) σ H Q → tChain (rM X.K g) (rM X.K g') (tM X.K ma) (tM X.K mb) (tM X.K mc) σ H Q :=
  fun σ H Q ⟨W, ρ, μ, k, st, q⟩ => ⟨W, ρ, μ, k, st, Po.bind (R := Rp X.K) q fun x μ1 _ H1 W1 v f1 k1 r1 q1 =>
    ⟨W1, ρ, μ1, k1, st.fr f1, Po.bind (R := Rp X.K) q1 fun y μ2 _ H2 W2 u f2 k2 r2 q2 =>
      ⟨W2, μ2, x, y, k2, r1.fr f2, r2, Po.bind (R := Rp X.K) q2 fun z μ3 _ H3 W3 w f3 k3 r3 q3 => by
        cases z with
        | bl b =>
          cases r3
          refine ⟨b, rfl, ?_⟩
          cases b with
          | true =>
            rw [if_pos rfl]
            exact ⟨W3, ρ, μ3, k3, ((st.fr f1).fr f2).fr f3, Po.bind (R := Rp X.K) q3 fun w' μ4 _ H4 W4 w2 f4 k4 r4 q4 => ⟨W4, μ4, y, w', k4, (r2.fr f3).fr f4, r4, q4⟩⟩
          | false =>
            rw [if_neg Bool.false_ne_true]
            exact Po.go (R := Rp X.K) q3 Fr.refl k3 (.bl false)
        | _ => exact q3.elim⟩⟩⟩
theorem je_chain {op op' : CmpOp} {g g' : G2} (ho : OpR X (compareOp op) (rM X.K g)) (ho' : OpR X (compareOp op') (rM X.K g')) (ha : JE X a ma) (hb : JE X b mb) (hc : JE X c mc)
    (hm : lastMarks [op, op'] [b, c] = false := by with_unfolding_all rfl) : JE X (.Compare a [op, op'] [b, c] pos) (mChain g g' ma mb mc) := PE_imp (pe_chain ho ho' ha hb hc hm) tChain_M
theorem jt_chain {op op' : CmpOp} {g g' : G2} (ho : OpR X (compareOp op) (rM X.K g)) (ho' : OpR X (compareOp op') (rM X.K g')) (ha : JE X a ma) (hb : JE X b mb) (hc : JE X c mc)
    (hm : lastMarks [op, op'] [b, c] = false := by with_unfolding_all rfl) : JT X (.Compare a [op, op'] [b, c] pos) (mTst (mChain g g' ma mb mc)) :=
  PT_imp (pt_chain ho ho' ha hb hc hm) fun σ H Q ⟨W, ρ, μ, k, st, q⟩ => tChain_M σ H _ ⟨W, ρ, μ, k, st, Po.asBl q⟩
end

/-! ### truth -/
def asSeq (μ : Mu) : T → Option (List T)
  | .tup ts => some ts
  | .lst ts => some ts
  | .kls ts => some ts
  | .mr i => match μ[i]? with
    | some (.lst ts) => some ts
    | _ => none
  | _ => none
def truT (μ : Mu) : T → Option Bool
  | .non => some false
  | .bl b => some b
  | .int i => some (i != 0)
  | .str x => if x.length ≤ 100000 then some (!x.isEmpty) else none
  | t => match asSeq μ t with
    | some ts => some (!ts.isEmpty)
    | none => none
/-- a tree that is walked as a list or a tuple -/
theorem asSeq_sq {K : PySem.W.Frag} {H : Hp} {W : Wd} {μ : Mu} {t : T} {ts : List T} {v : V} (k : Ok K H W μ) (r : Rp K H W t v) (h : asSeq μ t = some ts) :
    ∃ a vs, v = .ref a ∧ (SqL K H a vs ∨ SqT K H a vs) ∧ RpL K H W ts vs := by
  cases t with
  | tup us =>
    cases h
    cases r with
    | tup h1 h2 => exact ⟨_, _, rfl, .inr h1, h2⟩
  | lst us =>
    cases h
    cases r with
    | lst h1 h2 => exact ⟨_, _, rfl, .inl h1.sq, h2⟩
  | kls us =>
    cases h
    cases r with
    | kls h1 h2 => exact ⟨_, _, rfl, .inl h1.sq, h2⟩
  | mr i =>
    cases r with
    | @mr _ a h1 =>
      have h' : (match μ[i]? with
        | some (.lst ts) => some ts
        | _ => none) = some ts := h
      cases hm : μ[i]? with
      | none => rw [hm] at h'; cases h'
      | some o =>
        rw [hm] at h'
        cases o with
        | lst us =>
          cases h'
          obtain ⟨vs, q1, q2⟩ := k.ob i a _ h1 hm
          exact ⟨a, vs, rfl, .inl (.inl (.inl q1)), q2⟩
        | dead => cases h'
        | tab P q => cases h'
  | _ => cases h
theorem isEmpty_rp {K : PySem.W.Frag} {H : Hp} {W : Wd} {ts : List T} {vs : List V} (r : RpL K H W ts vs) : ts.isEmpty = vs.isEmpty := by
  cases r <;> rfl
theorem small_str {n : Nat} (h : n ≤ 100000) : n ≤ sizeLine := Nat.le_trans h (by decide)
theorem truT_ok {K : PySem.W.Frag} {H : Hp} {W : Wd} {μ : Mu} {t : T} {b : Bool} {v : V} (k : Ok K H W μ) (r : Rp K H W t v) (h : truT μ t = some b) : TruV K v H b := by
  have seq : ∀ (t : T), Rp K H W t v → (match asSeq μ t with
    | some ts => some (!ts.isEmpty)
    | none => none) = some b → TruV K v H b := fun t r h => by
    cases hs : asSeq μ t with
    | none => rw [hs] at h; cases h
    | some ts =>
      rw [hs] at h
      cases h
      obtain ⟨a, vs, rfl, q, l⟩ := asSeq_sq k r hs
      rw [isEmpty_rp l]
      rcases q with q | q
      · exact .inl ⟨vs, q, rfl⟩
      · exact .inr (.inl ⟨vs, q, rfl⟩)
  cases t with
  | non => cases r; cases h; rfl
  | bl c => cases r; cases h; rfl
  | int i => cases r; cases h; rfl
  | str x =>
    cases r
    have h' : (if x.length ≤ 100000 then some (!x.isEmpty) else none) = some b := h
    split at h'
    · rename_i hx
      cases h'
      refine ⟨by show x.toArray.size ≤ sizeLine; simp; exact small_str hx, ?_⟩
      show _ = (((x.toArray.size : Nat) : Int) != 0)
      cases x with
      | nil => rfl
      | cons y ys =>
        have : ((((y :: ys).toArray.size : Nat) : Int) != 0) = true := by simp; omega
        rw [this] <;> rfl
    · cases h'
  | ty n => cases h
  | ref a => cases h
  | tup ts => exact seq _ r h
  | lst ts => exact seq _ r h
  | kls ts => exact seq _ r h
  | mr i => exact seq _ r h
  | dic ks ts => exact seq _ r h
  | lam q ps b sc => exact seq _ r h
def tru (t : T) (μ : Mu) : Out Bool := match truT μ t with
  | some b => .ok b μ
  | none => .bad
def mTru (m : ME) : MT := fun ρ μ => (m ρ μ).bind tru
section
variable {X : Cx} {pos p : Pos} {a b c : Expr} {ma mb mc : ME} {rest : List Expr}
theorem Po.tru {K : PySem.W.Frag} {H : Hp} {W : Wd} {Q : Bool → Hp → Prop} {t : T} {v : V} {μ : Mu} (k : Ok K H W μ) (r : Rp K H W t v) (q : PoT K H W Q (tru t μ)) : ∃ b, truT μ t = some b ∧ TruV K v H b ∧ Q b H := by
  unfold Mr.tru at q
  cases h : truT μ t with
  | none => rw [h] at q; exact q.elim
  | some b =>
    rw [h] at q
    exact ⟨b, rfl, truT_ok k r h, Po.go (R := fun _ _ a b => b = a) q Fr.refl k rfl⟩
/-- any expression whose test is its value's truth -/
theorem jt_tru (ha : JE X a ma) (he : ∀ whole, isTrue a X.env whole = (do let v ← whole; standAt a.pos; holding [v] (truthy v)) := by intro _; rfl) : JT X a (mTru ma) :=
  PT_imp (pt_truth ha he) fun σ H Q ⟨W, ρ, μ, k, st, q⟩ => ⟨W, ρ, μ, k, st, Po.bind (R := Rp X.K) (R' := fun _ _ a b => b = a) q fun t μ1 _ H1 W1 v f1 k1 r1 q1 =>
    let ⟨b, _, h2, h3⟩ := Po.tru k1 r1 q1; ⟨b, h2, h3⟩⟩
def mNot (m : MT) : MT := fun ρ μ => (m ρ μ).bind fun b μ1 => .ok (!b) μ1
def mAnd (m n : MT) : MT := fun ρ μ => (m ρ μ).bind fun b μ1 => if b = true then n ρ μ1 else .ok false μ1
def mOr (m n : MT) : MT := fun ρ μ => (m ρ μ).bind fun b μ1 => if b = true then .ok true μ1 else n ρ μ1
theorem jt_not {m : MT} (ha : JT X a m) : JT X (.UnaryOp .Not a pos) (mNot m) :=
  PT_imp (pt_not ha) fun σ H Q ⟨W, ρ, μ, k, st, q⟩ => ⟨W, ρ, μ, k, st, Po.bind (R := fun _ _ a b => b = a) (R' := fun _ _ a b => b = a) q fun t μ1 _ H1 W1 v f1 k1 r1 q1 => by
    subst r1
    exact Po.go (R := fun _ _ a b => b = a) q1 Fr.refl k1 rfl⟩
theorem tAnd_M {m n : MT} : ∀ σ H Q, tMT X.K (mAnd m n) σ H Q → tAnd (tMT X.K m) (tMT X.K n) σ H Q := fun σ H Q ⟨W, ρ, μ, k, st, q⟩ =>
  ⟨W, ρ, μ, k, st, Po.bind (R := fun _ _ a b => b = a) (R' := fun _ _ a b => b = a) q fun t μ1 _ H1 W1 v f1 k1 r1 q1 => by
    subst r1
    cases v with
    | true =>
      rw [if_pos rfl] at q1 ⊢
      exact ⟨W1, ρ, μ1, k1, st.fr f1, q1⟩
    | false =>
      rw [if_neg Bool.false_ne_true] at q1 ⊢
      exact Po.go (R := fun _ _ a b => b = a) q1 Fr.refl k1 rfl⟩
theorem tOr_M {m n : MT} : ∀ σ H Q, tMT X.K (mOr m n) σ H Q → tOr (tMT X.K m) (tMT X.K n) σ H Q := fun σ H Q ⟨W, ρ, μ, k, st, q⟩ =>
  ⟨W, ρ, μ, k, st, Po.bind (R := fun _ _ a b => b = a) (R' := fun _ _ a b => b = a) q fun t μ1 _ H1 W1 v f1 k1 r1 q1 => by
    subst r1
    cases v with
    | true =>
      rw [if_pos rfl] at q1 ⊢
      exact Po.go (R := fun _ _ a b => b = a) q1 Fr.refl k1 rfl
    | false =>
      rw [if_neg Bool.false_ne_true] at q1 ⊢
      exact ⟨W1, ρ, μ1, k1, st.fr f1, q1⟩⟩
abbrev JW (X : Cx) (e : Expr) (m : MT) : Prop := PW X e (tMT X.K m)
theorem PW_imp {X : Cx} {e : Expr} {t t' : TT} (h : PW X e t) (hi : ∀ σ H Q, t' σ H Q → t σ H Q) : PW X e t' := ⟨fun whole pins s σ H Q I q => h.run whole pins s σ H Q I (hi σ H Q q)⟩
theorem jw_and1 {m : MT} (ha : JT X a m) : JW X (.BoolOp .And [a] pos) m := pw_and1 ha
theorem jw_or1 {m : MT} (ha : JT X a m) : JW X (.BoolOp .Or [a] pos) m := pw_or1 ha
theorem jw_and {m n : MT} (ha : JT X a m) (hb : JW X (.BoolOp .And (b :: rest) pos) n) : JW X (.BoolOp .And (a :: b :: rest) pos) (mAnd m n) := PW_imp (pw_and ha hb) tAnd_M
theorem jw_or {m n : MT} (ha : JT X a m) (hb : JW X (.BoolOp .Or (b :: rest) pos) n) : JW X (.BoolOp .Or (a :: b :: rest) pos) (mOr m n) := PW_imp (pw_or ha hb) tOr_M
theorem jt_w {m : MT} (h : JW X a m) : JT X a m := h.pt
/-! .. as values -/
def mAndV (m n : ME) : ME := fun ρ μ => (m ρ μ).bind fun x μ1 => match truT μ1 x with
  | some true => n ρ μ1
  | some false => .ok x μ1
  | none => .bad
def mOrV (m n : ME) : ME := fun ρ μ => (m ρ μ).bind fun x μ1 => match truT μ1 x with
  | some true => .ok x μ1
  | some false => n ρ μ1
  | none => .bad
def mNotV (m : ME) : ME := fun ρ μ => (m ρ μ).bind fun x μ1 => match truT μ1 x with
  | some b => .ok (.bl (!b)) μ1
  | none => .bad
theorem je_one {op : BoolOp} (h : JE X a ma) : JE X (.BoolOp op [a] pos) ma := pe_one h
theorem je_and (ha : JE X a ma) (hb : JE X (.BoolOp .And (b :: rest) pos) mb) : JE X (.BoolOp .And (a :: b :: rest) pos) (mAndV ma mb) :=
  PE_imp (pe_andT ha hb) fun σ H Q ⟨W, ρ, μ, k, st, q⟩ => ⟨W, ρ, μ, k, st, Po.bind (R := Rp X.K) q fun x μ1 _ H1 W1 v f1 k1 r1 q1 => by
    cases h : truT μ1 x with
    | none => rw [h] at q1; exact q1.elim
    | some b =>
      rw [h] at q1
      refine ⟨b, truT_ok k1 r1 h, ?_⟩
      cases b with
      | true =>
        rw [if_pos rfl]
        exact ⟨W1, ρ, μ1, k1, st.fr f1, q1⟩
      | false =>
        rw [if_neg Bool.false_ne_true]
        exact Po.go (R := Rp X.K) q1 Fr.refl k1 r1⟩
theorem je_or (ha : JE X a ma) (hb : JE X (.BoolOp .Or (b :: rest) pos) mb) : JE X (.BoolOp .Or (a :: b :: rest) pos) (mOrV ma mb) :=
  PE_imp (pe_orT ha hb) fun σ H Q ⟨W, ρ, μ, k, st, q⟩ => ⟨W, ρ, μ, k, st, Po.bind (R := Rp X.K) q fun x μ1 _ H1 W1 v f1 k1 r1 q1 => by
    cases h : truT μ1 x with
    | none => rw [h] at q1; exact q1.elim
    | some b =>
      rw [h] at q1
      refine ⟨b, truT_ok k1 r1 h, ?_⟩
      cases b with
      | true =>
        rw [if_pos rfl]
        exact Po.go (R := Rp X.K) q1 Fr.refl k1 r1
      | false =>
        rw [if_neg Bool.false_ne_true]
        exact ⟨W1, ρ, μ1, k1, st.fr f1, q1⟩⟩
theorem je_not (ha : JE X a ma) : JE X (.UnaryOp .Not a pos) (mNotV ma) :=
  PE_imp (pe_notT ha) fun σ H Q ⟨W, ρ, μ, k, st, q⟩ => ⟨W, ρ, μ, k, st, Po.bind (R := Rp X.K) q fun x μ1 _ H1 W1 v f1 k1 r1 q1 => by
    cases h : truT μ1 x with
    | none => rw [h] at q1; exact q1.elim
    | some b =>
      rw [h] at q1
      exact ⟨b, truT_ok k1 r1 h, Po.go (R := Rp X.K) q1 Fr.refl k1 (.bl _)⟩⟩
def mIf (m : MT) (a b : ME) : ME := fun ρ μ => (m ρ μ).bind fun c μ1 => if c = true then a ρ μ1 else b ρ μ1
theorem je_if {m : MT} (hc : JT X c m) (ha : JE X a ma) (hb : JE X b mb) : JE X (.IfExp c a b pos) (mIf m ma mb) :=
  PE_imp (pe_ifExp hc ha hb) fun σ H Q ⟨W, ρ, μ, k, st, q⟩ => ⟨W, ρ, μ, k, st, Po.bind (R := fun _ _ a b => b = a) (R' := Rp X.K) q fun t μ1 _ H1 W1 v f1 k1 r1 q1 => by
    subst r1
    cases v with
    | true =>
      rw [if_pos rfl] at q1 ⊢
      exact ⟨W1, ρ, μ1, k1, st.fr f1, q1⟩
    | false =>
      rw [if_neg Bool.false_ne_true] at q1 ⊢
      exact ⟨W1, ρ, μ1, k1, st.fr f1, q1⟩⟩
end

/-! ### displays -/
def few (ts : List T) : Bool := Nat.ble ts.length 1000000
theorem few_le {ts : List T} (h : few ts = true) : ts.length ≤ sizeLine := by
  have h1 : ts.length ≤ 1000000 := Nat.le_of_ble_eq_true h
  rw [sizeLine_eq]
  omega
def gTup : GL := fun ts μ => if few ts = true then .ok (.tup ts) μ else .bad
def gLst : GL := fun ts μ => if few ts = true then .ok (.lst ts) μ else .bad
def gLstM : GL := fun ts μ => if few ts = true then .ok (.mr μ.length) (μ ++ [.lst ts]) else .bad
section
variable {X : Cx} {pos : Pos} {es : List Expr} {m : MA}
theorem Po.tup {K : PySem.W.Frag} {H : Hp} {W : Wd} {Q : VK} {ts : List T} {vs : List V} {μ : Mu} (k : Ok K H W μ) (r : RpL K H W ts vs) (q : PoE K H W Q (.ok (.tup ts) μ)) : ∀ p, H p = none → Q (.ref p) (upd H p (.tup vs)) := fun p hp => by
  obtain ⟨f, k'⟩ := k.frozen (o := .tup vs) hp
  exact Po.go (R := Rp K) q f k' (.tup (.inl (.inl upd_same)) (r.fr f))
theorem Po.lst {K : PySem.W.Frag} {H : Hp} {W : Wd} {Q : VK} {ts : List T} {vs : List V} {μ : Mu} (k : Ok K H W μ) (r : RpL K H W ts vs) (q : PoE K H W Q (.ok (.lst ts) μ)) : ∀ p, H p = none → Q (.ref p) (upd H p (.lst vs)) := fun p hp => by
  obtain ⟨f, k'⟩ := k.frozen (o := .lst vs) hp
  exact Po.go (R := Rp K) q f k' (.lst ⟨.inr rfl, upd_same⟩ (r.fr f))
theorem Po.lstM {K : PySem.W.Frag} {H : Hp} {W : Wd} {Q : VK} {ts : List T} {vs : List V} {μ : Mu} (k : Ok K H W μ) (r : RpL K H W ts vs) (q : PoE K H W Q (.ok (.mr μ.length) (μ ++ [.lst ts]))) : ∀ p, H p = none → Q (.ref p) (upd H p (.lst vs)) := fun p hp => by
  obtain ⟨f, k'⟩ := k.push hp r
  refine Po.go (R := Rp K) q f k' (.mr ?_)
  show (W.e ++ [p])[μ.length]? = some p
  rw [← k.len, List.getElem?_append_right (Nat.le_refl _), Nat.sub_self] <;> rfl
theorem je_tup {x1 : Nat} (h : JA X es m) : JE X (.Tuple es x1 pos) (mCl gTup m) := PE_imp (pe_tup h) fun σ H Q ⟨W, ρ, μ, k, st, q⟩ =>
  ⟨W, ρ, μ, k, st, Po.bind (R := RpL X.K) (R' := Rp X.K) q fun ts μ1 _ H1 W1 vs f1 k1 r1 q1 => by
    unfold gTup at q1
    split at q1
    · rename_i hf
      exact ⟨by rw [← r1.length]; exact few_le hf, Po.tup k1 r1 q1⟩
    · exact q1.elim⟩
theorem je_lst (h : JA X es m) : JE X (.List es pos) (mCl gLst m) := PE_imp (pe_lst h) fun σ H Q ⟨W, ρ, μ, k, st, q⟩ =>
  ⟨W, ρ, μ, k, st, Po.bind (R := RpL X.K) (R' := Rp X.K) q fun ts μ1 _ H1 W1 vs f1 k1 r1 q1 => by
    unfold gLst at q1
    split at q1
    · rename_i hf
      exact ⟨by rw [← r1.length]; exact few_le hf, Po.lst k1 r1 q1⟩
    · exact q1.elim⟩
theorem je_lstM (h : JA X es m) : JE X (.List es pos) (mCl gLstM m) := PE_imp (pe_lst h) fun σ H Q ⟨W, ρ, μ, k, st, q⟩ =>
  ⟨W, ρ, μ, k, st, Po.bind (R := RpL X.K) (R' := Rp X.K) q fun ts μ1 _ H1 W1 vs f1 k1 r1 q1 => by
    unfold gLstM at q1
    split at q1
    · rename_i hf
      exact ⟨by rw [← r1.length]; exact few_le hf, Po.lstM k1 r1 q1⟩
    · exact q1.elim⟩
end
end Mr

namespace Mr
open PySem PySem.Spec PyProof.Rows L2

/-! ### targets -/
def wipeR (ρ : Rho) : List Nat → Rho
  | [] => ρ
  | v :: vs => (wipeR ρ vs).set v none
def PoG (K : PySem.W.Frag) (vs : List Nat) (σ : L2.St) (H : Hp) (W : Wd) (Q : L2.St → Hp → Prop) : Out Rho → Prop
  | .ok ρ' μ' => ∀ H' W' σ', Fr H W H' W' → Ok K H' W' μ' → RpSt K H' W' σ' ρ' → wipe σ' vs = wipe σ vs → Q σ' H'
  | .bad => False
def tMG (K : PySem.W.Frag) (vs : List Nat) (g : MG) : TG := fun v σ H Q => ∃ W ρ μ t, Ok K H W μ ∧ RpSt K H W σ ρ ∧ Rp K H W t v ∧ PoG K vs σ H W Q (g t ρ μ)
abbrev JG (X : Cx) (vs : List Nat) (tg : Expr) (g : MG) : Prop := PG X tg (tMG X.K vs g)
abbrev MGs := List T → Rho → Mu → Out Rho
def tMGs (K : PySem.W.Frag) (vs : List Nat) (g : MGs) : TGs := fun xs σ H Q => ∃ W ρ μ ts, Ok K H W μ ∧ RpSt K H W σ ρ ∧ RpL K H W ts xs ∧ PoG K vs σ H W Q (g ts ρ μ)
abbrev JGs (X : Cx) (vs : List Nat) (tg : List Expr) (g : MGs) : Prop := PGs X tg (tMGs X.K vs g)
theorem PG_imp {X : Cx} {e : Expr} {t t' : TG} (h : PG X e t) (hi : ∀ v σ H Q, t' v σ H Q → t v σ H Q) : PG X e t' := ⟨fun pins s σ H v u Q I r q => h.run pins s σ H v u Q I r (hi v σ H Q q)⟩
theorem PGs_imp {X : Cx} {e : List Expr} {t t' : TGs} (h : PGs X e t) (hi : ∀ v σ H Q, t' v σ H Q → t v σ H Q) : PGs X e t' := ⟨fun pins s σ H v u Q I r q => h.run pins s σ H v u Q I r (hi v σ H Q q)⟩
theorem PoG.fr {K : PySem.W.Frag} {vs : List Nat} {σ : L2.St} {H H' : Hp} {W W' : Wd} {Q : L2.St → Hp → Prop} {o : Out Rho} (f : Fr H W H' W') (h : PoG K vs σ H W Q o) : PoG K vs σ H' W' Q o := by
  cases o with
  | ok a m => exact fun H2 W2 v f2 k r => h H2 W2 v (f.trans f2) k r
  | bad => exact h
theorem PoG.wp {K : PySem.W.Frag} {vs : List Nat} {σ σ' : L2.St} {H : Hp} {W : Wd} {Q : L2.St → Hp → Prop} {o : Out Rho} (w : wipe σ' vs = wipe σ vs) (h : PoG K vs σ H W Q o) : PoG K vs σ' H W Q o := by
  cases o with
  | ok a m => exact fun H2 W2 v f2 k r q => h H2 W2 v f2 k r (q.trans w)
  | bad => exact h
theorem wipe_set {i : Nat} {x : Option V} : ∀ {vs : List Nat} {σ : L2.St}, i ∈ vs → wipe (σ.set i x) vs = wipe σ vs
  | [], _, h => by cases h
  | v :: vs, σ, h => by
    show (wipe (σ.set i x) vs).set v none = (wipe σ vs).set v none
    by_cases hi : i ∈ vs
    · rw [wipe_set hi]
    · have e : i = v := by
        rcases List.mem_cons.mp h with e | e
        · exact e
        · exact absurd e hi
      subst e
      have comm : ∀ (vs : List Nat) (τ : L2.St), i ∉ vs → wipe (τ.set i x) vs = (wipe τ vs).set i x := by
        intro vs
        induction vs with
        | nil => intro τ _; rfl
        | cons w ws ih =>
          intro τ hw
          have h1 : i ≠ w := fun z => hw (by rw [z]; exact List.mem_cons_self)
          have h2 : i ∉ ws := fun z => hw (List.mem_cons_of_mem _ z)
          show (wipe (τ.set i x) ws).set w none = ((wipe τ ws).set w none).set i x
          rw [ih τ h2, List.set_comm _ _ h1]
      rw [comm vs σ hi, List.set_set]
theorem RpSt.wipe {K : PySem.W.Frag} {H : Hp} {W : Wd} {σ : L2.St} {ρ : Rho} (r : RpSt K H W σ ρ) : ∀ vs : List Nat, RpSt K H W (L2.wipe σ vs) (wipeR ρ vs)
  | [] => r
  | v :: vs => by
    have ih := RpSt.wipe r vs
    refine ⟨by show ((wipeR ρ vs).set v none).length = ((L2.wipe σ vs).set v none).length; rw [List.length_set, List.length_set]; exact ih.len, fun i t h => ?_⟩
    have h' : ((wipeR ρ vs).set v none)[i]? = some (some t) := h
    show ∃ u, ((L2.wipe σ vs).set v none)[i]? = some (some u) ∧ _
    by_cases hv : v = i
    · subst hv
      by_cases hl : v < (wipeR ρ vs).length
      · rw [List.getElem?_set_self hl] at h'; cases h'
      · rw [List.getElem?_eq_none (by rw [List.length_set]; omega)] at h'; cases h'
    · rw [List.getElem?_set_ne hv] at h' ⊢
      exact ih.at_ i t h'
def gNm (i : Nat) : MG := fun t ρ μ => .ok (ρ.set i (some t)) μ
def gsNil : MGs := fun ts ρ μ => match ts with
  | [] => .ok ρ μ
  | _ => .bad
def gsCons (g : MG) (gs : MGs) : MGs := fun ts ρ μ => match ts with
  | t :: ts => (g t ρ μ).bind fun ρ1 μ1 => gs ts ρ1 μ1
  | [] => .bad
def gTp (n : Nat) (gs : MGs) : MG := fun t ρ μ => match t with
  | .tup ts => if ts.length = n then gs ts ρ μ else .bad
  | _ => .bad
section
variable {X : Cx} {pos : Pos} {vs : List Nat}
theorem jg_name (i : Nat) {x : Str} (h : PG X (.Name x pos) (gName i)) (hv : i ∈ vs) : JG X vs (.Name x pos) (gNm i) := PG_imp h fun v σ H Q ⟨W, ρ, μ, t, k, st, r, q⟩ =>
  q H W _ Fr.refl k (st.set r i) (wipe_set hv)
theorem jgs_nil : JGs X vs [] gsNil := PGs_imp pgs_nil fun v σ H Q ⟨W, ρ, μ, ts, k, st, r, q⟩ => by
  cases r with
  | nil => exact ⟨rfl, q H W _ Fr.refl k st rfl⟩
  | cons _ _ => exact q.elim
theorem PoG.bind {K : PySem.W.Frag} {σ : L2.St} {H : Hp} {W : Wd} {Q Q1 : L2.St → Hp → Prop} {o : Out Rho} {k : Rho → Mu → Out Rho} (h : PoG K vs σ H W Q (o.bind k))
    (hk : ∀ ρ1 μ1 H1 W1 σ1, Fr H W H1 W1 → Ok K H1 W1 μ1 → RpSt K H1 W1 σ1 ρ1 → PoG K vs σ1 H1 W1 Q (k ρ1 μ1) → Q1 σ1 H1) : PoG K vs σ H W Q1 o := by
  cases o with
  | ok a m => exact fun H1 W1 v f ok r w => hk a m H1 W1 v f ok r (PoG.wp w (PoG.fr f h))
  | bad => exact h.elim
theorem jgs_cons {e : Expr} {es : List Expr} {g : MG} {gs : MGs} (h1 : JG X vs e g) (h2 : JGs X vs es gs)
    (hs : (assignEach (e :: es) X.env).map (·.2) = assign e X.env :: (assignEach es X.env).map (·.2) := by rfl) : JGs X vs (e :: es) (gsCons g gs) := PGs_imp (pgs_cons h1 h2 hs) fun v σ H Q ⟨W, ρ, μ, ts, k, st, r, q⟩ => by
  cases r with
  | nil => exact q.elim
  | cons r rl => exact ⟨_, _, rfl, W, ρ, μ, _, k, st, r, PoG.bind q fun ρ1 μ1 H1 W1 σ1 f1 k1 st1 q1 => ⟨W1, ρ1, μ1, _, k1, st1, rl.fr f1, q1⟩⟩
theorem jg_tup {es : List Expr} {kk : Nat} {gs : MGs} {n : Nat} (hc : X.calm = true) (h : JGs X vs es gs)
    (hn : (assignEach es X.env).length = n := by rfl) (hst : (assignEach es X.env).findIdx? (·.1) = none := by rfl) : JG X vs (.Tuple es kk pos) (gTp n gs) :=
  PG_imp (pg_tup hc h hn hst) fun v σ H Q ⟨W, ρ, μ, t, k, st, r, q⟩ => by
    cases t with
    | tup ts =>
      have q' : PoG X.K vs σ H W Q (if ts.length = n then gs ts ρ μ else .bad) := q
      split at q'
      · rename_i hl
        cases r with
        | tup h1 h2 => exact ⟨_, _, rfl, h1, by rw [← h2.length]; exact hl, W, ρ, μ, ts, k, st, h2, q'⟩
      · exact q'.elim
    | _ => exact q.elim
end

/-! ### statements -/
def PoS (K : PySem.W.Frag) (H : Hp) (W : Wd) (D : Ends) : Out Flo → Prop
  | .ok (.nx ρ') μ' => ∀ H' W' σ', Fr H W H' W' → Ok K H' W' μ' → RpSt K H' W' σ' ρ' → D.nx σ' H'
  | .ok (.rt t) μ' => ∀ H' W' v, Fr H W H' W' → Ok K H' W' μ' → Rp K H' W' t v → D.rt v H'
  | .ok (.bk ρ') μ' => ∀ H' W' σ', Fr H W H' W' → Ok K H' W' μ' → RpSt K H' W' σ' ρ' → D.bk σ' H'
  | .ok (.ct ρ') μ' => ∀ H' W' σ', Fr H W H' W' → Ok K H' W' μ' → RpSt K H' W' σ' ρ' → D.ct σ' H'
  | .bad => False
def tMS (K : PySem.W.Frag) (m : MS) : TS := fun D σ H => ∃ W ρ μ, Ok K H W μ ∧ RpSt K H W σ ρ ∧ PoS K H W D (m ρ μ)
abbrev JS (X : Cx) (st : Stmt) (m : MS) : Prop := PS X st (tMS X.K m)
abbrev JSs (X : Cx) (st : List Stmt) (m : MS) : Prop := PSs X st (tMS X.K m)
theorem PoS.fr {K : PySem.W.Frag} {H H' : Hp} {W W' : Wd} {D : Ends} {o : Out Flo} (f : Fr H W H' W') (h : PoS K H W D o) : PoS K H' W' D o := by
  cases o with
  | ok a m =>
    cases a with
    | nx ρ => exact fun H2 W2 v f2 k r => h H2 W2 v (f.trans f2) k r
    | rt ρ => exact fun H2 W2 v f2 k r => h H2 W2 v (f.trans f2) k r
    | bk ρ => exact fun H2 W2 v f2 k r => h H2 W2 v (f.trans f2) k r
    | ct ρ => exact fun H2 W2 v f2 k r => h H2 W2 v (f.trans f2) k r
  | bad => exact h
/-- an expression, then a statement's end -/
theorem PoS.bind {K : PySem.W.Frag} {α β : Type} {R : Hp → Wd → α → β → Prop} {H : Hp} {W : Wd} {D : Ends} {Q1 : β → Hp → Prop} {o : Out α} {k : α → Mu → Out Flo} (h : PoS K H W D (o.bind k))
    (hk : ∀ a m1 H1 W1 v, Fr H W H1 W1 → Ok K H1 W1 m1 → R H1 W1 a v → PoS K H1 W1 D (k a m1) → Q1 v H1) : Po K R H W Q1 o := by
  cases o with
  | ok a m => exact fun H1 W1 v f ok r => hk a m H1 W1 v f ok r (PoS.fr f h)
  | bad => exact h.elim
def mNext : MS := fun ρ μ => .ok (.nx ρ) μ
def mBrk : MS := fun ρ μ => .ok (.bk ρ) μ
def mCont : MS := fun ρ μ => .ok (.ct ρ) μ
def mBad : MS := fun _ _ => .bad
def seqO (o : Out Flo) (n : MS) : Out Flo := match o with
  | .ok (.nx ρ) μ => n ρ μ
  | o => o
def mSeq (m n : MS) : MS := fun ρ μ => seqO (m ρ μ) n
def mRet (m : ME) : MS := fun ρ μ => (m ρ μ).bind fun t μ1 => .ok (.rt t) μ1
def mRetN : MS := fun _ μ => .ok (.rt .non) μ
def mDrop (m : ME) : MS := fun ρ μ => (m ρ μ).bind fun _ μ1 => .ok (.nx ρ) μ1
def mIfS (c : MT) (a b : MS) : MS := fun ρ μ => (c ρ μ).bind fun z μ1 => if z = true then a ρ μ1 else b ρ μ1
def mAsg (m : ME) (g : MG) : MS := fun ρ μ => (m ρ μ).bind fun t μ1 => (g t ρ μ1).bind fun ρ2 μ2 => .ok (.nx ρ2) μ2
def mSet (i : Nat) (m : ME) : MS := fun ρ μ => (m ρ μ).bind fun t μ1 => .ok (.nx (ρ.set i (some t))) μ1
def mPar2 (i j : Nat) (m : MA) : MS := fun ρ μ => (m ρ μ).bind fun ts μ1 => match ts with
  | [a, b] => .ok (.nx ((ρ.set i (some a)).set j (some b))) μ1
  | _ => .bad
def mPar3 (i j l : Nat) (m : MA) : MS := fun ρ μ => (m ρ μ).bind fun ts μ1 => match ts with
  | [a, b, c] => .ok (.nx (((ρ.set i (some a)).set j (some b)).set l (some c))) μ1
  | _ => .bad
def mAug (i : Nat) (g : G2) (m : ME) : MS := fun ρ μ => match ρ[i]? with
  | some (some x) => (m ρ μ).bind fun y μ1 => (g x y μ1).bind fun z μ2 => .ok (.nx (ρ.set i (some z))) μ2
  | _ => .bad
section
variable {X : Cx} {pos : Pos} {st : Stmt} {rest : List Stmt} {a b c : Expr} {m n : MS} {ma mb : ME}
theorem js_bad : JS X st mBad := PS_imp ps_never fun D σ H ⟨W, ρ, μ, k, st, q⟩ => q.elim
theorem jss_bad {sts : List Stmt} : JSs X sts mBad := PSs_imp pss_never fun D σ H ⟨W, ρ, μ, k, st, q⟩ => q.elim
theorem js_pass : JS X (.Pass pos) mNext := PS_imp ps_pass fun D σ H ⟨W, ρ, μ, k, st, q⟩ => q H W σ Fr.refl k st
theorem js_break : JS X (.Break pos) mBrk := PS_imp ps_break fun D σ H ⟨W, ρ, μ, k, st, q⟩ => q H W σ Fr.refl k st
theorem js_continue : JS X (.Continue pos) mCont := PS_imp ps_continue fun D σ H ⟨W, ρ, μ, k, st, q⟩ => q H W σ Fr.refl k st
theorem jss_nil : JSs X [] mNext := PSs_imp pss_nil fun D σ H ⟨W, ρ, μ, k, st, q⟩ => q H W σ Fr.refl k st
theorem PoS.seq {K : PySem.W.Frag} {H : Hp} {W : Wd} {D : Ends} {o : Out Flo} (q : PoS K H W D (seqO o n)) : PoS K H W { D with nx := tMS K n D } o := by
  cases o with
  | ok a m =>
    cases a with
    | nx ρ => exact fun H2 W2 σ2 f2 k r => ⟨W2, ρ, m, k, r, PoS.fr f2 q⟩
    | rt ρ => exact q
    | bk ρ => exact q
    | ct ρ => exact q
  | bad => exact q
theorem jss_cons (h1 : JS X st m) (h2 : JSs X rest n) : JSs X (st :: rest) (mSeq m n) := PSs_imp (pss_cons h1 h2) fun D σ H ⟨W, ρ, μ, k, st, q⟩ => ⟨W, ρ, μ, k, st, PoS.seq q⟩
theorem jss_one (h1 : JS X st m) : JSs X [st] m := pss_one h1
theorem js_ret (h : JE X a ma) : JS X (.Return (some a) pos) (mRet ma) := PS_imp (ps_ret h) fun D σ H ⟨W, ρ, μ, k, st, q⟩ =>
  ⟨W, ρ, μ, k, st, PoS.bind (R := Rp X.K) q fun t μ1 H1 W1 v f1 k1 r1 q1 => q1 H1 W1 v Fr.refl k1 r1⟩
theorem js_retN : JS X (.Return none pos) mRetN := PS_imp ps_retN fun D σ H ⟨W, ρ, μ, k, st, q⟩ => q H W .non Fr.refl k .non
theorem js_expr (h : JE X a ma) (hs : swapsWith a none pos.line X.env = pure false := by rfl) : JS X (.Expr a pos) (mDrop ma) := PS_imp (ps_expr h hs) fun D σ H ⟨W, ρ, μ, k, st, q⟩ =>
  ⟨W, ρ, μ, k, st, PoS.bind (R := Rp X.K) q fun t μ1 H1 W1 v f1 k1 r1 q1 => q1 H1 W1 σ Fr.refl k1 (st.fr f1)⟩
theorem js_if {c : Expr} {mc : MT} {as bs : List Stmt} (hc : JT X c mc) (ha : JSs X as m) (hb : JSs X bs n) : JS X (.If c as bs pos) (mIfS mc m n) := PS_imp (ps_if hc ha hb) fun D σ H ⟨W, ρ, μ, k, st, q⟩ =>
  ⟨W, ρ, μ, k, st, PoS.bind (R := fun _ _ a b => b = a) q fun t μ1 H1 W1 v f1 k1 r1 q1 => by
    subst r1
    cases v with
    | true =>
      rw [if_pos rfl] at q1 ⊢
      exact ⟨W1, ρ, μ1, k1, st.fr f1, q1⟩
    | false =>
      rw [if_neg Bool.false_ne_true] at q1 ⊢
      exact ⟨W1, ρ, μ1, k1, st.fr f1, q1⟩⟩
theorem PoG.toS {K : PySem.W.Frag} {vs : List Nat} {σ : L2.St} {H : Hp} {W : Wd} {D : Ends} {o : Out Rho} (q : PoS K H W D (o.bind fun ρ2 μ2 => .ok (.nx ρ2) μ2)) : PoG K vs σ H W D.nx o := by
  cases o with
  | ok a m => exact fun H1 W1 v f k r _ => q H1 W1 v f k r
  | bad => exact q.elim
theorem js_asg {vs : List Nat} {tg : Expr} {g : MG} (ha : JE X a ma) (hg : JG X vs tg g) (hs : swapsWithSole [tg] a pos.line X.env = pure false := by rfl) (hw : swappedStores [tg] a X.env = pure none := by rfl)
    (h1 : (assignEach [tg] X.env).map (·.2) = [assign tg X.env] := by rfl) : JS X (.Assign [tg] a pos) (mAsg ma g) := PS_imp (ps_asg ha hg hs hw h1) fun D σ H ⟨W, ρ, μ, k, st, q⟩ =>
  ⟨W, ρ, μ, k, st, PoS.bind (R := Rp X.K) q fun t μ1 H1 W1 v f1 k1 r1 q1 => ⟨W1, ρ, μ1, t, k1, st.fr f1, r1, PoG.toS q1⟩⟩
theorem tSet_M {i : Nat} : ∀ D σ H, tMS X.K (mSet i ma) D σ H → tAsg (tM X.K ma) (gName i) D σ H := fun D σ H ⟨W, ρ, μ, k, st, q⟩ =>
  ⟨W, ρ, μ, k, st, PoS.bind (R := Rp X.K) q fun t μ1 H1 W1 v f1 k1 r1 q1 => q1 H1 W1 _ Fr.refl k1 ((st.fr f1).set r1 i)⟩
theorem js_set {i : Nat} {x : Str} {pos' : Pos} (hN : X.N.Nodup) (hi : X.N[i]? = some x) (hx : Loc X.env.scope x) (ha : JE X a ma) (hs : swapsWith a (some (.Name x pos')) pos.line X.env = pure false := by rfl)
    (hf : X.fn x = true ∨ X.env.scope.names.lookup x = some .local := by first | exact .inl rfl | exact .inr rfl | assumption) : JS X (.Assign [.Name x pos'] a pos) (mSet i ma) := PS_imp (ps_set hN hi hx ha hs hf) tSet_M
theorem js_par2 {i j : Nat} {x y : Str} {a b : Expr} {mm : MA} {px py pt : Pos} {kt k2 pt2} (hc : X.calm = true) (hN : X.N.Nodup) (hi : X.N[i]? = some x) (hj : X.N[j]? = some y) (hij : i ≠ j)
    (hx : X.env.scope.names.lookup x = some .local) (hy : X.env.scope.names.lookup y = some .local) (ha : JA X [a, b] mm)
    (hw : swappedStores [.Tuple [.Name x px, .Name y py] kt pt] (.Tuple [a, b] k2 pt2) X.env = pure (some [x, y]) := by rfl)
    (hs : swapsWithSole [.Tuple [.Name x px, .Name y py] kt pt] (.Tuple [a, b] k2 pt2) pos.line X.env = pure false := by rfl) :
    JS X (.Assign [.Tuple [.Name x px, .Name y py] kt pt] (.Tuple [a, b] k2 pt2) pos) (mPar2 i j mm) := PS_imp (ps_par hc hN hi hj hij hx hy ha hw hs) fun D σ H ⟨W, ρ, μ, k, st, q⟩ =>
  ⟨W, ρ, μ, k, st, PoS.bind (R := RpL X.K) q fun t μ1 H1 W1 v f1 k1 r1 q1 => by
    match t, r1, q1 with
    | [t1, t2], .cons r1 (.cons r2 .nil), q1 => exact ⟨_, _, rfl, q1 H1 W1 _ Fr.refl k1 (((st.fr f1).set r1 i).set r2 j)⟩
    | [], _, q1 => exact q1.elim
    | [_], _, q1 => exact q1.elim
    | _ :: _ :: _ :: _, _, q1 => exact q1.elim⟩
theorem js_par3 {i j l : Nat} {x y z : Str} {a b c : Expr} {mm : MA} {px py pz pt : Pos} {kt k2 pt2} (hc : X.calm = true) (hN : X.N.Nodup) (hi : X.N[i]? = some x) (hj : X.N[j]? = some y) (hl : X.N[l]? = some z) (hij : i ≠ j) (hil : i ≠ l) (hjl : j ≠ l)
    (hx : X.env.scope.names.lookup x = some .local) (hy : X.env.scope.names.lookup y = some .local) (hz : X.env.scope.names.lookup z = some .local) (ha : JA X [a, b, c] mm)
    (hw : swappedStores [.Tuple [.Name x px, .Name y py, .Name z pz] kt pt] (.Tuple [a, b, c] k2 pt2) X.env = pure (some [x, y, z]) := by rfl)
    (hs : swapsWithSole [.Tuple [.Name x px, .Name y py, .Name z pz] kt pt] (.Tuple [a, b, c] k2 pt2) pos.line X.env = pure false := by rfl) :
    JS X (.Assign [.Tuple [.Name x px, .Name y py, .Name z pz] kt pt] (.Tuple [a, b, c] k2 pt2) pos) (mPar3 i j l mm) := PS_imp (ps_par3 hc hN hi hj hl hij hil hjl hx hy hz ha hw hs) fun D σ H ⟨W, ρ, μ, k, st, q⟩ =>
  ⟨W, ρ, μ, k, st, PoS.bind (R := RpL X.K) q fun t μ1 H1 W1 v f1 k1 r1 q1 => by
    match t, r1, q1 with
    | [t1, t2, t3], .cons r1 (.cons r2 (.cons r3 .nil)), q1 => exact ⟨_, _, _, rfl, q1 H1 W1 _ Fr.refl k1 ((((st.fr f1).set r1 i).set r2 j).set r3 l)⟩
    | [], _, q1 => exact q1.elim
    | [_], _, q1 => exact q1.elim
    | [_, _], _, q1 => exact q1.elim
    | _ :: _ :: _ :: _ :: _, _, q1 => exact q1.elim⟩
theorem js_aug {i : Nat} {x : Str} {op : Operator} {g : G2} {pos' : Pos} (hN : X.N.Nodup) (hi : X.N[i]? = some x) (hx : Loc X.env.scope x) (ha : JE X a ma) (ho : OpR X (inplaceOp op) (rM X.K g))
    (hf : X.fn x = true ∨ X.env.scope.names.lookup x = some .local := by first | exact .inl rfl | exact .inr rfl | assumption) : JS X (.AugAssign (.Name x pos') op a pos) (mAug i g ma) :=
  PS_imp (ps_aug (ti := rM X.K g) hN hi hx ha (fun pins s σ H x y v u Q I r1 r2 h => ho pins s σ H x y v u Q I r1 r2 h) hf) fun D σ H ⟨W, ρ, μ, k, st, q⟩ => by
    unfold mAug at q
    cases h1 : ρ[i]? with
    | none => rw [h1] at q; exact q.elim
    | some o =>
      cases o with
      | none => rw [h1] at q; exact q.elim
      | some t =>
        rw [h1] at q
        obtain ⟨v, h2, r⟩ := st.at_ i t h1
        exact ⟨v, h2, W, ρ, μ, k, st, PoS.bind (R := Rp X.K) q fun y μ1 H1 W1 u f1 k1 r1 q1 =>
          ⟨W1, μ1, t, y, k1, r.fr f1, r1, PoS.bind (R := Rp X.K) q1 fun z μ2 H2 W2 w f2 k2 r2 q2 => q2 H2 W2 _ Fr.refl k2 (((st.fr f1).fr f2).set r2 i)⟩⟩
end

/-! ### what a loop walks -/
/-- the items, one behind another; the store may be looked at between them -/
def Yl (K : PySem.W.Frag) (J : It) (ts : List T) (H : Hp) (W : Wd) : Prop := ∀ H1 W1 μ, Rf H W H1 W1 → Ok K H1 W1 μ →
  (∀ i, i < ts.length → J.go i H1) ∧ J.stop ts.length H1 ∧
    ∀ i x H2 t, J.yld i H1 x H2 → ts[i]? = some t → ∃ W2, Fr H1 W1 H2 W2 ∧ Ok K H2 W2 μ ∧ Rp K H2 W2 t x
theorem Yl.fr {K : PySem.W.Frag} {J : It} {ts : List T} {H H' : Hp} {W W' : Wd} (f : Fr H W H' W') (h : Yl K J ts H W) : Yl K J ts H' W' := fun H1 W1 μ f1 k => h H1 W1 μ (f.toRf.trans f1) k
abbrev MI := Rho → Mu → Out (List T)
def PoI (K : PySem.W.Frag) := Po (α := List T) (β := It) K (fun H W ts J => Yl K J ts H W)
def tMI (K : PySem.W.Frag) (m : MI) : TI := fun σ H R => ∃ W ρ μ, Ok K H W μ ∧ RpSt K H W σ ρ ∧ PoI K H W R (m ρ μ)
abbrev JI (X : Cx) (tg e : Expr) (m : MI) : Prop := PI X tg e (tMI X.K m)
theorem PI_imp {X : Cx} {tg e : Expr} {t t' : TI} (h : PI X tg e t) (hi : ∀ σ H Q, t' σ H Q → t σ H Q) : PI X tg e t' := ⟨fun pins s σ H R I q => h.run pins s σ H R I (hi σ H R q)⟩
theorem PI_or {X : Cx} {tg e : Expr} {t t' : TI} (h : PI X tg e t) (h' : PI X tg e t') : PI X tg e (fun σ H R => t σ H R ∨ t' σ H R) := ⟨fun pins s σ H R I q => q.elim (h.run pins s σ H R I) (h'.run pins s σ H R I)⟩
theorem yl_list {K : PySem.W.Frag} {a : Addr} {ts : List T} {vs : List V} {H : Hp} {W : Wd} (h : SqL K H a vs) (hr : ∀ {H1 W1}, Rf H W H1 W1 → SqL K H1 a vs) (r : RpL K H W ts vs) : Yl K (Itl K a) ts H W := fun H1 W1 μ f k => by
  have h1 := hr f
  have r1 := r.rf f
  refine ⟨fun i hi => ?_, ⟨vs, h1, by rw [r.length]; exact Nat.le_refl _⟩, fun i x H2 t y ht => ?_⟩
  · obtain ⟨v, hv, _⟩ := r1.get (List.getElem?_eq_getElem hi)
    exact ⟨vs, v, h1, hv⟩
  · obtain ⟨rfl, y⟩ := y
    obtain ⟨v, hv, rv⟩ := r1.get ht
    have e1 := y vs h1
    rw [hv] at e1; cases e1
    exact ⟨W1, Fr.refl, k, rv⟩
theorem yl_tup {K : PySem.W.Frag} {a : Addr} {ts : List T} {vs : List V} {H : Hp} {W : Wd} (h : SqT K H a vs) (r : RpL K H W ts vs) : Yl K (Itt K a) ts H W := fun H1 W1 μ f k => by
  have h1 := sqT_rf f h
  have r1 := r.rf f
  refine ⟨fun i hi => ?_, ⟨vs, h1, by rw [r.length]; exact Nat.le_refl _⟩, fun i x H2 t y ht => ?_⟩
  · obtain ⟨v, hv, _⟩ := r1.get (List.getElem?_eq_getElem hi)
    exact ⟨vs, v, h1, hv⟩
  · obtain ⟨rfl, y⟩ := y
    obtain ⟨v, hv, rv⟩ := r1.get ht
    have e1 := y vs h1
    rw [hv] at e1; cases e1
    exact ⟨W1, Fr.refl, k, rv⟩
def itS (t : T) (μ : Mu) : Out (List T) := match t with
  | .lst ts => .ok ts μ
  | .kls ts => .ok ts μ
  | .tup ts => .ok ts μ
  | _ => .bad
def mItS (m : ME) : MI := fun ρ μ => (m ρ μ).bind itS
def rangeT (lo hi : Int) : List T := (List.range (hi - lo).toNat).map fun i : Nat => T.int (lo + (i : Int))
def inR (i : Int) : Bool := decide (-1000000 ≤ i) && decide (i ≤ 1000000)
def itR1 (ts : List T) (μ : Mu) : Out (List T) := match ts with
  | [.int hi] => if inR hi = true then .ok (rangeT 0 hi) μ else .bad
  | _ => .bad
def itR2 (ts : List T) (μ : Mu) : Out (List T) := match ts with
  | [.int lo, .int hi] => if (inR lo && inR hi) = true then .ok (rangeT lo hi) μ else .bad
  | _ => .bad
def zipT (xs ys : List T) : List T := (xs.zip ys).map fun p => .tup [p.1, p.2]
def itZ (ts : List T) (μ : Mu) : Out (List T) := match ts with
  | [.lst xs, .lst ys] => .ok (zipT xs ys) μ
  | [.tup xs, .tup ys] => .ok (zipT xs ys) μ
  | _ => .bad
def mIt (m : MA) (f : List T → Mu → Out (List T)) : MI := fun ρ μ => (m ρ μ).bind f
section
variable {X : Cx} {tg a b : Expr} {ma : ME} {mm : MA} {p pos : Pos}
theorem ji_seq (h : JE X a ma) : JI X tg a (mItS ma) := PI_imp (PI_or (pi_list h) (pi_tup h)) fun σ H R ⟨W, ρ, μ, k, st, q⟩ => by
  unfold mItS at q
  cases hm : ma ρ μ with
  | bad => rw [hm] at q; exact q.elim
  | ok t μ1 =>
    rw [hm] at q
    have q' : PoI X.K H W R (itS t μ1) := q
    unfold itS at q'
    split at q'
    · rename_i ts
      refine .inl ⟨W, ρ, μ, k, st, ?_⟩
      rw [hm]
      intro H1 W1 v f1 k1 r1
      cases r1 with
      | lst h1 h2 => exact ⟨_, rfl, ⟨_, h1.sq⟩, q' H1 W1 _ f1 k1 (yl_list h1.sq (fun f => (lf_rf f h1).sq) h2)⟩
    · rename_i ts
      refine .inl ⟨W, ρ, μ, k, st, ?_⟩
      rw [hm]
      intro H1 W1 v f1 k1 r1
      cases r1 with
      | kls h1 h2 => exact ⟨_, rfl, ⟨_, h1.sq⟩, q' H1 W1 _ f1 k1 (yl_list h1.sq (fun f => (kf_rf f h1).sq) h2)⟩
    · rename_i ts
      refine .inr ⟨W, ρ, μ, k, st, ?_⟩
      rw [hm]
      intro H1 W1 v f1 k1 r1
      cases r1 with
      | tup h1 h2 => exact ⟨_, rfl, ⟨_, h1⟩, q' H1 W1 _ f1 k1 (yl_tup h1 h2)⟩
    · exact q'.elim
theorem yl_range {K : PySem.W.Frag} {lo hi : Int} {n : Nat} (hn : n = (hi - lo).toNat) {H : Hp} {W : Wd} : Yl K (Itr lo n) (rangeT lo hi) H W := fun H1 W1 μ f k => by
  subst hn
  have hl : (rangeT lo hi).length = (hi - lo).toNat := by unfold rangeT; rw [List.length_map, List.length_range]
  refine ⟨fun i hi' => by rw [hl] at hi'; exact hi', by rw [hl]; exact Nat.le_refl _, fun i x H2 t y ht => ?_⟩
  obtain ⟨rfl, rfl⟩ := y
  have hi' : i < (hi - lo).toNat := by
    have := (List.getElem?_eq_some_iff.mp ht).1
    rwa [hl] at this
  unfold rangeT at ht
  rw [List.getElem?_map, List.getElem?_range hi'] at ht
  cases ht
  exact ⟨W1, Fr.refl, k, .int _⟩
theorem inR_ok {i : Int} (h : inR i = true) : -(2 ^ 62) ≤ i ∧ i < 2 ^ 62 := by
  unfold inR at h
  rw [Bool.and_eq_true, decide_eq_true_eq, decide_eq_true_eq] at h
  omega
theorem ji_range1 (hg : Gl X "range") (hm : X.mg "range" = none) (ha : JA X [a] mm) (hs : starEach [a] X.env = [(false, eval a X.env)] := by rfl) : JI X tg (.Call (.Name "range" p) [a] [] pos) (mIt mm itR1) :=
  PI_imp (pi_range1 hg hm ha hs) fun σ H R ⟨W, ρ, μ, k, st, q⟩ => ⟨W, ρ, μ, k, st, Po.bind (R := RpL X.K) (R' := fun H W ts J => Yl X.K J ts H W) q fun ts μ1 _ H1 W1 v f1 k1 r1 q1 => by
    unfold itR1 at q1
    split at q1
    · split at q1
      · rename_i hi _ hh
        obtain ⟨h1, h2⟩ := inR_ok hh
        cases r1 with
        | cons r1 rl =>
          cases r1; cases rl
          exact ⟨hi, rfl, h1, h2, q1 H1 W1 _ Fr.refl k1 (yl_range (by simp))⟩
      · exact q1.elim
    · exact q1.elim⟩
theorem ji_range2 (hg : Gl X "range") (hm : X.mg "range" = none) (ha : JA X [a, b] mm) (hs : starEach [a, b] X.env = [(false, eval a X.env), (false, eval b X.env)] := by rfl) (hs2 : starEach [b] X.env = [(false, eval b X.env)] := by rfl) :
    JI X tg (.Call (.Name "range" p) [a, b] [] pos) (mIt mm itR2) :=
  PI_imp (pi_range2 hg hm ha hs hs2) fun σ H R ⟨W, ρ, μ, k, st, q⟩ => ⟨W, ρ, μ, k, st, Po.bind (R := RpL X.K) (R' := fun H W ts J => Yl X.K J ts H W) q fun ts μ1 _ H1 W1 v f1 k1 r1 q1 => by
    unfold itR2 at q1
    split at q1
    · split at q1
      · rename_i lo hi _ hh
        rw [Bool.and_eq_true] at hh
        obtain ⟨h1, h2⟩ := inR_ok hh.1
        obtain ⟨h3, h4⟩ := inR_ok hh.2
        cases r1 with
        | cons r1 rl =>
          cases rl with
          | cons r2 rl =>
            cases r1; cases r2; cases rl
            exact ⟨lo, hi, rfl, ⟨h1, h2, h3, h4⟩, q1 H1 W1 _ Fr.refl k1 (yl_range rfl)⟩
      · exact q1.elim
    · exact q1.elim⟩
theorem zipT_get : ∀ {xs ys : List T} {i : Nat} {t : T}, (zipT xs ys)[i]? = some t → ∃ x y, xs[i]? = some x ∧ ys[i]? = some y ∧ t = .tup [x, y]
  | [], _, _, _, h => by simp [zipT] at h
  | _ :: _, [], _, _, h => by simp [zipT] at h
  | x :: xs, y :: ys, 0, t, h => by simp [zipT] at h; exact ⟨x, y, rfl, rfl, h.symm⟩
  | x :: xs, y :: ys, i + 1, t, h => by
    have h' : (zipT xs ys)[i]? = some t := by simpa [zipT] using h
    obtain ⟨a, b, h1, h2, h3⟩ := zipT_get h'
    exact ⟨a, b, by simpa using h1, by simpa using h2, h3⟩
theorem zipT_len (xs ys : List T) : (zipT xs ys).length = min xs.length ys.length := by
  unfold zipT
  rw [List.length_map, List.length_zip]
theorem yl_zip {K : PySem.W.Frag} {a b : Addr} {xs ys : List T} {vs us : List V} {H : Hp} {W : Wd} (ha : LF H W a vs) (ra : RpL K H W xs vs) (hb : LF H W b us) (rb : RpL K H W ys us) : Yl K (Itz K a b) (zipT xs ys) H W := fun H1 W1 μ f k => by
  have h1 := (lf_rf f ha).sq (K := K)
  have h2 := (lf_rf f hb).sq (K := K)
  have r1 := ra.rf f
  have r2 := rb.rf f
  have l1 := r1.length
  have l2 := r2.length
  refine ⟨fun i hi => ?_, ⟨vs, us, h1, h2, by rw [zipT_len]; omega⟩, fun i x H2 t y ht => ?_⟩
  · rw [zipT_len] at hi
    have i1 : i < xs.length := by omega
    have i2 : i < ys.length := by omega
    obtain ⟨v, hv, _⟩ := r1.get (List.getElem?_eq_getElem i1)
    obtain ⟨u, hu, _⟩ := r2.get (List.getElem?_eq_getElem i2)
    exact ⟨vs, us, v, u, h1, h2, hv, hu⟩
  · obtain ⟨p, v, u, rfl, hp, rfl, y1, y2⟩ := y
    obtain ⟨x, y, hx, hy, rfl⟩ := zipT_get ht
    obtain ⟨v', hv, rv⟩ := r1.get hx
    obtain ⟨u', hu, ru⟩ := r2.get hy
    have e1 := y1 vs h1
    rw [hv] at e1; cases e1
    have e2 := y2 us h2
    rw [hu] at e2; cases e2
    obtain ⟨f', k'⟩ := k.frozen (o := .tup _) hp
    exact ⟨_, f', k', .tup (.inl (.inl upd_same)) (.cons (rv.fr f') (.cons (ru.fr f') .nil))⟩
theorem yl_zipT {K : PySem.W.Frag} {a b : Addr} {xs ys : List T} {vs us : List V} {H : Hp} {W : Wd} (ha : SqT K H a vs) (ra : RpL K H W xs vs) (hb : SqT K H b us) (rb : RpL K H W ys us) : Yl K (RZ.ItzT K a b) (zipT xs ys) H W := fun H1 W1 μ f k => by
  have h1 := sqT_rf f ha
  have h2 := sqT_rf f hb
  have r1 := ra.rf f
  have r2 := rb.rf f
  have l1 := r1.length
  have l2 := r2.length
  refine ⟨fun i hi => ?_, ⟨vs, us, h1, h2, by rw [zipT_len]; omega⟩, fun i x H2 t y ht => ?_⟩
  · rw [zipT_len] at hi
    have i1 : i < xs.length := by omega
    have i2 : i < ys.length := by omega
    obtain ⟨v, hv, _⟩ := r1.get (List.getElem?_eq_getElem i1)
    obtain ⟨u, hu, _⟩ := r2.get (List.getElem?_eq_getElem i2)
    exact ⟨vs, us, v, u, h1, h2, hv, hu⟩
  · obtain ⟨p, v, u, rfl, hp, rfl, y1, y2⟩ := y
    obtain ⟨x, y, hx, hy, rfl⟩ := zipT_get ht
    obtain ⟨v', hv, rv⟩ := r1.get hx
    obtain ⟨u', hu, ru⟩ := r2.get hy
    have e1 := y1 vs h1
    rw [hv] at e1; cases e1
    have e2 := y2 us h2
    rw [hu] at e2; cases e2
    obtain ⟨f', k'⟩ := k.frozen (o := .tup _) hp
    exact ⟨_, f', k', .tup (.inl (.inl upd_same)) (.cons (rv.fr f') (.cons (ru.fr f') .nil))⟩
theorem ji_zip {elts : List Expr} {kk : Nat} {tpos : Pos} (hg : Gl X "zip") (hm : X.mg "zip" = none) (ha : JA X [a, b] mm)
    (hs : starEach [a, b] X.env = (false, eval a X.env) :: starEach [b] X.env := by rfl) (hpl : (backTo pos (starEach [b] X.env)).any (·.1) = false := by rfl) :
    JI X (.Tuple elts kk tpos) (.Call (.Name "zip" p) [a, b] [] pos) (mIt mm itZ) :=
  PI_imp (RZ.pi_zipA hg hm ha hs hpl) fun σ H R ⟨W, ρ, μ, k, st, q⟩ => ⟨W, ρ, μ, k, st, Po.bind (R := RpL X.K) (R' := fun H W ts J => Yl X.K J ts H W) q fun ts μ1 _ H1 W1 v f1 k1 r1 q1 => by
    unfold itZ at q1
    split at q1
    · cases r1 with
      | cons r1 rl =>
        cases rl with
        | cons r2 rl =>
          cases rl
          cases r1 with
          | lst h1 l1 =>
            cases r2 with
            | lst h2 l2 => exact ⟨_, _, _, _, rfl, .inl ⟨h1.sq, h2.sq, q1 H1 W1 _ Fr.refl k1 (yl_zip h1 l1 h2 l2)⟩⟩
    · cases r1 with
      | cons r1 rl =>
        cases rl with
        | cons r2 rl =>
          cases rl
          cases r1 with
          | tup h1 l1 =>
            cases r2 with
            | tup h2 l2 => exact ⟨_, _, _, _, rfl, .inr ⟨h1, h2, q1 H1 W1 _ Fr.refl k1 (yl_zipT h1 l1 h2 l2)⟩⟩
    · exact q1.elim⟩
end

/-! ### loops -/
def stepO (o : Out Flo) (k : MS) : Out Flo := match o with
  | .ok (.nx ρ) μ => k ρ μ
  | .ok (.ct ρ) μ => k ρ μ
  | .ok (.bk ρ) μ => .ok (.nx ρ) μ
  | o => o
def loopM (g : MG) (mb : MS) : List T → MS
  | [], ρ, μ => .ok (.nx ρ) μ
  | t :: ts, ρ, μ => (g t ρ μ).bind fun ρ1 μ1 => stepO (mb ρ1 μ1) (loopM g mb ts)
def mFor (mi : MI) (g : MG) (mb : MS) : MS := fun ρ μ => (mi ρ μ).bind fun ts μ1 => loopM g mb ts ρ μ1
def whileM (c : MT) (mb : MS) : Nat → MS
  | 0, _, _ => .bad
  | n + 1, ρ, μ => (c ρ μ).bind fun b μ1 => if b = true then stepO (mb ρ μ1) (whileM c mb n) else .ok (.nx ρ) μ1
theorem PoS.step {K : PySem.W.Frag} {H : Hp} {W : Wd} {D : Ends} {o : Out Flo} {n : MS} {N : L2.St → Hp → Prop} (q : PoS K H W D (stepO o n))
    (hN : ∀ ρ μ H' W' σ', Fr H W H' W' → Ok K H' W' μ → RpSt K H' W' σ' ρ → PoS K H' W' D (n ρ μ) → N σ' H') : PoS K H W { D with nx := N, ct := N, bk := D.nx } o := by
  cases o with
  | ok a m =>
    cases a with
    | nx ρ => exact fun H2 W2 σ2 f2 k r => hN ρ m H2 W2 σ2 f2 k r (PoS.fr f2 q)
    | ct ρ => exact fun H2 W2 σ2 f2 k r => hN ρ m H2 W2 σ2 f2 k r (PoS.fr f2 q)
    | rt ρ => exact q
    | bk ρ => exact q
  | bad => exact q
section
variable {X : Cx} {tg iter : Expr} {body : List Stmt} {pos : Pos} {mi : MI} {g : MG} {mb : MS} {vs : List Nat}
theorem js_for (hp : PassesOwn (model X.prog X.w) X.A X.env X.xe) (hc : X.calm = true) (hi : JI X tg iter mi) (hg : JG X vs tg g) (hb : JSs X body mb)
    (hs : ∀ x, foldedSetIterable iter X.env x = pure x := by intro _; rfl) : JS X (.For tg iter body [] pos) (mFor mi g mb) := PS_imp (ps_for hp hc hi hg hb hs) fun D σ H ⟨W, ρ, μ, k, st, q⟩ =>
  ⟨W, ρ, μ, k, st, PoS.bind (R := fun H W ts J => Yl X.K J ts H W) q fun ts μ1 H1 W1 J f1 k1 y1 q1 =>
    ⟨fun i m σ' H' => i + m = ts.length ∧ ∃ W2 ρ2 μ2, Fr H1 W1 H' W2 ∧ Ok X.K H' W2 μ2 ∧ RpSt X.K H' W2 σ' ρ2 ∧ PoS X.K H' W2 D (loopM g mb (ts.drop i) ρ2 μ2),
      ⟨ts.length, Nat.zero_add _, W1, ρ, μ1, Fr.refl, k1, st.fr f1, q1⟩, fun i m σ' H' ⟨him, W2, ρ2, μ2, f2, k2, st2, q2⟩ => by
        obtain ⟨y2, y3, y4⟩ := y1 H' W2 μ2 f2.toRf k2
        cases m with
        | zero =>
          have hi : i = ts.length := by omega
          subst hi
          rw [List.drop_length] at q2
          exact .inl ⟨y3, q2 H' W2 σ' Fr.refl k2 st2⟩
        | succ m =>
          have hi : i < ts.length := by omega
          rw [List.drop_eq_getElem_cons hi] at q2
          refine .inr ⟨y2 i hi, fun σ3 H3 => ∃ W3 ρ3 μ3, Fr H1 W1 H3 W3 ∧ Ok X.K H3 W3 μ3 ∧ RpSt X.K H3 W3 σ3 ρ3 ∧ PoS X.K H3 W3 D (loopM g mb (ts.drop (i + 1)) ρ3 μ3),
            fun σ3 H3 h => ⟨m, Nat.lt_succ_self m, by omega, h⟩, fun x H3 hy => ?_⟩
          obtain ⟨W3, f3, k3, r3⟩ := y4 i x H3 _ hy (List.getElem?_eq_getElem hi)
          refine ⟨W3, ρ2, μ2, ts[i], k3, st2.fr f3, r3, ?_⟩
          have q3 : PoS X.K H3 W3 D ((g ts[i] ρ2 μ2).bind fun ρ1 μ1 => stepO (mb ρ1 μ1) (loopM g mb (ts.drop (i + 1)))) := PoS.fr f3 q2
          cases hg3 : g ts[i] ρ2 μ2 with
          | bad => rw [hg3] at q3; exact q3.elim
          | ok ρ4 μ4 =>
            rw [hg3] at q3
            exact fun H4 W4 σ4 f4 k4 st4 _ => ⟨W4, ρ4, μ4, k4, st4, PoS.step (PoS.fr f4 q3) fun ρ5 μ5 H5 W5 σ5 f5 k5 st5 q5 => ⟨W5, ρ5, μ5, (((f2.trans f3).trans f4).trans f5), k5, st5, q5⟩⟩⟩⟩
theorem js_while {c : Expr} {mc : MT} (n : Nat) (hp : PassesOwn (model X.prog X.w) X.A X.env X.xe) (hc : JT X c mc) (hb : JSs X body mb) : JS X (.While c body [] pos) (whileM mc mb n) := PS_imp (ps_while hp hc hb) fun D σ H ⟨W, ρ, μ, k, st, q⟩ =>
  ⟨fun m σ' H' => ∃ W2 ρ2 μ2, Ok X.K H' W2 μ2 ∧ RpSt X.K H' W2 σ' ρ2 ∧ PoS X.K H' W2 D (whileM mc mb m ρ2 μ2), ⟨n, W, ρ, μ, k, st, q⟩, fun m σ' H' ⟨W2, ρ2, μ2, k2, st2, q2⟩ => by
    cases m with
    | zero => exact q2.elim
    | succ m =>
      refine ⟨W2, ρ2, μ2, k2, st2, PoS.bind (R := fun _ _ a b => b = a) q2 fun b μ3 H3 W3 v f3 k3 r3 q3 => ?_⟩
      subst r3
      cases v with
      | true =>
        rw [if_pos rfl] at q3 ⊢
        exact ⟨fun σ4 H4 => ∃ W4 ρ4 μ4, Ok X.K H4 W4 μ4 ∧ RpSt X.K H4 W4 σ4 ρ4 ∧ PoS X.K H4 W4 D (whileM mc mb m ρ4 μ4), fun σ4 H4 h => ⟨m, Nat.lt_succ_self m, h⟩,
          W3, ρ2, μ3, k3, st2.fr f3, PoS.step q3 fun ρ5 μ5 H5 W5 σ5 f5 k5 st5 q5 => ⟨W5, ρ5, μ5, k5, st5, q5⟩⟩
      | false =>
        rw [if_neg Bool.false_ne_true] at q3 ⊢
        exact q3 H3 W3 _ Fr.refl k3 (st2.fr f3)⟩
end
end Mr

namespace Mr
open PySem PySem.Spec PyProof.Rows L2

/-! ### comprehensions -/
def compM (g : MG) (mt : MT) (me : ME) (ρ : Rho) : List T → Mu → Out (List T)
  | [], μ => .ok [] μ
  | t :: ts, μ => (g t ρ μ).bind fun ρ1 μ1 => (mt ρ1 μ1).bind fun b μ2 =>
      if b = true then (me ρ1 μ2).bind fun y μ3 => (compM g mt me ρ ts μ3).bind fun ys μ4 => .ok (y :: ys) μ4 else compM g mt me ρ ts μ2
/-- the comprehension; fin: how the new list is kept -/
def mLc (vs : List Nat) (mi : MI) (g : MG) (mt : MT) (me : ME) : MA := fun ρ μ => (mi ρ μ).bind fun ts μ1 => if few ts = true then compM g mt me (wipeR ρ vs) ts μ1 else .bad
def fzT (ts : List T) (μ : Mu) : Out T := .ok (.lst ts) μ
def muT (ts : List T) (μ : Mu) : Out T := .ok (.mr μ.length) (μ ++ [.lst ts])
def mFin (fin : List T → Mu → Out T) (m : MA) : ME := fun ρ μ => (m ρ μ).bind fin
abbrev JTs (X : Cx) (ifs : List Expr) (m : MT) : Prop := PTs X ifs (tMT X.K m)
def mYes : MT := fun _ μ => .ok true μ
section
variable {X : Cx}
theorem jts_nil : JTs X [] mYes := ⟨fun pins s σ H Q I ⟨W, ρ, μ, k, st, q⟩ => pts_nil.run pins s σ H Q I (Po.go (R := fun _ _ a b => b = a) q Fr.refl k rfl)⟩
theorem jts_one {c : Expr} {m : MT} (h : JT X c m) : JTs X [c] m := pts_one h
end
theorem RpSt.rf {K : PySem.W.Frag} {H H' : Hp} {W W' : Wd} {σ : L2.St} {ρ : Rho} (f : Rf H W H' W') (r : RpSt K H W σ ρ) : RpSt K H' W' σ ρ :=
  ⟨r.len, fun i t h => let ⟨v, h1, h2⟩ := r.at_ i t h; ⟨v, h1, h2.rf f⟩⟩
theorem wipe_in {σ : L2.St} {i : Nat} : ∀ {vs : List Nat}, i ∈ vs → i < σ.length → (wipe σ vs)[i]? = some none
  | [], h, _ => by cases h
  | v :: vs, h, hl => by
    show ((wipe σ vs).set v none)[i]? = some none
    by_cases hv : v = i
    · subst hv
      rw [List.getElem?_set_self (by rw [wipe_length]; exact hl)]
    · rw [List.getElem?_set_ne hv]
      rcases List.mem_cons.mp h with e | e
      · exact absurd e.symm hv
      · exact wipe_in e hl
theorem wipe_wipe {σ : L2.St} {vs : List Nat} : wipe (wipe σ vs) vs = wipe σ vs := by
  apply List.ext_getElem?
  intro i
  by_cases hi : i ∈ vs
  · by_cases hl : i < σ.length
    · rw [wipe_in hi hl, wipe_in hi (by rw [wipe_length]; exact hl)]
    · rw [List.getElem?_eq_none (by rw [wipe_length, wipe_length]; omega), List.getElem?_eq_none (by rw [wipe_length]; omega)]
  · rw [wipe_out hi]
/-- what is wanted behind the turns, the new list at D under guard -/
def PoC (K : PySem.W.Frag) (H0 : Hp) (W0 : Wd) (D : Addr) (P : List T → Mu → Hp → Wd → Prop) (done : List T) : Out (List T) → Prop
  | .ok ys μ' => ∀ H' W' vs', W'.G = (W0.grd D).G → Fr H0 W0 H' (W'.un W0.G) → Ok K H' W' μ' → H' D = some (.lst vs') → RpL K H' W' (done ++ ys) vs' → P (done ++ ys) μ' H' W'
  | .bad => False
/-- the state ahead of a turn -/
def Cs (K : PySem.W.Frag) (H0 : Hp) (W0 : Wd) (D : Addr) (done : List T) (H : Hp) (W : Wd) (μ : Mu) : Prop :=
  ∃ vs, W.G = (W0.grd D).G ∧ Fr H0 W0 H (W.un W0.G) ∧ Ok K H W μ ∧ H D = some (.lst vs) ∧ RpL K H W done vs
theorem Cs.next {K : PySem.W.Frag} {H0 H H' : Hp} {W0 W W' : Wd} {D : Addr} {done : List T} {μ μ' : Mu} (c : Cs K H0 W0 D done H W μ) (f : Fr H W H' W') (k : Ok K H' W' μ') : Cs K H0 W0 D done H' W' μ' := by
  obtain ⟨vs, g, f0, k0, hd, r⟩ := c
  have hD : W.G D := by rw [g]; exact .inr rfl
  exact ⟨vs, f.gg.trans g, f0.trans (f.un fun a h => by rw [g]; exact .inl h), k, (f.gz D hD).trans hd, r.fr f⟩
theorem Cs.app {K : PySem.W.Frag} {H0 H : Hp} {W0 W : Wd} {D : Addr} {done : List T} {μ : Mu} {y : T} {v : V} (n0 : ¬ W0.G D) (c : Cs K H0 W0 D done H W μ) (ry : Rp K H W y v) :
    ∃ vs, H D = some (.lst vs) ∧ vs.length = done.length ∧ Cs K H0 W0 D (done ++ [y]) (upd H D (.lst (vs ++ [v]))) W μ := by
  obtain ⟨vs, g, f0, k0, hd, r⟩ := c
  have hD : W.G D := by rw [g]; exact .inr rfl
  obtain ⟨f1, k1, rf⟩ := k0.gwrite (ws := vs ++ [v]) (G0 := W0.G) hD n0 (fun a h => by rw [g]; exact .inl h) hd
  exact ⟨vs, hd, r.length.symm, vs ++ [v], g, f0.trans f1, k1, upd_same, (r.append (.cons ry .nil)).rf rf⟩
theorem few_cons {t : T} {ts : List T} (h : few (t :: ts) = true) : few ts = true := by
  have h1 : (t :: ts).length ≤ 1000000 := Nat.le_of_ble_eq_true h
  rw [List.length_cons] at h1
  exact Nat.ble_eq_true_of_le (by omega)
/-- the turns of a comprehension's clause, from any state: Nd is what stands behind -/
theorem comp_turns {K : PySem.W.Frag} {H0 H1 : Hp} {W0 W1 : Wd} {D : Addr} {J : It} {ts : List T} {g : MG} {mt : MT} {me : ME} {vs : List Nat} {σ : L2.St} {ρ : Rho} {μ1 : Mu} {done0 : List T} {Qd : Hp → Prop} {P : List T → Mu → Hp → Wd → Prop}
    (n0 : ¬ W0.G D) (y1 : Yl K J ts H1 W1) (st : RpSt K H1 W1 (wipe σ vs) ρ) (hf : done0.length + ts.length ≤ 1000000) (c0 : Cs K H0 W0 D done0 H1 W1 μ1) (q : PoC K H0 W0 D P done0 (compM g mt me ρ ts μ1))
    (hQ : ∀ dn μ' H W, P dn μ' H W → Qd H) :
    ∃ Wt : Nat → Nat → Hp → Prop, (∃ m, Wt 0 m H1) ∧ ∀ i m H, Wt i m H →
      (J.stop i H ∧ Qd H) ∨ (J.go i H ∧ ∃ Nx : Hp → Prop, (∀ H', Nx H' → ∃ m', m' < m ∧ Wt (i + 1) m' H') ∧ ∀ x H', J.yld i H x H' → tMG K vs g x (wipe σ vs) H' fun σ2 H2 => wipe σ2 vs = wipe σ vs ∧ tMT K mt σ2 H2 fun b H3 =>
        if b = true then tM K me σ2 H3 fun y H4 => ∃ acc, H4 D = some (.lst acc) ∧ acc.length < sizeLine ∧ Nx (upd H4 D (.lst (acc ++ [y]))) else Nx H3) := by
  refine ⟨fun i m H => i + m = ts.length ∧ ∃ W μ done, Rf H1 W1 H W ∧ Cs K H0 W0 D done H W μ ∧ done.length ≤ done0.length + i ∧ PoC K H0 W0 D P done (compM g mt me ρ (ts.drop i) μ), ⟨ts.length, Nat.zero_add _, W1, μ1, done0, Rf.refl, c0, Nat.le_refl _, q⟩, fun i m H ⟨him, W, μ, done, f, c, hl, q⟩ => ?_⟩
  have hD : W.G D := by rw [c.choose_spec.1]; exact .inr rfl
  have k0 := c.choose_spec.2.2.1
  obtain ⟨y2, y3, y4⟩ := y1 H W μ f k0
  cases m with
  | zero =>
    have hi : i = ts.length := by omega
    subst hi
    rw [List.drop_length] at q
    obtain ⟨us, c1, c2, c3, c4, c5⟩ := c
    have q' := q H W us c1 c2 c3 c4 (by rw [List.append_nil]; exact c5)
    exact .inl ⟨y3, hQ _ _ _ _ q'⟩
  | succ m =>
    have hi : i < ts.length := by omega
    rw [List.drop_eq_getElem_cons hi] at q
    refine .inr ⟨y2 i hi, fun H' => ∃ W' μ' done', Rf H1 W1 H' W' ∧ Cs K H0 W0 D done' H' W' μ' ∧ done'.length ≤ done0.length + (i + 1) ∧ PoC K H0 W0 D P done' (compM g mt me ρ (ts.drop (i + 1)) μ'), fun H' h => ⟨m, Nat.lt_succ_self m, by omega, h⟩, fun x H2 hy => ?_⟩
    obtain ⟨W2, f2, k2, r2⟩ := y4 i x H2 _ hy (List.getElem?_eq_getElem hi)
    have st2 := RpSt.rf (f.trans f2.toRf) st
    have c2 := c.next f2 k2
    refine ⟨W2, ρ, μ, ts[i], k2, st2, r2, ?_⟩
    have q3 : PoC K H0 W0 D P done ((g ts[i] ρ μ).bind fun ρ1 μ1 => (mt ρ1 μ1).bind fun b μ2 => if b = true then (me ρ1 μ2).bind fun y μ3 => (compM g mt me ρ (ts.drop (i + 1)) μ3).bind fun ys μ4 => .ok (y :: ys) μ4 else compM g mt me ρ (ts.drop (i + 1)) μ2) := q
    cases hg : g ts[i] ρ μ with
    | bad => rw [hg] at q3; exact q3.elim
    | ok ρ3 μ3 =>
      rw [hg] at q3
      intro H3 W3 σ3 f3 k3 st3 hw3
      have c3 := c2.next f3 k3
      have q3 : PoC K H0 W0 D P done ((mt ρ3 μ3).bind fun b μ2 => if b = true then (me ρ3 μ2).bind fun y μ3 => (compM g mt me ρ (ts.drop (i + 1)) μ3).bind fun ys μ4 => .ok (y :: ys) μ4 else compM g mt me ρ (ts.drop (i + 1)) μ2) := q3
      refine ⟨hw3.trans ?_, W3, ρ3, μ3, k3, st3, ?_⟩
      · exact wipe_wipe
      cases hm : mt ρ3 μ3 with
      | bad => rw [hm] at q3; exact q3.elim
      | ok b μ4 =>
        rw [hm] at q3
        intro H4 W4 b' f4 k4 hb
        subst hb
        have c4 := c3.next f4 k4
        cases b' with
        | false =>
          rw [if_neg Bool.false_ne_true]
          exact ⟨W4, μ4, done, ((f.trans f2.toRf).trans f3.toRf).trans f4.toRf, c4, by omega, q3⟩
        | true =>
          rw [if_pos rfl]
          have q4 : PoC K H0 W0 D P done ((me ρ3 μ4).bind fun y μ3 => (compM g mt me ρ (ts.drop (i + 1)) μ3).bind fun ys μ4 => .ok (y :: ys) μ4) := q3
          refine ⟨W4, ρ3, μ4, k4, st3.fr f4, ?_⟩
          cases he : me ρ3 μ4 with
          | bad => rw [he] at q4; exact q4.elim
          | ok y μ5 =>
            rw [he] at q4
            intro H5 W5 v f5 k5 r5
            have c5 := c4.next f5 k5
            obtain ⟨us, u1, u2, u3⟩ := c5.app n0 r5
            refine ⟨us, u1, by rw [u2, sizeLine_eq]; omega, W5, μ5, done ++ [y], ?_, u3, by rw [List.length_append, List.length_singleton]; omega, ?_⟩
            · have hD5 : W5.G D := by rw [c5.choose_spec.1]; exact .inr rfl
              exact (((f.trans f2.toRf).trans f3.toRf).trans (f4.toRf.trans f5.toRf)).trans ((k5.gwrite (ws := us ++ [v]) (G0 := W0.G) hD5 n0 (fun a h => by rw [c5.choose_spec.1]; exact .inl h) u1).2.2)
            · have q5 : PoC K H0 W0 D P done ((compM g mt me ρ (ts.drop (i + 1)) μ5).bind fun ys μ4 => .ok (y :: ys) μ4) := q4
              cases hc : compM g mt me ρ (ts.drop (i + 1)) μ5 with
              | bad => rw [hc] at q5; exact q5.elim
              | ok ys μ6 =>
                rw [hc] at q5
                intro H6 W6 ws d1 d2 d3 d4 d5
                rw [List.append_assoc] at d5 ⊢
                exact q5 H6 W6 ws d1 d2 d3 d4 d5
theorem Yl.rf {K : PySem.W.Frag} {J : It} {ts : List T} {H H' : Hp} {W W' : Wd} (f : Rf H W H' W') (h : Yl K J ts H W) : Yl K J ts H' W' := fun H1 W1 μ f1 k => h H1 W1 μ (f.trans f1) k
/-- how a comprehension's list is kept: fin its answer -/
def Keeps (fin : List T → Mu → Out T) : Prop := ∀ (K : PySem.W.Frag) (H : Hp) (W : Wd) (G0 : Addr → Prop) (D : Addr) (ys : List T) (vs : List V) (μ : Mu) (Q : VK), Ok K H W μ → W.G D → ¬ G0 D → (∀ a, G0 a → W.G a) → H D = some (.lst vs) → RpL K H W ys vs →
  ys.length ≤ 1000000 → PoE K H (W.un G0) Q (fin ys μ) → Q (.ref D) H
theorem keeps_fz : Keeps fzT := fun K H W G0 D ys vs μ Q k hg h0 hG hd r _ q => by
  obtain ⟨f, k'⟩ := k.gfreeze hg h0 hG
  exact Po.go (R := Rp K) q f k' (.lst ⟨.inr rfl, hd⟩ (r.rf (rf_un.trans f.toRf)))
theorem keeps_mu : Keeps muT := fun K H W G0 D ys vs μ Q k hg h0 hG hd r _ q => by
  obtain ⟨f, k'⟩ := k.gpush hg h0 hG hd r
  refine Po.go (R := Rp K) q f k' (.mr ?_)
  show (W.e ++ [D])[μ.length]? = some D
  rw [← k.len, List.getElem?_append_right (Nat.le_refl _), Nat.sub_self] <;> rfl
theorem compM_len {g : MG} {mt : MT} {me : ME} {ρ : Rho} : ∀ {ts : List T} {μ μ' : Mu} {ys : List T}, compM g mt me ρ ts μ = .ok ys μ' → ys.length ≤ ts.length
  | [], _, _, _, h => by cases h; exact Nat.le_refl _
  | t :: ts, μ, μ', ys, h => by
    unfold compM at h
    cases h1 : g t ρ μ with
    | bad => rw [h1] at h; cases h
    | ok ρ1 μ1 =>
      rw [h1] at h
      simp only [Out.bind_ok] at h
      cases h2 : mt ρ1 μ1 with
      | bad => rw [h2] at h; cases h
      | ok b μ2 =>
        rw [h2] at h
        simp only [Out.bind_ok] at h
        cases b with
        | false =>
          rw [if_neg Bool.false_ne_true] at h
          exact Nat.le_succ_of_le (compM_len h)
        | true =>
          rw [if_pos rfl] at h
          cases h3 : me ρ1 μ2 with
          | bad => rw [h3] at h; cases h
          | ok y μ3 =>
            rw [h3] at h
            simp only [Out.bind_ok] at h
            cases h4 : compM g mt me ρ ts μ3 with
            | bad => rw [h4] at h; cases h
            | ok zs μ4 =>
              rw [h4] at h
              cases h
              exact Nat.succ_le_succ (compM_len h4)
section
variable {X : Cx} {tg iter elt : Expr} {ifs : List Expr} {scope : Scope} {own : List (Str × Nat)} {pos : Pos} {mi : MI} {g : MG} {mt : MT} {me : ME} {vs : List Nat} {fin : List T → Mu → Out T}
theorem tLc_M (hfin : Keeps fin) : ∀ σ H Q, tM X.K (mFin fin (mLc vs mi g mt me)) σ H Q → tLc (tMI X.K mi) (tMG X.K vs g) (tMT X.K mt) (tM X.K me) vs σ H Q := fun σ H Q ⟨W, ρ, μ, k, st, q⟩ => by
  refine ⟨W, ρ, μ, k, st, ?_⟩
  have q : PoE X.K H W Q (((mi ρ μ).bind fun ts μ1 => if few ts = true then compM g mt me (wipeR ρ vs) ts μ1 else .bad).bind fin) := q
  cases hm : mi ρ μ with
  | bad => rw [hm] at q; exact q.elim
  | ok ts μ1 =>
    rw [hm] at q
    simp only [Out.bind_ok] at q
    intro H1 W1 J f1 k1 y1 D hD
    by_cases hf : few ts = true
    · rw [if_pos hf] at q
      have hlen : ts.length ≤ 1000000 := Nat.le_of_ble_eq_true hf
      obtain ⟨fg, kg⟩ := k1.guard (o := .lst []) hD
      have n0 : ¬ W1.G D := fun z => (k1.gk D z).1 hD
      refine comp_turns (K := X.K) (H0 := H1) (W0 := W1) (W1 := W1.grd D) (done0 := []) (ρ := wipeR ρ vs) (P := fun dn μ' H' W' => Q (.ref D) H') n0 (y1.rf (fg.toRf.trans rf_nu)) ((RpSt.rf (fg.toRf.trans rf_nu) (st.fr f1)).wipe vs) (by simpa using hlen)
        ⟨[], rfl, fg, kg, upd_same, .nil⟩ ?_ (fun _ _ _ _ h => h)
      cases hc : compM g mt me (wipeR ρ vs) ts μ1 with
      | bad => rw [hc] at q; exact q.elim
      | ok ys μ2 =>
        rw [hc] at q
        intro H' W' us g1 f k' hd r
        have hGD : W'.G D := by rw [g1]; exact .inr rfl
        exact hfin X.K H' W' W1.G D ys us μ2 Q k' hGD n0 (fun a h => by rw [g1]; exact .inl h) hd r (Nat.le_trans (compM_len hc) hlen) (Po.fr (f1.trans f) q)
    · rw [if_neg hf] at q
      exact q.elim
theorem je_lc (hfin : Keeps fin) (hc : X.calm = true) (hN : X.N.Nodup) (hi : JI X tg iter mi) (ok : BlkOk X.N X.env.scope scope own) (hv : own.map (·.2) = vs)
    (hg : ∀ (s : Shared) (H : Hp) (C : Addr) (cl : List (Str × Addr)) (fp : List Addr), JG (X.blk s H scope (compEnvC scope cl C X.env) fp) vs tg g)
    (ht : ∀ (s : Shared) (H : Hp) (C : Addr) (cl : List (Str × Addr)) (fp : List Addr), JTs (X.blk s H scope (compEnvC scope cl C X.env) fp) ifs mt)
    (he : ∀ (s : Shared) (H : Hp) (C : Addr) (cl : List (Str × Addr)) (fp : List Addr), JE (X.blk s H scope (compEnvC scope cl C X.env) fp) elt me) (hs : ∀ x, foldedSetIterable iter X.env x = pure x := by intro _; rfl) :
    JE X (.ListComp elt [⟨tg, iter, ifs, 0⟩] scope pos) (mFin fin (mLc vs mi g mt me)) := by
  subst hv
  exact PE_imp (pe_lc hc hN hi ok hg ht he hs) (tLc_M hfin)
theorem js_setLc {i : Nat} {y : Str} {py spos : Pos} (hfin : Keeps fin) (hc : X.calm = true) (hN : X.N.Nodup) (hy : X.N[i]? = some y) (hyl : X.env.scope.names.lookup y = some .local)
    (hsw : swapsWith (.ListComp elt [⟨tg, iter, ifs, 0⟩] scope pos) (some (.Name y py)) spos.line X.env = pure true) (hi : JI X tg iter mi) (ok : BlkOk X.N X.env.scope scope own) (hv : own.map (·.2) = vs)
    (hg : ∀ (s : Shared) (H : Hp) (C : Addr) (cl : List (Str × Addr)) (fp : List Addr), JG (X.blk s H scope (compEnvC scope cl C X.env) fp) vs tg g)
    (ht : ∀ (s : Shared) (H : Hp) (C : Addr) (cl : List (Str × Addr)) (fp : List Addr), JTs (X.blk s H scope (compEnvC scope cl C X.env) fp) ifs mt)
    (he : ∀ (s : Shared) (H : Hp) (C : Addr) (cl : List (Str × Addr)) (fp : List Addr), JE (X.blk s H scope (compEnvC scope cl C X.env) fp) elt me) (hs : ∀ x, foldedSetIterable iter X.env x = pure x := by intro _; rfl) :
    JS X (.Assign [.Name y py] (.ListComp elt [⟨tg, iter, ifs, 0⟩] scope pos) spos) (mSet i (mFin fin (mLc vs mi g mt me))) := by
  subst hv
  refine PS_imp (ps_setLc (wi := tMI X.K mi) (g := tMG X.K (own.map (·.2)) g) (tt := tMT X.K mt) (te := tM X.K me) hc hN hy hyl hsw hi ok hg ht he hs) fun D σ H h => ?_
  have h2 : tM X.K (mFin fin (mLc (own.map (·.2)) mi g mt me)) σ H (fun x H1 => gName i x σ H1 D.nx) := tSet_M D σ H h
  exact tLc_M (X := X) hfin σ H _ h2
end

/-! ### two clauses -/
def few2 (ts : List T) : Bool := Nat.ble ts.length 1000
def comp2M (g : MG) (mt : MT) (mi1 : MI) (vs1 : List Nat) (g1 : MG) (mt1 : MT) (me : ME) (ρ : Rho) : List T → Mu → Out (List T)
  | [], μ => .ok [] μ
  | t :: ts, μ => (g t ρ μ).bind fun ρ1 μ1 => (mt ρ1 μ1).bind fun b μ2 =>
      if b = true then (mi1 ρ1 μ2).bind fun us μ3 => if few2 us = true then (compM g1 mt1 me (wipeR ρ1 vs1) us μ3).bind fun xs μ4 => (comp2M g mt mi1 vs1 g1 mt1 me ρ ts μ4).bind fun ys μ5 => .ok (xs ++ ys) μ5 else .bad
      else comp2M g mt mi1 vs1 g1 mt1 me ρ ts μ2
def mLc2 (vs : List Nat) (mi : MI) (g : MG) (mt : MT) (mi1 : MI) (vs1 : List Nat) (g1 : MG) (mt1 : MT) (me : ME) : MA := fun ρ μ => (mi ρ μ).bind fun ts μ1 => if few2 ts = true then comp2M g mt mi1 vs1 g1 mt1 me (wipeR ρ vs) ts μ1 else .bad
theorem comp2M_len {g g1 : MG} {mt mt1 : MT} {mi1 : MI} {vs1 : List Nat} {me : ME} {ρ : Rho} : ∀ {ts : List T} {μ μ' : Mu} {ys : List T}, comp2M g mt mi1 vs1 g1 mt1 me ρ ts μ = .ok ys μ' → ys.length ≤ 1000 * ts.length
  | [], _, _, _, h => by cases h; exact Nat.zero_le _
  | t :: ts, μ, μ', ys, h => by
    unfold comp2M at h
    rw [List.length_cons]
    cases h1 : g t ρ μ with
    | bad => rw [h1] at h; cases h
    | ok ρ1 μ1 =>
      rw [h1] at h
      simp only [Out.bind_ok] at h
      cases h2 : mt ρ1 μ1 with
      | bad => rw [h2] at h; cases h
      | ok b μ2 =>
        rw [h2] at h
        simp only [Out.bind_ok] at h
        cases b with
        | false =>
          rw [if_neg Bool.false_ne_true] at h
          have := comp2M_len h
          omega
        | true =>
          rw [if_pos rfl] at h
          cases h3 : mi1 ρ1 μ2 with
          | bad => rw [h3] at h; cases h
          | ok us μ3 =>
            rw [h3] at h
            simp only [Out.bind_ok] at h
            by_cases hf : few2 us = true
            · rw [if_pos hf] at h
              have hf' : us.length ≤ 1000 := Nat.le_of_ble_eq_true hf
              cases h4 : compM g1 mt1 me (wipeR ρ1 vs1) us μ3 with
              | bad => rw [h4] at h; cases h
              | ok xs μ4 =>
                rw [h4] at h
                simp only [Out.bind_ok] at h
                cases h5 : comp2M g mt mi1 vs1 g1 mt1 me ρ ts μ4 with
                | bad => rw [h5] at h; cases h
                | ok zs μ5 =>
                  rw [h5] at h
                  cases h
                  have l1 := compM_len h4
                  have l2 := comp2M_len h5
                  rw [List.length_append]
                  omega
            · rw [if_neg hf] at h
              cases h
theorem comp2_turns {K : PySem.W.Frag} {H0 H1 : Hp} {W0 W1 : Wd} {D : Addr} {J : It} {ts : List T} {g g1 : MG} {mt mt1 : MT} {mi1 : MI} {me : ME} {vs vs1 : List Nat} {σ : L2.St} {ρ : Rho} {μ1 : Mu} {Qd : Hp → Prop} {P : List T → Mu → Hp → Wd → Prop}
    (n0 : ¬ W0.G D) (y1 : Yl K J ts H0 W0) (st : RpSt K H0 W0 (wipe σ vs) ρ) (hf : ts.length ≤ 1000) (c0 : Cs K H0 W0 D [] H1 W1 μ1) (q : PoC K H0 W0 D P [] (comp2M g mt mi1 vs1 g1 mt1 me ρ ts μ1))
    (hQ : ∀ dn μ' H W, P dn μ' H W → Qd H) :
    ∃ Wt : Nat → Nat → Hp → Prop, (∃ m, Wt 0 m H1) ∧ ∀ i m H, Wt i m H →
      (J.stop i H ∧ Qd H) ∨ (J.go i H ∧ ∃ Nx : Hp → Prop, (∀ H', Nx H' → ∃ m', m' < m ∧ Wt (i + 1) m' H') ∧ ∀ x H', J.yld i H x H' → tMG K vs g x (wipe σ vs) H' fun σ2 H2 => wipe σ2 vs = wipe σ vs ∧ tMT K mt σ2 H2 fun b H3 =>
        if b = true then tMI K mi1 σ2 H3 fun J1 H4 => ∃ W1 : Nat → Nat → Hp → Prop, (∃ m, W1 0 m H4) ∧ ∀ j k H, W1 j k H →
          (J1.stop j H ∧ Nx H) ∨ (J1.go j H ∧ ∃ Nx1 : Hp → Prop, (∀ H', Nx1 H' → ∃ k', k' < k ∧ W1 (j + 1) k' H') ∧ ∀ x H', J1.yld j H x H' → tMG K vs1 g1 x (wipe σ2 vs1) H' fun σ3 H5 => wipe σ3 vs1 = wipe σ2 vs1 ∧ tMT K mt1 σ3 H5 fun b H6 =>
            if b = true then tM K me σ3 H6 fun y H7 => ∃ acc, H7 D = some (.lst acc) ∧ acc.length < sizeLine ∧ Nx1 (upd H7 D (.lst (acc ++ [y]))) else Nx1 H6)
        else Nx H3) := by
  refine ⟨fun i m H => i + m = ts.length ∧ ∃ W μ done, Cs K H0 W0 D done H W μ ∧ done.length ≤ 1000 * i ∧ PoC K H0 W0 D P done (comp2M g mt mi1 vs1 g1 mt1 me ρ (ts.drop i) μ), ⟨ts.length, Nat.zero_add _, W1, μ1, [], c0, Nat.zero_le _, q⟩, fun i m H ⟨him, W, μ, done, c, hl, q⟩ => ?_⟩
  have f : Rf H0 W0 H W := c.choose_spec.2.1.toRf.trans rf_nu
  have k0 := c.choose_spec.2.2.1
  obtain ⟨y2, y3, y4⟩ := y1 H W μ f k0
  cases m with
  | zero =>
    have hi : i = ts.length := by omega
    subst hi
    rw [List.drop_length] at q
    obtain ⟨us, c1, c2, c3, c4, c5⟩ := c
    have q' := q H W us c1 c2 c3 c4 (by rw [List.append_nil]; exact c5)
    exact .inl ⟨y3, hQ _ _ _ _ q'⟩
  | succ m =>
    have hi : i < ts.length := by omega
    rw [List.drop_eq_getElem_cons hi] at q
    refine .inr ⟨y2 i hi, fun H' => ∃ W' μ' done', Cs K H0 W0 D done' H' W' μ' ∧ done'.length ≤ 1000 * (i + 1) ∧ PoC K H0 W0 D P done' (comp2M g mt mi1 vs1 g1 mt1 me ρ (ts.drop (i + 1)) μ'), fun H' h => ⟨m, Nat.lt_succ_self m, by omega, h⟩, fun x H2 hy => ?_⟩
    obtain ⟨W2, f2, k2, r2⟩ := y4 i x H2 _ hy (List.getElem?_eq_getElem hi)
    have st2 := RpSt.rf (f.trans f2.toRf) st
    have c2 := c.next f2 k2
    refine ⟨W2, ρ, μ, ts[i], k2, st2, r2, ?_⟩
    unfold comp2M at q
    cases hg : g ts[i] ρ μ with
    | bad => rw [hg] at q; exact q.elim
    | ok ρ3 μ3 =>
      rw [hg] at q
      simp only [Out.bind_ok] at q
      intro H3 W3 σ3 f3 k3 st3 hw3
      have c3 := c2.next f3 k3
      refine ⟨hw3.trans wipe_wipe, W3, ρ3, μ3, k3, st3, ?_⟩
      cases hm : mt ρ3 μ3 with
      | bad => rw [hm] at q; exact q.elim
      | ok b μ4 =>
        rw [hm] at q
        simp only [Out.bind_ok] at q
        intro H4 W4 b' f4 k4 hb
        subst hb
        have c4 := c3.next f4 k4
        cases b' with
        | false =>
          rw [if_neg Bool.false_ne_true] at q ⊢
          exact ⟨W4, μ4, done, c4, by omega, q⟩
        | true =>
          rw [if_pos rfl] at q ⊢
          refine ⟨W4, ρ3, μ4, k4, st3.fr f4, ?_⟩
          cases hi1 : mi1 ρ3 μ4 with
          | bad => rw [hi1] at q; exact q.elim
          | ok us μ5 =>
            rw [hi1] at q
            simp only [Out.bind_ok] at q
            intro H5 W5 J1 f5 k5 y5
            have c5 := c4.next f5 k5
            by_cases hf2 : few2 us = true
            · rw [if_pos hf2] at q
              have hlen : us.length ≤ 1000 := Nat.le_of_ble_eq_true hf2
              refine comp_turns (ρ := wipeR ρ3 vs1) (P := fun dn μ' H' W' => ∃ W' μ' done', Cs K H0 W0 D done' H' W' μ' ∧ done'.length ≤ 1000 * (i + 1) ∧ PoC K H0 W0 D P done' (comp2M g mt mi1 vs1 g1 mt1 me ρ (ts.drop (i + 1)) μ')) n0 y5 (((st3.fr f4).fr f5).wipe vs1) (by omega) c5 ?_ (fun _ _ _ _ h => h)
              cases hc : compM g1 mt1 me (wipeR ρ3 vs1) us μ5 with
              | bad => rw [hc] at q; exact q.elim
              | ok xs μ6 =>
                rw [hc] at q
                simp only [Out.bind_ok] at q
                have hxs := compM_len hc
                intro H6 W6 ws d1 d2 d3 d4 d5
                refine ⟨W6, μ6, done ++ xs, ⟨ws, d1, d2, d3, d4, d5⟩, by rw [List.length_append]; omega, ?_⟩
                cases hr : comp2M g mt mi1 vs1 g1 mt1 me ρ (ts.drop (i + 1)) μ6 with
                | bad => rw [hr] at q; exact q.elim
                | ok ys μ7 =>
                  rw [hr] at q
                  intro H7 W7 ws' e1 e2 e3 e4 e5
                  rw [List.append_assoc] at e5 ⊢
                  exact q H7 W7 ws' e1 e2 e3 e4 e5
            · rw [if_neg hf2] at q
              exact q.elim
section
variable {X : Cx} {tg iter tg1 iter1 elt : Expr} {ifs ifs1 : List Expr} {scope : Scope} {own : List (Str × Nat)} {pos : Pos} {mi mi1 : MI} {g g1 : MG} {mt mt1 : MT} {me : ME} {vs vs1 : List Nat} {fin : List T → Mu → Out T}
theorem tLc2_M (hfin : Keeps fin) : ∀ σ H Q, tM X.K (mFin fin (mLc2 vs mi g mt mi1 vs1 g1 mt1 me)) σ H Q → tLc2 (tMI X.K mi) (tMG X.K vs g) (tMT X.K mt) (tMI X.K mi1) (tMG X.K vs1 g1) (tMT X.K mt1) (tM X.K me) vs vs1 σ H Q := fun σ H Q ⟨W, ρ, μ, k, st, q⟩ => by
  refine ⟨W, ρ, μ, k, st, ?_⟩
  have q : PoE X.K H W Q (((mi ρ μ).bind fun ts μ1 => if few2 ts = true then comp2M g mt mi1 vs1 g1 mt1 me (wipeR ρ vs) ts μ1 else .bad).bind fin) := q
  cases hm : mi ρ μ with
  | bad => rw [hm] at q; exact q.elim
  | ok ts μ1 =>
    rw [hm] at q
    simp only [Out.bind_ok] at q
    intro H1 W1 J f1 k1 y1 D hD
    by_cases hf : few2 ts = true
    · rw [if_pos hf] at q
      have hlen : ts.length ≤ 1000 := Nat.le_of_ble_eq_true hf
      obtain ⟨fg, kg⟩ := k1.guard (o := .lst []) hD
      have n0 : ¬ W1.G D := fun z => (k1.gk D z).1 hD
      refine comp2_turns (K := X.K) (H0 := H1) (W0 := W1) (W1 := W1.grd D) (ρ := wipeR ρ vs) (P := fun dn μ' H' W' => Q (.ref D) H') n0 y1 ((st.fr f1).wipe vs) hlen ⟨[], rfl, fg, kg, upd_same, .nil⟩ ?_ (fun _ _ _ _ h => h)
      cases hc : comp2M g mt mi1 vs1 g1 mt1 me (wipeR ρ vs) ts μ1 with
      | bad => rw [hc] at q; exact q.elim
      | ok ys μ2 =>
        rw [hc] at q
        intro H' W' us g1 f k' hd r
        have hGD : W'.G D := by rw [g1]; exact .inr rfl
        have hl := comp2M_len hc
        exact hfin X.K H' W' W1.G D ys us μ2 Q k' hGD n0 (fun a h => by rw [g1]; exact .inl h) hd r (by omega) (Po.fr (f1.trans f) q)
    · rw [if_neg hf] at q
      exact q.elim
theorem je_lc2 (hfin : Keeps fin) (hc : X.calm = true) (hN : X.N.Nodup) (hi : JI X tg iter mi) (ok : BlkOk X.N X.env.scope scope own) (hv : own.map (·.2) = vs) (hv1 : ∀ i ∈ vs1, i ∈ own.map (·.2))
    (hg : ∀ (s : Shared) (H : Hp) (C : Addr) (cl : List (Str × Addr)) (fp : List Addr), JG (X.blk s H scope (compEnvC scope cl C X.env) fp) vs tg g)
    (ht : ∀ (s : Shared) (H : Hp) (C : Addr) (cl : List (Str × Addr)) (fp : List Addr), JTs (X.blk s H scope (compEnvC scope cl C X.env) fp) ifs mt)
    (hi1 : ∀ (s : Shared) (H : Hp) (C : Addr) (cl : List (Str × Addr)) (fp : List Addr), JI (X.blk s H scope (compEnvC scope cl C X.env) fp) tg1 iter1 mi1)
    (hg1 : ∀ (s : Shared) (H : Hp) (C : Addr) (cl : List (Str × Addr)) (fp : List Addr), JG (X.blk s H scope (compEnvC scope cl C X.env) fp) vs1 tg1 g1)
    (ht1 : ∀ (s : Shared) (H : Hp) (C : Addr) (cl : List (Str × Addr)) (fp : List Addr), JTs (X.blk s H scope (compEnvC scope cl C X.env) fp) ifs1 mt1)
    (he : ∀ (s : Shared) (H : Hp) (C : Addr) (cl : List (Str × Addr)) (fp : List Addr), JE (X.blk s H scope (compEnvC scope cl C X.env) fp) elt me) (hs : ∀ x, foldedSetIterable iter X.env x = pure x := by intro _; rfl) (hs1 : ∀ env x, foldedSetIterable iter1 env x = pure x := by intro _ _; rfl) :
    JE X (.ListComp elt [⟨tg, iter, ifs, 0⟩, ⟨tg1, iter1, ifs1, 0⟩] scope pos) (mFin fin (mLc2 vs mi g mt mi1 vs1 g1 mt1 me)) := by
  subst hv
  exact PE_imp (pe_lc2 hc hN hi ok hv1 hg ht hi1 hg1 ht1 he hs hs1) (tLc2_M hfin)
end
end Mr

namespace Mr
open PySem PySem.Spec PyProof.Rows L2

/-! ### defs: as FnOk, where no repr is at work -/
structure FnG (P : Program) (w : World) (K : PySem.W.Frag) (mg : Str → Option Value) (base : Heap) (CX : CXT) (k : Nat) (f : Addr) (fd : FuncData) (ps : List Str) (sp : Sp) : Prop where
  len : ∀ vs H Q E, sp vs H Q E → vs.length = ps.length
  run : ∀ (A : Around) (outer : List Env) (s : Shared) (H : Hp) (args : Args) (us : List Value) (vs : List V) (Q : VK) (E : XK), A.guards = some [] → Room k A → Env0 P w K mg base A outer s H →
    BindsTo s fd args (ps.zip us) → Vals vs us → sp vs H Q E → codeAny (model P w) A (.call (.ref f) args) (CR CX outer P w H s Q E) s
theorem guards_deeper {A : Around} {env : Env} (h : A.guards = some []) : (A.deeper env).guards = some [] := h
/-- a def by its body -/
theorem FnG.of {P : Program} {w : World} {K : PySem.W.Frag} {mg : Str → Option Value} {base : Heap} {CX : CXT} {x qual : Str} {params : Arguments} {body : List Stmt} {scope : Scope} {dvs : List V} {kws : List (Str × V)} {f : Addr} {fd : FuncData} {N ps : List Str} {k : Nat} {sp : Sp}
    (F : FunD K x qual params body scope dvs kws f fd) (S : FnScope N ps scope) (len : ∀ vs H Q E, sp vs H Q E → vs.length = ps.length)
    (hbody : ∀ (cdv : Value) (A : Around) (outer : List Env) (s : Shared) (H : Hp) (vs : List V) (Q : VK) (E : XK), (A.deeper (envOfC qual scope s.heap.objs.size f cdv)).guards = some [] → Room k (A.deeper (envOfC qual scope s.heap.objs.size f cdv)) → (∃ oc od osl fd', K.lookup f = some ⟨oc, od, .func fd', osl⟩ ∧ fd'.code = cdv) → PySem.W.codeIn K cdv qual = true → sp vs H Q E →
      ∃ t, PSs (cxOf CX P w K mg base N qual scope f cdv A outer s H E) body t ∧ t { nx := fun _ H' => Q .non H', rt := Q } (start N vs) H) : FnG P w K mg base CX (k + 1) f fd ps sp := by
  obtain ⟨oc, od, dV, kV, doc, pm, an, cdv, ct, osl, rfl, lk, hcd, _, _⟩ := F.ex
  constructor
  · exact len
  · intro A outer s H args us vs Q E hG hr e0 hb r hsp
    have lenv := len _ _ _ _ hsp
    have inK : K.In s.heap := Mod.kin e0.mod |>.keeps fun b o e => (e0.bs b o e).1
    have noLim : s.heap.NoLimit := Mod.nolimit e0.mod |>.keeps fun b o e => (e0.bs b o e).1
    have kinds : ∀ y ∈ ps.zip us, scope.names.lookup y.1 = some .local ∨ (scope.names.lookup y.1 = some .cell ∧ ((cellsFrom (s.heap.objs.size + 1) scope.names []).lookup y.1).isSome = true) := by
      rintro ⟨n, v⟩ hy
      cases S.par n (List.of_mem_zip hy).1 with
      | inl q => exact Or.inl q
      | inr q => exact Or.inr (And.intro q (PySem.W.cellsFrom_some _ _ _ (.inl q)))
    apply codeAny_call_function hr.depth (inK _ _ lk) rfl S.co S.gen rfl (PySem.W.codeRec_of inK hcd)
    apply hb
    apply wpAny_newFunctionEnv_cells S.kind kinds
    intro env he s1 x
    subst he
    refine And.intro (noLim.keeps x.toInCall.keep) (codeAny_func ?_)
    obtain ⟨t, ht, hq⟩ := hbody cdv A outer s H vs Q E (guards_deeper hG) (hr.deeper _) ⟨_, _, _, _, lk, rfl⟩ hcd hsp
    have J0 := inv_start (CX := CX) (w := w) (N := N) (qual := qual) (f := f) (cd := cdv) (E := E) S hr.hd e0 lenv r x
    apply wpAny_mono (ht.run [] s1 (start N vs) H _ J0 hq)
    · intro fl s' hs
      cases fl with
      | next =>
        obtain ⟨σ', H', J, q⟩ := hs
        exact ⟨V.non, H', J.os, J.bare, J.base, J.hok, rfl, q⟩
      | ret u =>
        obtain ⟨v, σ', H', J, rv, q⟩ := hs
        exact ⟨v, H', J.os, J.bare, J.base, J.hok, rv, q⟩
      | brk => exact False.elim hs.choose_spec.choose_spec.2
      | cont => exact False.elim hs.choose_spec.choose_spec.2
    · intro e s' hs
      exact hs
section
variable {X : Cx} {CX : CXT} {k : Nat} {f C : Addr} {fd : FuncData} {ps : List Str} {sp : Sp} {dvs : List V} {ds : List Value} {E : XK} {x : Str} {p pos : Pos} {e : Expr} {es : List Expr} {t : TA}
/-- the answer of a call, in the caller's body -/
theorem call_end {pins : List (Addr × Obj)} {σ : L2.St} {H : Hp} {s : Shared} {Q : VK} {args : Args} (hx : Passes CX X E) (I : Inv X pins σ H s)
    (h : codeAny (model X.prog X.w) X.A (.call (.ref f) args) (CR CX X.stack X.prog X.w H s Q E) s) : wpAny (model X.prog X.w) X.A (call (.ref f) args.pos args.kw) (EP X pins σ Q) X.xe s := by
  apply wpAny_call
  apply codeAny_mono h
  intro r s' hq
  rcases r with e | (_ | _ | _ | u)
  all_goals first | exact hx pins σ H s e s' I hq | exact I.after hq | exact False.elim hq
theorem run_G {pins : List (Addr × Obj)} {σ : L2.St} {H : Hp} {s : Shared} {Q : VK} {us : List Value} {vs : List V} (F : FnG X.prog X.w X.K X.mg X.base CX k f fd ps sp) (hG : X.A.guards = some []) (hr : Room k X.A) (hb : Binds X.K fd ps ds) (hd : Vals dvs ds) (hx : Passes CX X E)
    (I : Inv X pins σ H s) (r : Vals vs us) (h : sp (vs ++ dvs) H Q E) : wpAny (model X.prog X.w) X.A (call (.ref f) us) (EP X pins σ Q) X.xe s := by
  have rr := Vals.append r hd
  have hlen : (us ++ ds).length = ps.length := rr.length.symm.trans (F.len _ _ _ _ h)
  have go := F.run X.A X.stack s H ⟨us, []⟩ (us ++ ds) (vs ++ dvs) Q E hG hr I.env0 (hb s us I.kIn hlen) rr h
  exact call_end (args := ⟨us, []⟩) hx I go
theorem pe_callG (F : FnG X.prog X.w X.K X.mg X.base CX k f fd ps sp) (hG : X.A.guards = some []) (hr : Room k X.A) (hg : Gl X x) (hm : X.mg x = some (.ref f)) (hk : PySem.W.keepIn X.K (.ref f) = true) (hb : Binds X.K fd ps ds) (hd : Vals dvs ds) (hx : Passes CX X E)
    (ha : PA X (e :: es) t) (hdb : (x == ("__debug__" : Str)) = false := by decide) (he : starEach (e :: es) X.env = (false, eval e X.env) :: starEach es X.env := by rfl) (hpl : (backTo pos (starEach es X.env)).any (·.1) = false := by rfl) :
    PE X (.Call (.Name x p) (e :: es) [] pos) (tCall sp dvs E t) := by
  constructor
  intro pins s σ H Q I h
  apply wpAny_Call_Name_kw (ld_glob I hg hm ?_ hdb)
  apply PySem.W.callWith_K (h₀ := X.base) I.ok.mod.kin hk ?_ he hpl
  apply thn (ha.run pos pins s σ H _ I h)
  intro us s1 ⟨vs, H1, I1, r, q⟩
  exact And.intro I1.kIn (run_G F hG hr hb hd hx I1 r q)
theorem pe_callG0 (F : FnG X.prog X.w X.K X.mg X.base CX k f fd ps sp) (hG : X.A.guards = some []) (hr : Room k X.A) (hg : Gl X x) (hm : X.mg x = some (.ref f)) (hk : PySem.W.keepIn X.K (.ref f) = true) (hb : Binds X.K fd ps ds) (hd : Vals dvs ds) (hx : Passes CX X E)
    (hdb : (x == ("__debug__" : Str)) = false := by decide) : PE X (.Call (.Name x p) [] [] pos) (tCall sp dvs E tNil) := by
  constructor
  intro pins s σ H Q I h
  apply wpAny_Call_Name_kw (ld_glob I hg hm ?_ hdb)
  exact PySem.W.callWith_K0 I.kIn hk (run_G (us := []) F hG hr hb hd hx I .nil h)
/-- f(e, .., k = v, ..), f(k = v, ..) -/
theorem run_KG {pins : List (Addr × Obj)} {σ : L2.St} {H : Hp} {s : Shared} {Q : VK} {us ws : List Value} {vs zs : List V} {ks : List Str} {g : List Value → List Value → List Value} {gV : List V → List V → List V} {n : Nat} (F : FnG X.prog X.w X.K X.mg X.base CX k f fd ps sp)
    (hG : X.A.guards = some []) (hr : Room k X.A) (hb : KBn X.K fd ps n ks g gV) (hx : Passes CX X E) (I : Inv X pins σ H s) (r : Vals vs us) (rz : Vals zs ws) (l1 : vs.length = n) (l2 : zs.length = ks.length) (h : sp (gV vs zs) H Q E) :
    wpAny (model X.prog X.w) X.A (call (.ref f) us (ks.zip ws)) (EP X pins σ Q) X.xe s := by
  have rr := hb.rel r rz
  have go := F.run X.A X.stack s H ⟨us, ks.zip ws⟩ (g us ws) (gV vs zs) Q E hG hr I.env0 (hb.to s us ws I.kIn (r.length.symm.trans l1) (rz.length.symm.trans l2)) rr h
  exact call_end (args := ⟨us, ks.zip ws⟩) hx I go
theorem pe_callKG {ks : List Str} {kws : List Keyword} {tk : TA} {g : List Value → List Value → List Value} {gV : List V → List V → List V} {n : Nat} (F : FnG X.prog X.w X.K X.mg X.base CX k f fd ps sp) (hG : X.A.guards = some []) (hr : Room k X.A) (hg : Gl X x) (hm : X.mg x = some (.ref f)) (hk : PySem.W.keepIn X.K (.ref f) = true) (hb : KBn X.K fd ps n ks g gV) (hx : Passes CX X E)
    (ha : PA X (e :: es) t) (hkw : PK X kws tk) (hall : (backToKw pos (keywordEach kws X.env)).all (·.1.isSome) = true := by rfl) (hks : (backToKw pos (keywordEach kws X.env)).filterMap (·.1) = ks := by rfl) (hdb : (x == ("__debug__" : Str)) = false := by decide)
    (he : starEach (e :: es) X.env = (false, eval e X.env) :: starEach es X.env := by rfl) (hpl : ((backTo pos (starEach (e :: es) X.env)).any (·.1) || (backToKw pos (keywordEach kws X.env)).any (·.1.isNone)) = false := by rfl) :
    PE X (.Call (.Name x p) (e :: es) kws pos) (tCallN n ks.length sp gV E t tk) := by
  constructor
  intro pins s σ H Q I h
  apply wpAny_Call_Name_kw (ld_glob I hg hm ?_ hdb)
  apply PySem.W.callWith_KW (h₀ := X.base) I.ok.mod.kin hk hall ?_ hpl he
  apply thn (ha.run pos pins s σ H _ I h)
  intro us s1 ⟨vs, H1, I1, r, q⟩
  apply thn (hkw.run pos pins s1 σ H1 _ I1 q)
  intro ws s2 ⟨zs, H2, I2, rz, l1, l2, q2⟩
  refine And.intro I2.kIn ?_
  rw [hks]
  exact run_KG F hG hr hb hx I2 r rz l1 l2 q2
theorem pe_callKG0 {ks : List Str} {kws : List Keyword} {tk : TA} {g : List Value → List Value → List Value} {gV : List V → List V → List V} (F : FnG X.prog X.w X.K X.mg X.base CX k f fd ps sp) (hG : X.A.guards = some []) (hr : Room k X.A) (hg : Gl X x) (hm : X.mg x = some (.ref f)) (hk : PySem.W.keepIn X.K (.ref f) = true) (hb : KBn X.K fd ps 0 ks g gV) (hx : Passes CX X E)
    (hkw : PK X kws tk) (hall : (backToKw pos (keywordEach kws X.env)).all (·.1.isSome) = true := by rfl) (hks : (backToKw pos (keywordEach kws X.env)).filterMap (·.1) = ks := by rfl) (hdb : (x == ("__debug__" : Str)) = false := by decide)
    (hpl : ((backTo pos (starEach [] X.env)).any (·.1) || (backToKw pos (keywordEach kws X.env)).any (·.1.isNone)) = false := by rfl) :
    PE X (.Call (.Name x p) [] kws pos) (tCallN 0 ks.length sp gV E tNil tk) := by
  constructor
  intro pins s σ H Q I h
  apply wpAny_Call_Name_kw (ld_glob I hg hm ?_ hdb)
  apply PySem.W.callWith_KW0 (h₀ := X.base) I.ok.mod.kin hk hall ?_ hpl
  apply thn (hkw.run pos pins s σ H _ I h)
  intro ws s2 ⟨zs, H2, I2, rz, l1, l2, q2⟩
  refine And.intro I2.kIn ?_
  rw [hks]
  exact run_KG F hG hr hb hx I2 .nil rz rfl l2 q2
end
/-! ### what a def is worth -/
def spM (K : PySem.W.Frag) (n : Nat) (m : GL) : Sp := fun vs H Q _ => vs.length = n ∧ ∃ W μ ts, Ok K H W μ ∧ RpL K H W ts vs ∧ PoE K H W Q (m ts μ)
/-- frozen: what was made behind n, where it is lists -/
def mapO {α β : Type} (f : α → Option β) : List α → Option (List β)
  | [] => some []
  | a :: as => match f a with
    | some b => match mapO f as with
      | some bs => some (b :: bs)
      | none => none
    | none => none
def frzT (μ : Mu) (n : Nat) : Nat → T → Option T
  | 0, _ => none
  | k + 1, .tup ts => match mapO (frzT μ n k) ts with
    | some us => some (.tup us)
    | none => none
  | k + 1, .lst ts => match mapO (frzT μ n k) ts with
    | some us => some (.lst us)
    | none => none
  | k + 1, .kls ts => match mapO (frzT μ n k) ts with
    | some us => some (.kls us)
    | none => none
  | k + 1, .dic ks ts => match mapO (frzT μ n k) ts with
    | some us => some (.dic ks us)
    | none => none
  | k + 1, .mr i => if Nat.blt i n = true then some (.mr i) else match μ[i]? with
    | some (.lst ts) => match mapO (frzT μ n k) ts with
      | some us => some (.lst us)
      | none => none
    | _ => none
  | _ + 1, t => some t
def frzO (μ : Mu) (n : Nat) : MO → Option MO
  | .lst ts => (mapO (frzT μ n 64) ts).map MO.lst
  | .dead => some .dead
  | .tab P q => some (.tab P q)
/-- what a call leaves: what it made is frozen or forgotten, where that can be -/
def gcO (n : Nat) (t : T) (μ : Mu) : Out T := if μ.length = n then .ok t μ else match frzT μ n 64 t with
  | some u => match mapO (frzO μ n) (μ.take n) with
    | some μ' => .ok u μ'
    | none => .ok t μ
  | none => .ok t μ
theorem mapO_len {α β : Type} {f : α → Option β} : ∀ {as : List α} {bs : List β}, mapO f as = some bs → bs.length = as.length
  | [], _, h => by cases h; rfl
  | a :: as, bs, h => by
    unfold mapO at h
    split at h
    · split at h
      · cases h
        rename_i e
        rw [List.length_cons, List.length_cons, mapO_len e]
      · cases h
    · cases h
theorem mapO_get {α β : Type} {f : α → Option β} : ∀ {as : List α} {bs : List β} {i : Nat} {b : β}, mapO f as = some bs → bs[i]? = some b → ∃ a, as[i]? = some a ∧ f a = some b
  | [], _, _, _, h, e => by cases h; simp at e
  | a :: as, bs, i, b, h, e => by
    unfold mapO at h
    split at h
    · rename_i b1 e1
      split at h
      · rename_i bs1 e2
        cases h
        cases i with
        | zero => simp at e; subst e; exact ⟨a, rfl, e1⟩
        | succ i =>
          obtain ⟨a', h1, h2⟩ := mapO_get e2 (by simpa using e)
          exact ⟨a', by simpa using h1, h2⟩
      · cases h
    · cases h
/-- the world with its store cut at n, the lists behind it frozen -/
def Wd.cut (W : Wd) (H : Hp) (n : Nat) : Wd := { G := W.G, F := fun a => W.F a ∨ ((∃ i, n ≤ i ∧ W.e[i]? = some a) ∧ NT (H a)), e := W.e.take n }
theorem rpL_mapO {K : PySem.W.Frag} {H : Hp} {W W' : Wd} {f : T → Option T} (hf : ∀ t u v, f t = some u → Rp K H W t v → Rp K H W' u v) : ∀ {ts us : List T} {vs : List V}, mapO f ts = some us → RpL K H W ts vs → RpL K H W' us vs
  | [], us, _, h, r => by cases h; cases r; exact .nil
  | t :: ts, us, _, h, r => by
    unfold mapO at h
    split at h
    · rename_i u e1
      split at h
      · rename_i us1 e2
        cases h
        cases r with
        | cons r1 r2 => exact .cons (hf _ _ _ e1 r1) (rpL_mapO hf e2 r2)
      · cases h
    · cases h
theorem frzT_ok {K : PySem.W.Frag} {H : Hp} {W : Wd} {μ : Mu} {n : Nat} (k : Ok K H W μ) : ∀ (d : Nat) {t u : T} {v : V}, frzT μ n d t = some u → Rp K H W t v → Rp K H (W.cut H n) u v
  | 0, _, _, _, h, _ => by cases h
  | d + 1, t, u, v, h, r => by
    have ih := fun t u v => frzT_ok (n := n) k d (t := t) (u := u) (v := v)
    cases t with
    | non => cases h; cases r; exact .non
    | bl b => cases h; cases r; exact .bl b
    | int i => cases h; cases r; exact .int i
    | str x => cases h; cases r; exact .str x
    | ty s => cases h; cases r; exact .ty s
    | ref a => cases h; cases r; exact .ref a
    | tup ts =>
      unfold frzT at h
      split at h
      · rename_i us e
        cases h
        cases r with
        | tup h1 h2 => exact .tup h1 (rpL_mapO ih e h2)
      · cases h
    | lst ts =>
      unfold frzT at h
      split at h
      · rename_i us e
        cases h
        cases r with
        | lst h1 h2 => exact .lst ⟨.inl h1.1, h1.2⟩ (rpL_mapO ih e h2)
      · cases h
    | lam q ps b sc => cases h; cases r with
      | lam h1 h2 => exact .lam h1 h2
    | kls ts =>
      unfold frzT at h
      split at h
      · rename_i us e
        cases h
        cases r with
        | kls h1 h2 => exact .kls h1 (rpL_mapO ih e h2)
      · cases h
    | dic ks ts =>
      unfold frzT at h
      split at h
      · rename_i us e
        cases h
        cases r with
        | dic h1 h2 h3 h4 => exact .dic (.inl h1) h2 h3 (rpL_mapO ih e h4)
      · cases h
    | mr i =>
      unfold frzT at h
      cases r with
      | @mr _ a hi =>
        by_cases hlt : Nat.blt i n = true
        · rw [if_pos hlt] at h
          cases h
          refine .mr ?_
          show (W.e.take n)[i]? = some a
          rw [List.getElem?_take_of_lt (Nat.le_of_ble_eq_true hlt)]
          exact hi
        · rw [if_neg hlt] at h
          split at h
          · rename_i ts e
            split at h
            · rename_i us e2
              cases h
              obtain ⟨vs, q1, q2⟩ := k.ob i a _ hi e
              exact .lst ⟨.inr ⟨⟨i, Nat.le_of_not_lt fun z => hlt (Nat.ble_eq_true_of_le z), hi⟩, by rw [q1]; exact NT.lst⟩, q1⟩ (rpL_mapO ih e2 q2)
            · cases h
          · cases h
theorem gc_ok {K : PySem.W.Frag} {H0 H : Hp} {W0 W : Wd} {μ : Mu} {t : T} {v : V} {Q : VK} {n : Nat} (hn : W0.e.length = n) (f : Fr H0 W0 H W) (k : Ok K H W μ) (r : Rp K H W t v) (q : PoE K H0 W0 Q (gcO n t μ)) : Q v H := by
  unfold gcO at q
  have plain : PoE K H0 W0 Q (.ok t μ) → Q v H := fun q => q H W v f k r
  split at q
  · exact plain q
  · split at q
    · rename_i u e1
      split at q
      · rename_i μ' e2
        have lens : μ'.length = (μ.take n).length := mapO_len e2
        have ndt : (W.e.take n).Nodup := k.nd.sublist (List.take_sublist _ _)
        -- an address behind n does not lie ahead of it
        have apart : ∀ a i, n ≤ i → W.e[i]? = some a → a ∉ W.e.take n := fun a i hi h1 h2 => by
          obtain ⟨j, hj⟩ := List.mem_iff_getElem?.mp h2
          have hjl : j < (W.e.take n).length := (List.getElem?_eq_some_iff.mp hj).1
          rw [List.length_take] at hjl
          rw [List.getElem?_take_of_lt (by omega)] at hj
          obtain ⟨l1, g1⟩ := List.getElem?_eq_some_iff.mp h1
          obtain ⟨l2, g2⟩ := List.getElem?_eq_some_iff.mp hj
          have := (List.getElem_inj k.nd).mp (g1.trans g2.symm)
          omega
        have fr : Rf H0 W0 H (W.cut H n) := by
          refine ⟨fun a h => ⟨.inl (f.fz a h).1, (f.fz a h).2⟩, f.tp, f.kn, fun i a h => ?_, f.ex⟩
          show (W.e.take n)[i]? = some a
          have hi : i < n := by rw [← hn]; exact (List.getElem?_eq_some_iff.mp h).1
          rw [List.getElem?_take_of_lt hi]
          exact f.et i a h
        refine q H (W.cut H n) v ⟨fr, f.gg, f.gz⟩ ⟨?_, ndt, fun a ha => ⟨fun h => ?_, ?_⟩, fun a h => ?_, k.gk, fun i a o h1 h2 => ?_⟩ (frzT_ok k 64 e1 r)
        · show (W.e.take n).length = μ'.length
          rw [lens, List.length_take, List.length_take, k.len]
        · have hm : a ∈ W.e := List.mem_of_mem_take ha
          rcases h with h | ⟨⟨i, hi, h⟩, _⟩
          · exact (k.nf a hm).1 h
          · exact apart a i hi h ha
        · exact (k.nf a (List.mem_of_mem_take ha)).2
        · rcases h with h | ⟨⟨i, hi, h⟩, hn⟩
          · exact k.fk a h
          · exact ⟨hn, (k.nf a (List.mem_of_getElem? h)).2⟩
        · have h1 : (W.e.take n)[i]? = some a := h1
          have hil : i < n := by
            have := (List.getElem?_eq_some_iff.mp h1).1
            rw [List.length_take] at this
            omega
          rw [List.getElem?_take_of_lt hil] at h1
          obtain ⟨o', g1, g2⟩ := mapO_get e2 h2
          rw [List.getElem?_take_of_lt hil] at g1
          have ob := k.ob i a o' h1 g1
          cases o' with
          | dead =>
            have g2 : some MO.dead = some o := g2
            cases g2
            exact ob
          | tab P q =>
            have g2 : some (MO.tab P q) = some o := g2
            cases g2
            exact ob
          | lst ts =>
            have g2 : (mapO (frzT μ n 64) ts).map MO.lst = some o := g2
            obtain ⟨us, e3, e4⟩ := Option.map_eq_some_iff.mp g2
            subst e4
            obtain ⟨vs, q1, q2⟩ := ob
            exact ⟨vs, q1, rpL_mapO (fun t u v h r => frzT_ok k 64 h r) e3 q2⟩
      · exact plain q
    · exact plain q
/-- a def's answer from its body's -/
def endO (o : Out Flo) : Out T := match o with
  | .ok (.nx _) μ => .ok .non μ
  | .ok (.rt t) μ => .ok t μ
  | _ => .bad
def startR (n : Nat) (ts : List T) : Rho := ts.map some ++ List.replicate (n - ts.length) none
def fnM (n : Nat) (mb : MS) : GL := fun ts μ => (endO (mb (startR n ts) μ)).bind (gcO μ.length)
/-- .. where what was made is not to be frozen -/
def fnK (n : Nat) (mb : MS) : GL := fun ts μ => endO (mb (startR n ts) μ)
theorem rpSt_start {K : PySem.W.Frag} {H : Hp} {W : Wd} {N : List Str} {ts : List T} {vs : List V} {n : Nat} (hn : N.length = n) (r : RpL K H W ts vs) : RpSt K H W (L2.start N vs) (startR n ts) := by
  subst hn
  have hl := r.length
  refine ⟨?_, fun i t h => ?_⟩
  · unfold L2.start startR
    rw [List.length_append, List.length_append, List.length_map, List.length_map, List.length_replicate, List.length_replicate, hl]
  · unfold startR at h
    by_cases hi : i < ts.length
    · rw [List.getElem?_append_left (by rw [List.length_map]; exact hi), List.getElem?_map] at h
      cases e : ts[i]? with
      | none => rw [e] at h; cases h
      | some u =>
        rw [e] at h
        cases h
        obtain ⟨v, h1, h2⟩ := r.get e
        refine ⟨v, ?_, h2⟩
        unfold L2.start
        rw [List.getElem?_append_left (by rw [List.length_map]; omega), List.getElem?_map, h1] <;> rfl
    · rw [List.getElem?_append_right (by rw [List.length_map]; omega), List.getElem?_replicate] at h
      split at h <;> cases h
theorem PoS.endO {K : PySem.W.Frag} {H : Hp} {W : Wd} {Q : VK} {o : Out Flo} (q : PoE K H W Q (endO o)) : PoS K H W { nx := fun _ H' => Q .non H', rt := Q } o := by
  cases o with
  | ok a m =>
    cases a with
    | nx ρ => exact fun H' W' σ' f k st => q H' W' .non f k .non
    | rt t => exact fun H' W' v f k r => q H' W' v f k r
    | bk ρ => exact q.elim
    | ct ρ => exact q.elim
  | bad => exact q.elim
/-- a body with the ends of a def -/
theorem body_K {K : PySem.W.Frag} {N : List Str} {n k : Nat} {mb : MS} (hn : N.length = n) {vs : List V} {H : Hp} {Q : VK} {E : XK} (h : spM K k (fnK n mb) vs H Q E) : tMS K mb { nx := fun _ H' => Q .non H', rt := Q } (L2.start N vs) H := by
  obtain ⟨_, W, μ, ts, k, r, q⟩ := h
  exact ⟨W, startR n ts, μ, k, rpSt_start hn r, PoS.endO q⟩
theorem body_M {K : PySem.W.Frag} {N : List Str} {n k : Nat} {mb : MS} (hn : N.length = n) {vs : List V} {H : Hp} {Q : VK} {E : XK} (h : spM K k (fnM n mb) vs H Q E) : tMS K mb { nx := fun _ H' => Q .non H', rt := Q } (L2.start N vs) H := by
  obtain ⟨_, W, μ, ts, k, r, q⟩ := h
  refine ⟨W, startR n ts, μ, k, rpSt_start hn r, PoS.endO ?_⟩
  have q : PoE K H W Q ((endO (mb (startR n ts) μ)).bind (gcO μ.length)) := q
  cases e : endO (mb (startR n ts) μ) with
  | bad => rw [e] at q; exact q.elim
  | ok t μ1 =>
    rw [e] at q
    exact fun H' W' v f k' r' => gc_ok k.len f k' r' q
/-- the def's contract: m is what it is worth -/
abbrev DefM (P : Program) (w : World) (K : PySem.W.Frag) (mg : Str → Option Value) (base : Heap) (k : Nat) (f : Addr) (fd : FuncData) (ps : List Str) (m : GL) : Prop := FnG P w K mg base CX0 k f fd ps (spM K ps.length m)
theorem spM_len {K : PySem.W.Frag} {n : Nat} {m : GL} : ∀ vs H Q E, spM K n m vs H Q E → vs.length = n := fun _ _ _ _ h => h.1
section
variable {X : Cx} {k : Nat} {f : Addr} {fd : FuncData} {ps : List Str} {x : Str} {p pos : Pos} {e : Expr} {es : List Expr} {m : GL} {ma : MA} {tds : List T} {dvs : List V} {ds : List Value}
/-- f(e, ..): tds the defaults that fill up -/
def mCall (m : GL) (tds : List T) (ma : MA) : ME := fun ρ μ => (ma ρ μ).bind fun ts μ1 => m (ts ++ tds) μ1
theorem tCall_M {K : PySem.W.Frag} (hl : dvs.length = tds.length) (hT : ∀ H W, RpL K H W tds dvs) (hn : ∀ ts μ, m ts μ ≠ .bad → ts.length = ps.length) : ∀ σ H Q, tM K (mCall m tds ma) σ H Q → tCall (spM K ps.length m) dvs E0 (tMA K ma) σ H Q := fun σ H Q ⟨W, ρ, μ, k, st, q⟩ =>
  ⟨W, ρ, μ, k, st, Po.bind (R := RpL K) (R' := Rp K) q fun ts μ1 _ H1 W1 vs f1 k1 r1 q1 => by
    have rr := r1.append (hT H1 W1)
    refine ⟨?_, W1, μ1, ts ++ tds, k1, rr, q1⟩
    rw [← rr.length]
    refine hn _ μ1 fun z => ?_
    rw [z] at q1
    exact q1.elim⟩
theorem Po.spM {K : PySem.W.Frag} {H : Hp} {W : Wd} {Q : VK} {ts : List T} {vs : List V} {μ : Mu} {n : Nat} {E : XK} (hn : m ts μ ≠ .bad → ts.length = n) (k : Ok K H W μ) (r : RpL K H W ts vs) (q : PoE K H W Q (m ts μ)) : spM K n m vs H Q E := by
  refine ⟨?_, W, μ, ts, k, r, q⟩
  rw [← r.length]
  refine hn fun z => ?_
  rw [z] at q
  exact q
/-- the arity of a worth -/
def Ar (n : Nat) (m : GL) : Prop := ∀ ts μ, m ts μ ≠ .bad → ts.length = n
def arO (n : Nat) (m : GL) : GL := fun ts μ => if ts.length = n then m ts μ else .bad
theorem arO_ar (n : Nat) (m : GL) : Ar n (arO n m) := fun ts μ h => by
  unfold arO at h
  split at h
  · assumption
  · exact absurd rfl h
theorem je_call (F : DefM X.prog X.w X.K X.mg X.base k f fd ps m) (har : Ar ps.length m) (hG : X.A.guards = some []) (hr : Room k X.A) (hg : Gl X x) (hm : X.mg x = some (.ref f)) (hk : PySem.W.keepIn X.K (.ref f) = true) (hb : Binds X.K fd ps ds) (hd : Vals dvs ds) (hT : ∀ H W, RpL X.K H W tds dvs)
    (ha : JA X (e :: es) ma) (hdb : (x == ("__debug__" : Str)) = false := by decide) (he : starEach (e :: es) X.env = (false, eval e X.env) :: starEach es X.env := by rfl) (hpl : (backTo pos (starEach es X.env)).any (·.1) = false := by rfl) :
    JE X (.Call (.Name x p) (e :: es) [] pos) (mCall m tds ma) := PE_imp (pe_callG F hG hr hg hm hk hb hd pass0 ha hdb he hpl) fun σ H Q ⟨W, ρ, μ, k, st, q⟩ =>
  ⟨W, ρ, μ, k, st, Po.bind (R := RpL X.K) (R' := Rp X.K) q fun ts μ1 _ H1 W1 vs f1 k1 r1 q1 => Po.spM (har _ _) k1 (r1.append (hT H1 W1)) q1⟩
theorem je_call0 (F : DefM X.prog X.w X.K X.mg X.base k f fd ps m) (har : Ar ps.length m) (hG : X.A.guards = some []) (hr : Room k X.A) (hg : Gl X x) (hm : X.mg x = some (.ref f)) (hk : PySem.W.keepIn X.K (.ref f) = true) (hb : Binds X.K fd ps ds) (hd : Vals dvs ds) (hT : ∀ H W, RpL X.K H W tds dvs)
    (hdb : (x == ("__debug__" : Str)) = false := by decide) : JE X (.Call (.Name x p) [] [] pos) (mCall m tds mNil) := PE_imp (pe_callG0 F hG hr hg hm hk hb hd pass0 hdb) fun σ H Q ⟨W, ρ, μ, k, st, q⟩ =>
  Po.spM (K := X.K) (E := E0) (har _ _) k (RpL.append .nil (hT H W)) q
/-! keywords -/
def pickL {α : Type} (ix : List Nat) (l : List α) : List α := ix.filterMap fun i => l[i]?
theorem Vals.pick {vs : List V} {us : List Value} (r : Vals vs us) : ∀ ix : List Nat, Vals (pickL ix vs) (pickL ix us)
  | [] => .nil
  | i :: ix => by
    have ih := Vals.pick r ix
    unfold pickL at ih ⊢
    rw [List.filterMap_cons, List.filterMap_cons]
    cases h : vs[i]? with
    | none =>
      rw [r.none_of h]
      exact ih
    | some v =>
      obtain ⟨u, h1, h2⟩ := r.get h
      rw [h1]
      exact .cons h2 ih
theorem RpL.pick {K : PySem.W.Frag} {H : Hp} {W : Wd} {ts : List T} {vs : List V} (r : RpL K H W ts vs) : ∀ ix : List Nat, RpL K H W (pickL ix ts) (pickL ix vs)
  | [] => .nil
  | i :: ix => by
    have ih := RpL.pick r ix
    unfold pickL at ih ⊢
    rw [List.filterMap_cons, List.filterMap_cons]
    cases h : ts[i]? with
    | none =>
      have : vs[i]? = none := by
        have h1 := List.getElem?_eq_none_iff.mp h
        rw [r.length] at h1
        exact List.getElem?_eq_none_iff.mpr h1
      rw [this]
      exact ih
    | some t =>
      obtain ⟨v, h1, h2⟩ := r.get h
      rw [h1]
      exact .cons h2 ih
/-- a def without defaults called with keywords: ix puts positional and keywords' values in the parameters' order -/
theorem kbn_ix {K : PySem.W.Frag} {xx qual : Str} {params : Arguments} {body : List Stmt} {scope : Scope} (F : FunD K xx qual params body scope [] [] f fd) (n : Nat) (ks : List Str) (ix : List Nat)
    (h : ∀ (kV doc pm : Value) (an : Option Addr) (cdv ct : Value) (us ws : List Value), us.length = n → ws.length = ks.length → bindArgs (PySem.W.fnOf xx qual params body scope .none kV doc pm an cdv ct) ⟨us, ks.zip ws⟩ = pure (ps.zip (pickL ix (us ++ ws)))) :
    KBn K fd ps n ks (fun us ws => pickL ix (us ++ ws)) (fun vs zs => pickL ix (vs ++ zs)) := by
  obtain ⟨oc, od, dV, kV, doc, pm, an, cdv, ct, osl, rfl, lk, hcd, hD, hK⟩ := F.ex
  rcases hD with ⟨_, rfl⟩ | ⟨e, _⟩
  · exact ⟨fun s us ws X l1 l2 => .of_eq (h kV doc pm an cdv ct us ws l1 l2), fun r1 r2 => Vals.pick (r1.append r2) ix⟩
  · exact absurd rfl e
abbrev JK (X : Cx) (kws : List Keyword) (m : MA) : Prop := PK X kws (tMA X.K m)
theorem PK_imp {X : Cx} {e : List Keyword} {t t' : TA} (h : PK X e t) (hi : ∀ σ H Q, t' σ H Q → t σ H Q) : PK X e t' := ⟨fun pos pins s σ H Q I q => h.run pos pins s σ H Q I (hi σ H Q q)⟩
theorem jk_nil : JK X [] mNil := PK_imp pk_nil fun σ H Q ⟨W, ρ, μ, k, st, q⟩ => Po.go (R := RpL X.K) q Fr.refl k .nil
theorem jk_cons {nm : Option Str} {kpos : Pos} {kws : List Keyword} {me : ME} {r : MA} (ha : JE X e me) (hr : JK X kws r) : JK X (⟨nm, e, kpos⟩ :: kws) (mCons me r) :=
  PK_imp (pk_cons ha hr) fun σ H Q ⟨W, ρ, μ, k, st, q⟩ => ⟨W, ρ, μ, k, st, Po.bind (R := Rp X.K) q fun t μ1 _ H1 W1 v f1 k1 r1 q1 =>
    ⟨W1, ρ, μ1, k1, st.fr f1, Po.bind (R := RpL X.K) q1 fun ts μ2 _ H2 W2 vs f2 k2 r2 q2 => Po.go (R := RpL X.K) q2 Fr.refl k2 (.cons (r1.fr f2) r2)⟩⟩
def mCallK (n l : Nat) (ix : List Nat) (m : GL) (ma mk : MA) : ME := fun ρ μ => (ma ρ μ).bind fun ts μ1 => (mk ρ μ1).bind fun us μ2 => if ts.length = n ∧ us.length = l then m (pickL ix (ts ++ us)) μ2 else .bad
theorem tCallK_M {K : PySem.W.Frag} {n l : Nat} {ix : List Nat} {mk : MA} (har : Ar ps.length m) : ∀ σ H Q, tM K (mCallK n l ix m ma mk) σ H Q → tCallN n l (spM K ps.length m) (fun vs zs => pickL ix (vs ++ zs)) E0 (tMA K ma) (tMA K mk) σ H Q := fun σ H Q ⟨W, ρ, μ, k, st, q⟩ =>
  ⟨W, ρ, μ, k, st, Po.bind (R := RpL K) (R' := Rp K) q fun ts μ1 _ H1 W1 vs f1 k1 r1 q1 => ⟨W1, ρ, μ1, k1, st.fr f1, Po.bind (R := RpL K) (R' := Rp K) q1 fun us μ2 _ H2 W2 zs f2 k2 r2 q2 => by
    split at q2
    · rename_i hh
      exact ⟨(r1.length.symm.trans hh.1), (r2.length.symm.trans hh.2), Po.spM (har _ _) k2 (((r1.fr f2).append r2).pick ix) q2⟩
    · exact q2.elim⟩⟩
theorem je_callK {n : Nat} {ks : List Str} {ix : List Nat} {kws : List Keyword} {mk : MA} (F : DefM X.prog X.w X.K X.mg X.base k f fd ps m) (har : Ar ps.length m) (hG : X.A.guards = some []) (hr : Room k X.A) (hg : Gl X x) (hm : X.mg x = some (.ref f)) (hk : PySem.W.keepIn X.K (.ref f) = true)
    (hb : KBn X.K fd ps n ks (fun us ws => pickL ix (us ++ ws)) (fun vs zs => pickL ix (vs ++ zs))) (ha : JA X (e :: es) ma) (hkw : JK X kws mk) (hall : (backToKw pos (keywordEach kws X.env)).all (·.1.isSome) = true := by rfl) (hks : (backToKw pos (keywordEach kws X.env)).filterMap (·.1) = ks := by rfl)
    (hdb : (x == ("__debug__" : Str)) = false := by decide) (he : starEach (e :: es) X.env = (false, eval e X.env) :: starEach es X.env := by rfl) (hpl : ((backTo pos (starEach (e :: es) X.env)).any (·.1) || (backToKw pos (keywordEach kws X.env)).any (·.1.isNone)) = false := by rfl) :
    JE X (.Call (.Name x p) (e :: es) kws pos) (mCallK n ks.length ix m ma mk) := PE_imp (pe_callKG F hG hr hg hm hk hb pass0 ha hkw hall hks hdb he hpl) (tCallK_M har)
theorem je_callK0 {ks : List Str} {ix : List Nat} {kws : List Keyword} {mk : MA} (F : DefM X.prog X.w X.K X.mg X.base k f fd ps m) (har : Ar ps.length m) (hG : X.A.guards = some []) (hr : Room k X.A) (hg : Gl X x) (hm : X.mg x = some (.ref f)) (hk : PySem.W.keepIn X.K (.ref f) = true)
    (hb : KBn X.K fd ps 0 ks (fun us ws => pickL ix (us ++ ws)) (fun vs zs => pickL ix (vs ++ zs))) (hkw : JK X kws mk) (hall : (backToKw pos (keywordEach kws X.env)).all (·.1.isSome) = true := by rfl) (hks : (backToKw pos (keywordEach kws X.env)).filterMap (·.1) = ks := by rfl)
    (hdb : (x == ("__debug__" : Str)) = false := by decide) (hpl : ((backTo pos (starEach [] X.env)).any (·.1) || (backToKw pos (keywordEach kws X.env)).any (·.1.isNone)) = false := by rfl) :
    JE X (.Call (.Name x p) [] kws pos) (mCallK 0 ks.length ix m mNil mk) := PE_imp (pe_callKG0 F hG hr hg hm hk hb pass0 hkw hall hks hdb hpl) fun σ H Q h => by
  obtain ⟨W, ρ, μ, k, st, q⟩ := tCallK_M (K := X.K) (ps := ps) har σ H Q h
  exact Po.go (R := RpL X.K) q Fr.refl k .nil
end
end Mr

namespace Mr
open PySem PySem.Spec PyProof.Rows L2

/-! ### a list that was just laid: frozen, or in the store -/
def Lays (fin : List T → Mu → Out T) : Prop := ∀ (K : PySem.W.Frag) (H : Hp) (W : Wd) (μ : Mu) (Q : VK) (ts : List T) (vs : List V), Ok K H W μ → RpL K H W ts vs → PoE K H W Q (fin ts μ) → ∀ p, H p = none → Q (.ref p) (upd H p (.lst vs))
theorem lays_fz : Lays fzT := fun _ _ _ _ _ _ _ k r q => Po.lst k r q
theorem lays_mu : Lays muT := fun _ _ _ _ _ _ _ k r q => Po.lstM k r q
/-- the list behind a tree that may be read as a tracked list -/
def asTr (μ : Mu) : T → Option (List T)
  | .lst ts => some ts
  | .mr i => match μ[i]? with
    | some (.lst ts) => some ts
    | _ => none
  | _ => none
theorem asTr_trk {K : PySem.W.Frag} {H : Hp} {W : Wd} {μ : Mu} {t : T} {ts : List T} {v : V} (k : Ok K H W μ) (r : Rp K H W t v) (h : asTr μ t = some ts) : ∃ a vs, v = .ref a ∧ H a = some (.lst vs) ∧ RpL K H W ts vs := by
  cases t with
  | lst us =>
    cases h
    cases r with
    | lst h1 h2 => exact ⟨_, _, rfl, h1.2, h2⟩
  | mr i =>
    cases r with
    | @mr _ a h1 =>
      have h' : (match μ[i]? with
        | some (.lst ts) => some ts
        | _ => none) = some ts := h
      cases hm : μ[i]? with
      | none => rw [hm] at h'; cases h'
      | some o =>
        rw [hm] at h'
        cases o with
        | lst us =>
          cases h'
          obtain ⟨vs, q1, q2⟩ := k.ob i a _ h1 hm
          exact ⟨a, vs, rfl, q1, q2⟩
        | dead => cases h'
        | tab P q => cases h'
  | _ => cases h
/-- .. as any list -/
def asLst (μ : Mu) : T → Option (List T)
  | .lst ts => some ts
  | .kls ts => some ts
  | .mr i => match μ[i]? with
    | some (.lst ts) => some ts
    | _ => none
  | _ => none
theorem asLst_sq {K : PySem.W.Frag} {H : Hp} {W : Wd} {μ : Mu} {t : T} {ts : List T} {v : V} (k : Ok K H W μ) (r : Rp K H W t v) (h : asLst μ t = some ts) : ∃ a vs, v = .ref a ∧ SqL K H a vs ∧ RpL K H W ts vs := by
  cases t with
  | lst us =>
    cases h
    cases r with
    | lst h1 h2 => exact ⟨_, _, rfl, h1.sq, h2⟩
  | kls us =>
    cases h
    cases r with
    | kls h1 h2 => exact ⟨_, _, rfl, h1.sq, h2⟩
  | mr i =>
    obtain ⟨a, vs, e1, e2, e3⟩ := asTr_trk (t := .mr i) k r h
    exact ⟨a, vs, e1, .inl (.inl e2), e3⟩
  | _ => cases h

/-! ### arithmetic -/
def gAdd (fin : List T → Mu → Out T) : G2 := fun x y μ => match x, y with
  | .int i, .int j => .ok (.int (i + j)) μ
  | .int i, .bl b => .ok (.int (i + b2i b)) μ
  | .str a, .str b => if Nat.ble (a.length + b.length) 100000 = true then .ok (.str (a ++ b)) μ else .bad
  | .tup a, .tup b => if few (a ++ b) = true then .ok (.tup (a ++ b)) μ else .bad
  | x, y => match asTr μ x, asTr μ y with
    | some a, some b => if few (a ++ b) = true then fin (a ++ b) μ else .bad
    | _, _ => .bad
section
variable {X : Cx} {K : PySem.W.Frag} {H : Hp} {W : Wd}
theorem RpL.nil_iff {ts : List T} {vs : List V} (r : RpL K H W ts vs) : vs = [] ↔ ts = [] := by
  cases r <;> simp
theorem oAdd {fin : List T → Mu → Out T} (hf : Lays fin) : OpR X (binaryOp .Add) (rM X.K (gAdd fin)) := by
  intro pins s σ H x y v u Q I rx ry ⟨W, μ, tx, ty, k, r1, r2, q⟩
  have lists : ∀ tx ty, Rp X.K H W tx x → Rp X.K H W ty y → PoE X.K H W Q (match asTr μ tx, asTr μ ty with
    | some a, some b => if few (a ++ b) = true then fin (a ++ b) μ else .bad
    | _, _ => .bad) → wpAny (model X.prog X.w) X.A (binaryOp .Add v u) (EP X pins σ Q) X.xe s := fun tx ty r1 r2 q => by
    cases h1 : asTr μ tx with
    | none => rw [h1] at q; exact q.elim
    | some a =>
      cases h2 : asTr μ ty with
      | none => rw [h1, h2] at q; exact q.elim
      | some b =>
        rw [h1, h2] at q
        have q : PoE X.K H W Q (if few (a ++ b) = true then fin (a ++ b) μ else .bad) := q
        split at q
        · rename_i hh
          obtain ⟨p1, v1, rfl, e1, l1⟩ := asTr_trk k r1 h1
          obtain ⟨p2, v2, rfl, e2, l2⟩ := asTr_trk k r2 h2
          have hl := few_le hh
          rw [List.length_append, l1.length, l2.length] at hl
          exact op_cat pins s σ H _ _ v u Q I rx ry ⟨p1, p2, v1, v2, rfl, rfl, e1, e2, hl, hf X.K H W μ Q _ _ k (l1.append l2) q⟩
        · exact q.elim
  unfold gAdd at q
  split at q
  · cases r1; cases r2
    exact op_add pins s σ H _ _ v u Q I rx ry ⟨_, _, rfl, rfl, Po.go (R := Rp X.K) q Fr.refl k (.int _)⟩
  · cases r1; cases r2
    exact op_add_ib pins s σ H _ _ v u Q I rx ry ⟨_, _, rfl, rfl, Po.go (R := Rp X.K) q Fr.refl k (.int _)⟩
  · split at q
    · rename_i a b hh
      cases r1; cases r2
      have hl := Nat.le_of_ble_eq_true hh
      refine op_add_str pins s σ H _ _ v u Q I rx ry ⟨_, _, rfl, rfl, ?_, ?_⟩
      · show a.toArray.size + b.toArray.size ≤ sizeLine
        rw [List.size_toArray, List.size_toArray, sizeLine_eq]; omega
      · have e : (⟨a.toArray⟩ ++ ⟨b.toArray⟩ : Str) = ⟨(a ++ b).toArray⟩ := by
          show (⟨a.toArray ++ b.toArray⟩ : Str) = _
          simp
        rw [e]
        exact Po.go (R := Rp X.K) q Fr.refl k (.str _)
    · exact q.elim
  · split at q
    · rename_i a b hh
      cases r1 with
      | tup h1 l1 =>
        cases r2 with
        | tup h2 l2 =>
          have hl := few_le hh
          rw [List.length_append, l1.length, l2.length] at hl
          refine op_catA pins s σ H _ _ v u Q I rx ry ⟨_, _, _, _, rfl, rfl, h1, h2, hl, fun z => ?_, fun _ z => ?_, fun _ _ => ?_⟩
          · rw [l1.nil_iff] at z; subst z
            exact Po.go (R := Rp X.K) q Fr.refl k (.tup h2 l2)
          · rw [l2.nil_iff] at z; subst z
            rw [List.append_nil] at q
            exact Po.go (R := Rp X.K) q Fr.refl k (.tup h1 l1)
          · exact Po.tup k (l1.append l2) q
    · exact q.elim
  · exact lists _ _ r1 r2 q
def gI (c : Int → Int → Bool) (f : Int → Int → T) : G2 := fun x y μ => match x, y with
  | .int i, .int j => if c i j = true then .ok (f i j) μ else .bad
  | _, _ => .bad
def gI0 (f : Int → Int → T) : G2 := fun x y μ => match x, y with
  | .int i, .int j => .ok (f i j) μ
  | _, _ => .bad
theorem oI {f : Value → Value → Sem Value} {C : Int → Int → Prop} {g : Int → Int → V} {g' : Int → Int → T} {c : Int → Int → Bool} (h : OpR X f (rI C g)) (hc : ∀ i j, c i j = true → C i j) (hg : ∀ K H W i j, Rp K H W (g' i j) (g i j)) :
    OpR X f (rM X.K (gI c g')) := by
  intro pins s σ H x y v u Q I rx ry ⟨W, μ, tx, ty, k, r1, r2, q⟩
  unfold gI at q
  split at q
  · split at q
    · rename_i hh
      cases r1; cases r2
      exact h pins s σ H _ _ v u Q I rx ry ⟨_, _, rfl, rfl, hc _ _ hh, Po.go (R := Rp X.K) q Fr.refl k (hg _ _ _ _ _)⟩
    · exact q.elim
  · exact q.elim
theorem oI0 {f : Value → Value → Sem Value} {g : Int → Int → V} {g' : Int → Int → T} (h : OpR X f (rI0 g)) (hg : ∀ K H W i j, Rp K H W (g' i j) (g i j)) :
    OpR X f (rM X.K (gI0 g')) := by
  intro pins s σ H x y v u Q I rx ry ⟨W, μ, tx, ty, k, r1, r2, q⟩
  unfold gI0 at q
  split at q
  · cases r1; cases r2
    exact h pins s σ H _ _ v u Q I rx ry ⟨_, _, rfl, rfl, Po.go (R := Rp X.K) q Fr.refl k (hg _ _ _ _ _)⟩
  · exact q.elim
def small64 (i : Int) : Bool := Nat.blt i.natAbs 18446744073709551616
def mulOk (i j : Int) : Bool := small64 i || small64 j || Nat.ble (i.natAbs.log2 + j.natAbs.log2) 999999
theorem small64_ok {i : Int} (h : small64 i = true) : -(2 ^ 64) < i ∧ i < 2 ^ 64 := by
  have h3 : i.natAbs < 18446744073709551616 := Nat.le_of_ble_eq_true h
  omega
def divOk (_ j : Int) : Bool := decide (0 < j) && Nat.ble j.natAbs.log2 8999
def modOk (_ j : Int) : Bool := decide (0 < j)
def powOk (i j : Int) : Bool := decide (0 ≤ j) && decide (j ≤ 1000000) && Nat.blt i.natAbs 18446744073709551616
def gSub : G2 := gI0 fun i j => .int (i - j)
def gDiv : G2 := gI divOk fun i j => .int (i / j)
def gMod : G2 := gI modOk fun i j => .int (i % j)
def gPow : G2 := gI powOk fun i j => .int (i ^ j.toNat)
theorem oSub : OpR X (binaryOp .Sub) (rM X.K gSub) := oI0 op_sub fun _ _ _ _ _ => .int _
theorem oDiv : OpR X (binaryOp .FloorDiv) (rM X.K gDiv) := oI op_fdivW (fun i j h => by
  unfold divOk at h
  rw [Bool.and_eq_true, decide_eq_true_eq] at h
  exact ⟨h.1, Nat.lt_succ_of_le (Nat.le_of_ble_eq_true h.2)⟩) fun _ _ _ _ _ => .int _
theorem oMod : OpR X (binaryOp .Mod) (rM X.K gMod) := oI op_mod (fun i j h => by
  unfold modOk at h
  rwa [decide_eq_true_eq] at h) fun _ _ _ _ _ => .int _
theorem oPow : OpR X (binaryOp .Pow) (rM X.K gPow) := oI op_pow (fun i j h => by
  unfold powOk at h
  rw [Bool.and_eq_true, Bool.and_eq_true, decide_eq_true_eq, decide_eq_true_eq] at h
  have h3 : i.natAbs < 18446744073709551616 := Nat.le_of_ble_eq_true h.2
  exact ⟨h.1.1, h.1.2, h3⟩) fun _ _ _ _ _ => .int _
/-- int * int, list * int -/
def gMul (fin : List T → Mu → Out T) : G2 := fun x y μ => match x, y with
  | .int i, .int j => if mulOk i j = true then .ok (.int (i * j)) μ else .bad
  | x, .int k => match asTr μ x with
    | some a => if (Nat.ble (a.length * k.toNat) 1000000 && inR k) = true then fin (List.replicate k.toNat a).flatten μ else .bad
    | none => .bad
  | _, _ => .bad
theorem oMul {fin : List T → Mu → Out T} (hf : Lays fin) : OpR X (binaryOp .Mult) (rM X.K (gMul fin)) := by
  intro pins s σ H x y v u Q I rx ry ⟨W, μ, tx, ty, k, r1, r2, q⟩
  unfold gMul at q
  split at q
  · split at q
    · rename_i hh
      cases r1; cases r2
      have fin := Po.go (R := Rp X.K) q Fr.refl k (.int _)
      unfold mulOk at hh
      rw [Bool.or_eq_true, Bool.or_eq_true] at hh
      rcases hh with (hh | hh) | hh
      · exact op_mul pins s σ H _ _ v u Q I rx ry ⟨_, _, rfl, rfl, .inl (small64_ok hh), fin⟩
      · exact op_mul pins s σ H _ _ v u Q I rx ry ⟨_, _, rfl, rfl, .inr (small64_ok hh), fin⟩
      · exact op_mulW pins s σ H _ _ v u Q I rx ry ⟨_, _, rfl, rfl, Nat.lt_succ_of_le (Nat.le_of_ble_eq_true hh), fin⟩
    · exact q.elim
  · rename_i z _
    split at q
    · rename_i a ha
      split at q
      · rename_i hh
        rw [Bool.and_eq_true] at hh
        cases r2
        obtain ⟨p1, v1, rfl, e1, l1⟩ := asTr_trk k r1 ha
        have hz := Nat.le_of_ble_eq_true hh.1
        obtain ⟨b1, b2⟩ := inR_ok hh.2
        refine op_rep pins s σ H _ _ v u Q I rx ry ⟨p1, _, v1, rfl, rfl, e1, by omega, by omega, ?_, hf X.K H W μ Q _ _ k (l1.flatRep _) q⟩
        rw [← l1.length, sizeLine_eq]
        omega
      · exact q.elim
    · exact q.elim
  · exact q.elim
def gNeg : G1 := fun x μ => match x with
  | .int i => .ok (.int (-i)) μ
  | _ => .bad
theorem uNeg : UnR X (unaryOp .USub) (rMU X.K gNeg) := by
  intro pins s σ H x v Q I rx ⟨W, μ, tx, k, r1, q⟩
  unfold gNeg at q
  split at q
  · cases r1
    exact un_neg pins s σ H _ v Q I rx ⟨_, rfl, Po.go (R := Rp X.K) q Fr.refl k (.int _)⟩
  · exact q.elim

/-! ### comparisons -/
def gLt : G2 := gI0 fun i j => .bl (decide (i < j))
def gLe : G2 := gI0 fun i j => .bl (decide (i ≤ j))
def gGt : G2 := gI0 fun i j => .bl (decide (j < i))
def gGe : G2 := gI0 fun i j => .bl (decide (j ≤ i))
theorem oLt : OpR X (compareOp .Lt) (rM X.K gLt) := oI0 op_lt fun _ _ _ _ _ => .bl _
theorem oLe : OpR X (compareOp .LtE) (rM X.K gLe) := oI0 op_le fun _ _ _ _ _ => .bl _
theorem oGt : OpR X (compareOp .Gt) (rM X.K gGt) := oI0 op_gt fun _ _ _ _ _ => .bl _
theorem oGe : OpR X (compareOp .GtE) (rM X.K gGe) := oI0 op_ge fun _ _ _ _ _ => .bl _
/-- the data that a tree is -/
def pyT (μ : Mu) : Nat → T → Option PyData
  | 0, _ => none
  | n + 1, t => match t with
    | .non => some .none
    | .bl b => some (.bool b)
    | .int i => some (.int i)
    | .str x => some (.str ⟨x.toArray⟩)
    | .tup ts => (mapO (pyT μ n) ts).map .tuple
    | .lst ts => (mapO (pyT μ n) ts).map .list
    | .kls ts => (mapO (pyT μ n) ts).map .list
    | .mr i => match μ[i]? with
      | some (.lst ts) => (mapO (pyT μ n) ts).map .list
      | _ => none
    | _ => none
theorem dpAll_mapO {f : T → Option PyData} (hf : ∀ t d v, f t = some d → Rp K H W t v → Dp K H v d) : ∀ {ts : List T} {ds : List PyData} {vs : List V}, mapO f ts = some ds → RpL K H W ts vs → DpAll K H vs ds
  | [], _, _, h, r => by cases h; cases r; exact .nil
  | t :: ts, ds, _, h, r => by
    unfold mapO at h
    split at h
    · rename_i d e1
      split at h
      · rename_i ds1 e2
        cases h
        cases r with
        | cons r1 r2 => exact .cons (hf _ _ _ e1 r1) (dpAll_mapO hf e2 r2)
      · cases h
    · cases h
theorem pyT_dp {μ : Mu} (k : Ok K H W μ) : ∀ (n : Nat) (t : T) (d : PyData) (v : V), pyT μ n t = some d → Rp K H W t v → Dp K H v d
  | 0, _, _, _, h, _ => by cases h
  | n + 1, t, d, v, h, r => by
    have lists : ∀ {ts : List T} {vs : List V} {a : Addr}, (mapO (pyT μ n) ts).map .list = some d → SqL K H a vs → RpL K H W ts vs → Dp K H (.ref a) d := fun {ts vs a} h hs l => by
      obtain ⟨ds, h1, h2⟩ := Option.map_eq_some_iff.mp h
      subst h2
      exact .lst hs (dpAll_mapO (fun t d v h r => pyT_dp k n t d v h r) h1 l)
    cases t with
    | non => cases h; cases r; exact .non
    | bl b => cases h; cases r; exact .bl b
    | int i => cases h; cases r; exact .int i
    | str x => cases h; cases r; exact .str _
    | tup ts =>
      cases r with
      | tup h1 l =>
        obtain ⟨ds, h2, h3⟩ := Option.map_eq_some_iff.mp (show (mapO (pyT μ n) ts).map .tuple = some d from h)
        subst h3
        exact .tup h1 (dpAll_mapO (fun t d v h r => pyT_dp k n t d v h r) h2 l)
    | lst ts =>
      cases r with
      | lst h1 l => exact lists h h1.sq l
    | kls ts =>
      cases r with
      | kls h1 l => exact lists h h1.sq l
    | mr i =>
      cases r with
      | @mr _ a h1 =>
        have h' : (match μ[i]? with
          | some (.lst ts) => (mapO (pyT μ n) ts).map .list
          | _ => none) = some d := h
        cases hm : μ[i]? with
        | none => rw [hm] at h'; cases h'
        | some o =>
          rw [hm] at h'
          cases o with
          | lst us =>
            obtain ⟨vs, q1, q2⟩ := k.ob i a _ h1 hm
            exact lists h' (.inl (.inl q1)) q2
          | dead => cases h'
          | tab P q => cases h'
    | ty n => cases h
    | ref a => cases h
    | dic ks ts => cases h
    | lam q ps b sc => cases h
/-- x == y -/
def eqM (μ : Mu) (x y : T) : Option Bool := match pyT μ 60 x, pyT μ 60 y with
  | some d, some e => if (SeqAt.shaped d && SeqAt.shaped e) = true then some (PyData.eqv d e) else none
  | _, _ => none
def gEq : G2 := fun x y μ => match eqM μ x y with
  | some b => .ok (.bl b) μ
  | none => .bad
def gNe : G2 := fun x y μ => match eqM μ x y with
  | some b => .ok (.bl (!b)) μ
  | none => .bad
theorem eqM_dp {μ : Mu} {x y : T} {v u : V} {b : Bool} (k : Ok K H W μ) (r1 : Rp K H W x v) (r2 : Rp K H W y u) (h : eqM μ x y = some b) : ∃ d e, Dp K H v d ∧ Dp K H u e ∧ SeqAt.shaped d = true ∧ SeqAt.shaped e = true ∧ PyData.eqv d e = b := by
  unfold eqM at h
  split at h
  · rename_i d e h1 h2
    split at h
    · rename_i hh
      rw [Bool.and_eq_true] at hh
      cases h
      exact ⟨d, e, pyT_dp k _ _ _ _ h1 r1, pyT_dp k _ _ _ _ h2 r2, hh.1, hh.2, rfl⟩
    · cases h
  · cases h
theorem oEq (hu : X.A.units + 64 < cLine) : OpR X (compareOp .Eq) (rM X.K gEq) := by
  intro pins s σ H x y v u Q I rx ry ⟨W, μ, tx, ty, k, r1, r2, q⟩
  unfold gEq at q
  split at q
  · rename_i b h
    obtain ⟨d, e, h1, h2, h3, h4, h5⟩ := eqM_dp k r1 r2 h
    exact op_eqD hu pins s σ H _ _ v u Q I rx ry ⟨d, e, h1, h2, h3, h4, by rw [h5]; exact Po.go (R := Rp X.K) q Fr.refl k (.bl _)⟩
  · exact q.elim
theorem oNe (hu : X.A.units + 64 < cLine) : OpR X (compareOp .NotEq) (rM X.K gNe) := by
  intro pins s σ H x y v u Q I rx ry ⟨W, μ, tx, ty, k, r1, r2, q⟩
  unfold gNe at q
  split at q
  · rename_i b h
    obtain ⟨d, e, h1, h2, h3, h4, h5⟩ := eqM_dp k r1 r2 h
    exact op_neD hu pins s σ H _ _ v u Q I rx ry ⟨d, e, h1, h2, h3, h4, by rw [h5]; exact Po.go (R := Rp X.K) q Fr.refl k (.bl _)⟩
  · exact q.elim
/-- x is None, x is True .. -/
def isNon : T → Bool
  | .non => true
  | _ => false
def isO (x y : T) : Option Bool := match x, y with
  | x, .non => some (isNon x)
  | .bl a, .bl b => some (decide (a = b))
  | _, _ => none
def gIs : G2 := fun x y μ => match isO x y with
  | some b => .ok (.bl b) μ
  | none => .bad
def gIsNot : G2 := fun x y μ => match isO x y with
  | some b => .ok (.bl (!b)) μ
  | none => .bad
theorem isNon_v {t : T} {v : V} (r : Rp K H W t v) : decide (v = .non) = isNon t := by
  cases r <;> first | rfl | exact decide_eq_false fun z => nomatch z
theorem oIs : OpR X (compareOp .Is) (rM X.K gIs) := by
  intro pins s σ H x y v u Q I rx ry ⟨W, μ, tx, ty, k, r1, r2, q⟩
  unfold gIs isO at q
  split at q
  · rename_i b h
    split at h
    · cases h
      cases r2
      exact op_isN pins s σ H _ _ v u Q I rx ry ⟨rfl, by rw [isNon_v r1]; exact Po.go (R := Rp X.K) q Fr.refl k (.bl _)⟩
    · cases h
      cases r1; cases r2
      exact op_isBl pins s σ H _ _ v u Q I rx ry ⟨_, _, rfl, rfl, Po.go (R := Rp X.K) q Fr.refl k (.bl _)⟩
    · cases h
  · exact q.elim
theorem oIsNot : OpR X (compareOp .IsNot) (rM X.K gIsNot) := by
  intro pins s σ H x y v u Q I rx ry ⟨W, μ, tx, ty, k, r1, r2, q⟩
  unfold gIsNot isO at q
  split at q
  · rename_i b h
    split at h
    · cases h
      cases r2
      exact op_notN pins s σ H _ _ v u Q I rx ry ⟨rfl, by rw [isNon_v r1]; exact Po.go (R := Rp X.K) q Fr.refl k (.bl _)⟩
    · cases h
      cases r1; cases r2
      exact op_notBl pins s σ H _ _ v u Q I rx ry ⟨_, _, rfl, rfl, Po.go (R := Rp X.K) q Fr.refl k (.bl _)⟩
    · cases h
  · exact q.elim
end
end Mr

namespace Mr
open PySem PySem.Spec PyProof.Rows L2

/-! ### built-in functions by values -/
section
variable {X : Cx} {K : PySem.W.Frag} {H : Hp} {W : Wd}
abbrev JC (X : Cx) (f : Value) (g : GL) : Prop := CallR X f (rML X.K g)
theorem JC.of {X : Cx} {f : Value} {r : List V → Hp → VK → Prop} {g : GL} (h : CallR X f r) (hi : ∀ xs H Q W μ ts, Ok X.K H W μ → RpL X.K H W ts xs → PoE X.K H W Q (g ts μ) → r xs H Q) : JC X f g :=
  fun pins s σ H xs us Q I rs ⟨W, μ, ts, k, r, q⟩ => h pins s σ H xs us Q I rs (hi xs H Q W μ ts k r q)
section
variable {x : Str} {p pos : Pos} {e : Expr} {es : List Expr} {id Ty : String} {g : GL} {ma : MA}
theorem je_callB (hc : JC X (.builtin id) g) (hg : Gl X x) (hm : X.mg x = none) (hv : bootBuiltins x = some (.builtin id)) (ha : JA X (e :: es) ma) (hn : x ≠ "__name__" := by decide) (hdb : (x == ("__debug__" : Str)) = false := by decide)
    (he : starEach (e :: es) X.env = (false, eval e X.env) :: starEach es X.env := by rfl) (hpl : (backTo pos (starEach es X.env)).any (·.1) = false := by rfl) : JE X (.Call (.Name x p) (e :: es) [] pos) (mCl g ma) :=
  PE_imp (pe_callB hc hg hm hv ha hn hdb he hpl) fun σ H Q ⟨W, ρ, μ, k, st, q⟩ => ⟨W, ρ, μ, k, st, Po.bind (R := RpL X.K) (R' := Rp X.K) q fun ts μ1 _ H1 W1 vs f1 k1 r1 q1 => ⟨W1, μ1, ts, k1, r1, q1⟩⟩
theorem je_callT (hc : JC X (.type Ty) g) (hg : Gl X x) (hm : X.mg x = none) (hv : bootBuiltins x = some (.type Ty)) (ha : JA X (e :: es) ma) (hn : x ≠ "__name__" := by decide) (hdb : (x == ("__debug__" : Str)) = false := by decide)
    (he : starEach (e :: es) X.env = (false, eval e X.env) :: starEach es X.env := by rfl) (hpl : (backTo pos (starEach es X.env)).any (·.1) = false := by rfl) : JE X (.Call (.Name x p) (e :: es) [] pos) (mCl g ma) :=
  PE_imp (pe_callTy hc hg hm hv ha hn hdb he hpl) fun σ H Q ⟨W, ρ, μ, k, st, q⟩ => ⟨W, ρ, μ, k, st, Po.bind (R := RpL X.K) (R' := Rp X.K) q fun ts μ1 _ H1 W1 vs f1 k1 r1 q1 => ⟨W1, μ1, ts, k1, r1, q1⟩⟩
/-- a built-in type as a value -/
theorem je_ty (hg : Gl X x) (hm : X.mg x = none) (hv : bootBuiltins x = some (.type Ty)) (hn : x ≠ "__name__" := by decide) (hdb : (x == ("__debug__" : Str)) = false := by decide) : JE X (.Name x p) (mC (.ty Ty)) :=
  je_c (pe_bltn hg hm hv (show RelV (.ty Ty) (.type Ty) from rfl) hn hdb) fun _ _ => .ty _
end
/-! len, abs, int, bool -/
def gLen : GL := fun ts μ => match ts with
  | [.str x] => if Nat.ble x.length 100000 = true then .ok (.int x.length) μ else .bad
  | [t] => match asSeq μ t with
    | some us => .ok (.int us.length) μ
    | none => .bad
  | _ => .bad
theorem cLen : JC X (.builtin "len") gLen := JC.of call_len fun xs H Q W μ ts k r q => by
  unfold gLen at q
  split at q
  · split at q
    · rename_i x hh
      cases r with
      | cons r rl =>
        cases rl; cases r
        exact ⟨_, x.length, rfl, ⟨by show x.toArray.size ≤ sizeLine; rw [List.size_toArray]; exact small_str (Nat.le_of_ble_eq_true hh), by show x.length = x.toArray.size; rw [List.size_toArray]⟩, Po.go (R := Rp X.K) q Fr.refl k (.int _)⟩
    · exact q.elim
  · split at q
    · rename_i us hs
      cases r with
      | cons r rl =>
        cases rl
        obtain ⟨a, vs, rfl, z, l⟩ := asSeq_sq k r hs
        refine ⟨_, vs.length, rfl, ?_, by rw [← l.length]; exact Po.go (R := Rp X.K) q Fr.refl k (.int _)⟩
        rcases z with z | z
        · exact .inl ⟨vs, z, rfl⟩
        · exact .inr ⟨vs, z, rfl⟩
    · exact q.elim
  · exact q.elim
def gAbs : GL := fun ts μ => match ts with
  | [.int i] => .ok (.int (if i < 0 then -i else i)) μ
  | _ => .bad
theorem cAbs : JC X (.builtin "abs") gAbs := JC.of call_abs fun xs H Q W μ ts k r q => by
  unfold gAbs at q
  split at q
  · cases r with
    | cons r rl =>
      cases rl; cases r
      exact ⟨_, rfl, Po.go (R := Rp X.K) q Fr.refl k (.int _)⟩
  · exact q.elim
def gInt : GL := fun ts μ => match ts with
  | [.int i] => .ok (.int i) μ
  | [.bl b] => .ok (.int (if b then 1 else 0)) μ
  | _ => .bad
theorem cInt : JC X (.type "int") gInt := JC.of call_int1 fun xs H Q W μ ts k r q => by
  unfold gInt at q
  split at q
  · cases r with
    | cons r rl =>
      cases rl; cases r
      exact .inl ⟨_, rfl, Po.go (R := Rp X.K) q Fr.refl k (.int _)⟩
  · cases r with
    | cons r rl =>
      cases rl; cases r
      exact .inr ⟨_, rfl, Po.go (R := Rp X.K) q Fr.refl k (.int _)⟩
  · exact q.elim
/-! min, max of two ints, of a list of ints -/
def asInts : List T → Option (List Int)
  | [] => some []
  | .int i :: ts => match asInts ts with
    | some is => some (i :: is)
    | none => none
  | _ => none
def asBls : List T → Option (List Bool)
  | [] => some []
  | .bl i :: ts => match asBls ts with
    | some is => some (i :: is)
    | none => none
  | _ => none
theorem asInts_rp : ∀ {ts : List T} {is : List Int} {vs : List V}, asInts ts = some is → RpL K H W ts vs → vs = is.map V.int
  | [], _, _, h, r => by cases h; cases r; rfl
  | t :: ts, is, _, h, r => by
    cases t with
    | int i =>
      unfold asInts at h
      split at h
      · rename_i js e
        cases h
        cases r with
        | cons r rl =>
          cases r
          rw [asInts_rp e rl] <;> rfl
      · cases h
    | _ => cases h
theorem asBls_rp : ∀ {ts : List T} {is : List Bool} {vs : List V}, asBls ts = some is → RpL K H W ts vs → vs = is.map V.bl
  | [], _, _, h, r => by cases h; cases r; rfl
  | t :: ts, is, _, h, r => by
    cases t with
    | bl i =>
      unfold asBls at h
      split at h
      · rename_i js e
        cases h
        cases r with
        | cons r rl =>
          cases r
          rw [asBls_rp e rl] <;> rfl
      · cases h
    | _ => cases h
def maxI (i j : Int) : Int := if j > i then j else i
def minI (i j : Int) : Int := if j < i then j else i
def gMax : GL := fun ts μ => match ts with
  | [.int i, .int j] => .ok (.int (maxI i j)) μ
  | [t] => match asLst μ t with
    | some us => match asInts us with
      | some (i :: is) => .ok (.int (is.foldl maxI i)) μ
      | _ => .bad
    | none => .bad
  | _ => .bad
def gMin : GL := fun ts μ => match ts with
  | [.int i, .int j] => .ok (.int (minI i j)) μ
  | [t] => match asLst μ t with
    | some us => match asInts us with
      | some (i :: is) => .ok (.int (is.foldl minI i)) μ
      | _ => .bad
    | none => .bad
  | _ => .bad
theorem foldl_maxI : ∀ (is : List Int) (i : Int), (∀ y, y ∈ i :: is → y ≤ is.foldl maxI i) ∧ is.foldl maxI i ∈ i :: is
  | [], i => ⟨fun y h => Int.le_of_eq (List.mem_singleton.mp h), List.mem_cons_self⟩
  | j :: is, i => by
    obtain ⟨h1, h2⟩ := foldl_maxI is (maxI i j)
    have hm : i ≤ maxI i j ∧ j ≤ maxI i j ∧ (maxI i j = i ∨ maxI i j = j) := by
      unfold maxI
      split <;> omega
    refine ⟨fun y hy => ?_, ?_⟩
    · have h0 := h1 (maxI i j) List.mem_cons_self
      rcases List.mem_cons.mp hy with rfl | hy
      · exact Int.le_trans hm.1 h0
      · rcases List.mem_cons.mp hy with rfl | hy
        · exact Int.le_trans hm.2.1 h0
        · exact h1 y (List.mem_cons_of_mem _ hy)
    · show is.foldl maxI (maxI i j) ∈ _
      rcases List.mem_cons.mp h2 with e | h2
      · rw [e]
        rcases hm.2.2 with e | e <;> rw [e] <;> simp
      · exact List.mem_cons_of_mem _ (List.mem_cons_of_mem _ h2)
theorem foldl_minI : ∀ (is : List Int) (i : Int), (∀ y, y ∈ i :: is → is.foldl minI i ≤ y) ∧ is.foldl minI i ∈ i :: is
  | [], i => ⟨fun y h => Int.le_of_eq (List.mem_singleton.mp h).symm, List.mem_cons_self⟩
  | j :: is, i => by
    obtain ⟨h1, h2⟩ := foldl_minI is (minI i j)
    have hm : minI i j ≤ i ∧ minI i j ≤ j ∧ (minI i j = i ∨ minI i j = j) := by
      unfold minI
      split <;> omega
    refine ⟨fun y hy => ?_, ?_⟩
    · have h0 := h1 (minI i j) List.mem_cons_self
      rcases List.mem_cons.mp hy with rfl | hy
      · exact Int.le_trans h0 hm.1
      · rcases List.mem_cons.mp hy with rfl | hy
        · exact Int.le_trans h0 hm.2.1
        · exact h1 y (List.mem_cons_of_mem _ hy)
    · show is.foldl minI (minI i j) ∈ _
      rcases List.mem_cons.mp h2 with e | h2
      · rw [e]
        rcases hm.2.2 with e | e <;> rw [e] <;> simp
      · exact List.mem_cons_of_mem _ (List.mem_cons_of_mem _ h2)
theorem cMax (hc : X.calm = true) : JC X (.builtin "max") gMax := JC.of (CallR.or (call_max2 hc) (cr_max hc)) fun xs H Q W μ ts k r q => by
  unfold gMax at q
  split at q
  · cases r with
    | cons r rl =>
      cases rl with
      | cons r2 rl =>
        cases rl; cases r; cases r2
        exact .inl ⟨_, _, rfl, Po.go (R := Rp X.K) q Fr.refl k (.int _)⟩
  · split at q
    · rename_i us h1
      split at q
      · rename_i i is h2
        cases r with
        | cons r rl =>
          cases rl
          obtain ⟨a, vs, rfl, z, l⟩ := asLst_sq k r h1
          have e := asInts_rp h2 l
          subst e
          obtain ⟨m1, m2⟩ := foldl_maxI is i
          refine .inr ⟨a, _, rfl, z, by simp, fun m h3 h4 => ?_⟩
          have e : m = is.foldl maxI i := Int.le_antisymm (m1 m h3) (h4 _ m2)
          rw [e]
          exact Po.go (R := Rp X.K) q Fr.refl k (.int _)
      · exact q.elim
    · exact q.elim
  · exact q.elim
theorem cMin (hc : X.calm = true) : JC X (.builtin "min") gMin := JC.of (CallR.or (call_min2 hc) (cr_min hc)) fun xs H Q W μ ts k r q => by
  unfold gMin at q
  split at q
  · cases r with
    | cons r rl =>
      cases rl with
      | cons r2 rl =>
        cases rl; cases r; cases r2
        exact .inl ⟨_, _, rfl, Po.go (R := Rp X.K) q Fr.refl k (.int _)⟩
  · split at q
    · rename_i us h1
      split at q
      · rename_i i is h2
        cases r with
        | cons r rl =>
          cases rl
          obtain ⟨a, vs, rfl, z, l⟩ := asLst_sq k r h1
          have e := asInts_rp h2 l
          subst e
          obtain ⟨m1, m2⟩ := foldl_minI is i
          refine .inr ⟨a, _, rfl, z, by simp, fun m h3 h4 => ?_⟩
          have e : m = is.foldl minI i := Int.le_antisymm (h4 _ m2) (m1 m h3)
          rw [e]
          exact Po.go (R := Rp X.K) q Fr.refl k (.int _)
      · exact q.elim
    · exact q.elim
  · exact q.elim
/-! all, any of a list of bools -/
def gAll : GL := fun ts μ => match ts with
  | [t] => match asLst μ t with
    | some us => match asBls us with
      | some bs => .ok (.bl (bs.all id)) μ
      | none => .bad
    | none => .bad
  | _ => .bad
def gAny : GL := fun ts μ => match ts with
  | [t] => match asLst μ t with
    | some us => match asBls us with
      | some bs => .ok (.bl (bs.any id)) μ
      | none => .bad
    | none => .bad
  | _ => .bad
theorem cAll (hc : X.calm = true) : JC X (.builtin "all") gAll := JC.of (cr_all hc) fun xs H Q W μ ts k r q => by
  unfold gAll at q
  split at q
  · split at q
    · rename_i us h1
      split at q
      · rename_i bs h2
        cases r with
        | cons r rl =>
          cases rl
          obtain ⟨a, vs, rfl, z, l⟩ := asLst_sq k r h1
          have e := asBls_rp h2 l
          subst e
          exact ⟨a, _, rfl, z, Po.go (R := Rp X.K) q Fr.refl k (.bl _)⟩
      · exact q.elim
    · exact q.elim
  · exact q.elim
theorem cAny (hc : X.calm = true) : JC X (.builtin "any") gAny := JC.of (cr_any hc) fun xs H Q W μ ts k r q => by
  unfold gAny at q
  split at q
  · split at q
    · rename_i us h1
      split at q
      · rename_i bs h2
        cases r with
        | cons r rl =>
          cases rl
          obtain ⟨a, vs, rfl, z, l⟩ := asLst_sq k r h1
          have e := asBls_rp h2 l
          subst e
          exact ⟨a, _, rfl, z, Po.go (R := Rp X.K) q Fr.refl k (.bl _)⟩
      · exact q.elim
    · exact q.elim
  · exact q.elim
/-! tuple(x), list(x) -/
def gTupOf : GL := fun ts μ => match ts with
  | [.tup us] => .ok (.tup us) μ
  | [t] => match asLst μ t with
    | some us => .ok (.tup us) μ
    | none => .bad
  | _ => .bad
theorem cTup : JC X (.type "tuple") gTupOf := JC.of call_tuple_of fun xs H Q W μ ts k r q => by
  unfold gTupOf at q
  split at q
  · cases r with
    | cons r rl =>
      cases rl
      cases r with
      | tup h1 h2 => exact ⟨_, _, rfl, .inr ⟨h1, Po.go (R := Rp X.K) q Fr.refl k (.tup h1 h2)⟩⟩
  · split at q
    · rename_i us h1
      cases r with
      | cons r rl =>
        cases rl
        obtain ⟨a, vs, rfl, z, l⟩ := asLst_sq k r h1
        exact ⟨_, _, rfl, .inl ⟨z, Po.tup k l q⟩⟩
    · exact q.elim
  · exact q.elim
def gLstOf (fin : List T → Mu → Out T) : GL := fun ts μ => match ts with
  | [t] => match asSeq μ t with
    | some us => fin us μ
    | none => .bad
  | _ => .bad
theorem cLst {fin : List T → Mu → Out T} (hf : Lays fin) : JC X (.type "list") (gLstOf fin) := JC.of call_list_of fun xs H Q W μ ts k r q => by
  unfold gLstOf at q
  split at q
  · split at q
    · rename_i us h1
      cases r with
      | cons r rl =>
        cases rl
        obtain ⟨a, vs, rfl, z, l⟩ := asSeq_sq k r h1
        exact ⟨_, _, rfl, z, hf X.K H W μ Q _ _ k l q⟩
    · exact q.elim
  · exact q.elim
/-! isinstance -/
def tyT : T → Option String
  | .non => some "NoneType"
  | .bl _ => some "bool"
  | .int _ => some "int"
  | .str _ => some "str"
  | .tup _ => some "tuple"
  | .lst _ => some "list"
  | .kls _ => some "list"
  | .dic _ _ => some "dict"
  | _ => none
def tyM (μ : Mu) : T → Option String
  | .mr i => match μ[i]? with
    | some (.lst _) => some "list"
    | _ => none
  | t => tyT t
theorem tyT_x {t : T} {n : String} {v : V} (h : tyT t = some n) (r : Rp K H W t v) : TyX K H v (.type n) := by
  cases t with
  | non => cases h; cases r; exact .base .non
  | bl b => cases h; cases r; exact .base (.bl _)
  | int b => cases h; cases r; exact .base (.int _)
  | str b => cases h; cases r; exact .base (.str _)
  | tup ts =>
    cases h
    cases r with
    | tup h1 h2 =>
      rcases h1 with (h1 | ⟨o, h1⟩) | ⟨o, its, n, h1, h2, _⟩
      · exact .base (.tup h1)
      · exact .fTuple h1
      · exact .kTuple h1 h2
  | lst ts =>
    cases h
    cases r with
    | lst h1 h2 => exact .base (.lst h1.2)
  | kls ts =>
    cases h
    cases r with
    | kls h1 h2 =>
      rcases h1 with ⟨o, h1⟩ | ⟨o, its, n, h1, h2, _⟩
      · exact .base (.frz h1)
      · exact .kList h1 h2
  | dic ks ts =>
    cases h
    cases r with
    | dic h1 h2 h3 h4 => exact .base (.dK h2)
  | _ => cases h
theorem tyM_x {μ : Mu} {t : T} {n : String} {v : V} (k : Ok K H W μ) (h : tyM μ t = some n) (r : Rp K H W t v) : TyX K H v (.type n) := by
  cases t with
  | mr i =>
    have h' : (match μ[i]? with
      | some (.lst _) => some "list"
      | _ => none) = some n := h
    cases hm : μ[i]? with
    | none => rw [hm] at h'; cases h'
    | some o =>
      rw [hm] at h'
      cases o with
      | lst ts =>
        cases h'
        obtain ⟨a, vs, rfl, e, _⟩ := asTr_trk (t := .mr i) (ts := ts) k r (by show (match μ[i]? with | some (.lst ts) => some ts | _ => none) = some ts; rw [hm])
        exact .base (.lst e)
      | dead => cases h'
      | tab P q => cases h'
  | non => exact tyT_x (t := .non) h r
  | bl b => exact tyT_x (t := .bl b) h r
  | int b => exact tyT_x (t := .int b) h r
  | str b => exact tyT_x (t := .str b) h r
  | ty b => exact tyT_x (t := .ty b) h r
  | ref b => exact tyT_x (t := .ref b) h r
  | tup b => exact tyT_x (t := .tup b) h r
  | lst b => exact tyT_x (t := .lst b) h r
  | kls b => exact tyT_x (t := .kls b) h r
  | dic a b => exact tyT_x (t := .dic a b) h r
  | lam q ps b sc => cases h
def asTys : List T → Option (List String)
  | [] => some []
  | .ty n :: ts => match asTys ts with
    | some ns => some (n :: ns)
    | none => none
  | _ => none
def isiTab : String → String → Option Bool
  | "NoneType", "int" => some false | "NoneType", "bool" => some false | "NoneType", "str" => some false | "NoneType", "list" => some false | "NoneType", "tuple" => some false | "NoneType", "dict" => some false
  | "bool", "int" => some true | "bool", "bool" => some true | "bool", "str" => some false | "bool", "list" => some false | "bool", "tuple" => some false | "bool", "dict" => some false
  | "int", "int" => some true | "int", "bool" => some false | "int", "str" => some false | "int", "list" => some false | "int", "tuple" => some false | "int", "dict" => some false
  | "str", "int" => some false | "str", "bool" => some false | "str", "str" => some true | "str", "list" => some false | "str", "tuple" => some false | "str", "dict" => some false
  | "list", "int" => some false | "list", "bool" => some false | "list", "str" => some false | "list", "list" => some true | "list", "tuple" => some false | "list", "dict" => some false
  | "tuple", "int" => some false | "tuple", "bool" => some false | "tuple", "str" => some false | "tuple", "list" => some false | "tuple", "tuple" => some true | "tuple", "dict" => some false
  | "dict", "int" => some false | "dict", "bool" => some false | "dict", "str" => some false | "dict", "list" => some false | "dict", "tuple" => some false | "dict", "dict" => some true
  | _, _ => none
theorem isiTab_kit {a b : String} {r : Bool} (h : isiTab a b = some r) : PySem.W.kitOne K (.type a) (.type b) = some r := by
  unfold isiTab at h
  split at h <;> first | (cases h; exact kit_ty (by decide +kernel)) | cases h
def isiAny (a : String) : List String → Option Bool
  | [] => some false
  | b :: bs => match isiTab a b with
    | some true => some true
    | some false => isiAny a bs
    | none => none
theorem isiAny_kit {a : String} : ∀ {bs : List String} {r : Bool}, isiAny a bs = some r → PySem.W.kitAny K (.type a) (bs.map Value.type) = some r
  | [], r, h => by cases h; rfl
  | b :: bs, r, h => by
    unfold isiAny at h
    split at h
    · rename_i e
      cases h
      exact kitAny_cons (isiTab_kit e) (fun z => by cases z) fun _ => rfl
    · rename_i e
      exact kitAny_cons (isiTab_kit e) (fun _ => isiAny_kit h) fun z => by cases z
    · cases h
theorem asTys_rp : ∀ {ts : List T} {ns : List String} {vs : List V}, asTys ts = some ns → RpL K H W ts vs → vs = ns.map V.ty
  | [], _, _, h, r => by cases h; cases r; rfl
  | t :: ts, is, _, h, r => by
    cases t with
    | ty i =>
      unfold asTys at h
      split at h
      · rename_i js e
        cases h
        cases r with
        | cons r rl =>
          cases r
          rw [asTys_rp e rl] <;> rfl
      · cases h
    | _ => cases h
theorem tys_cls : ∀ ns : List String, Paired ClsV (ns.map V.ty) (ns.map Value.type)
  | [] => .nil
  | n :: ns => .cons (.ty n) (tys_cls ns)
theorem vals_tys : ∀ {ns : List String} {us : List Value}, Vals (ns.map V.ty) us → us = ns.map Value.type
  | [], _, h => by cases h; rfl
  | n :: ns, _, h => by
    cases h with
    | cons r t =>
      rw [vals_tys t]
      have e : _ = Value.type n := r
      rw [e] <;> rfl
def gIsi : GL := fun ts μ => match ts with
  | [t, .ty n] => match tyM μ t with
    | some a => match isiTab a n with
      | some b => .ok (.bl b) μ
      | none => .bad
    | none => .bad
  | [t, .tup us] => match tyM μ t with
    | some a => match asTys us with
      | some ns => match isiAny a ns with
        | some b => .ok (.bl b) μ
        | none => .bad
      | none => .bad
    | none => .bad
  | _ => .bad
/-- isinstance(x, (A, B)), the tuple of any kind -/
theorem call_isiTS : CallR X (.builtin "isinstance") (fun xs H Q => ∃ (x : V) (tp : Addr) (ns : List String) (t : Value) (b : Bool), xs = [x, .ref tp] ∧ SqT X.K H tp (ns.map V.ty) ∧ TyX X.K H x t ∧ PySem.W.kitAny X.K t (ns.map Value.type) = some b ∧ Q (.bl b) H) := by
  intro pins s σ H xs us Q I r h
  obtain ⟨x, tp, ns, t, b, rfl, hT, ty, e, q⟩ := h
  obtain ⟨u1, u2, rfl, r1, r2⟩ := vals2 r
  have z : u2 = Value.ref tp := r2
  subst z
  obtain ⟨P, Z, p, hx⟩ := kit_of I r1 ty
  obtain ⟨its, rv, ⟨⟨oc, od, dt, sl⟩, h1, h2, n, h3⟩, _⟩ := I.tuple hT
  have e3 := vals_tys rv
  subst e3
  simp only at h2 h3
  subst h2 h3
  exact PySem.W.kia_tup Z I.kIn p h1 e hx fun tk => ⟨.bl b, H, I.tok tk, rfl, q⟩
theorem cIsi : JC X (.builtin "isinstance") gIsi := JC.of (CallR.or call_isi call_isiTS) fun xs H Q W μ ts k r q => by
  unfold gIsi at q
  split at q
  · split at q
    · rename_i a h1
      split at q
      · rename_i b h2
        cases r with
        | cons r rl =>
          cases rl with
          | cons r2 rl =>
            cases rl; cases r2
            exact .inl ⟨_, _, _, _, b, rfl, .ty _, tyM_x k h1 r, isiTab_kit h2, Po.go (R := Rp X.K) q Fr.refl k (.bl _)⟩
      · exact q.elim
    · exact q.elim
  · split at q
    · rename_i a h1
      split at q
      · rename_i ns h2
        split at q
        · rename_i b h3
          cases r with
          | cons r rl =>
            cases rl with
            | cons r2 rl =>
              cases rl
              cases r2 with
              | tup h4 h5 =>
                have e := asTys_rp h2 h5
                subst e
                exact .inr ⟨_, _, ns, _, b, rfl, h4, tyM_x k h1 r, isiAny_kit h3, Po.go (R := Rp X.K) q Fr.refl k (.bl _)⟩
        · exact q.elim
      · exact q.elim
    · exact q.elim
  · exact q.elim
end

/-! ### subscripts, slices -/
section
variable {X : Cx} {K : PySem.W.Frag} {H : Hp} {W : Wd} {a b : Expr} {ma mb : ME} {pos p2 : Pos}
def gIx : G2 := fun x y μ => match x, y with
  | .str cs, .int i => if Nat.ble cs.length 100000 = true then match atI cs i with
      | some c => .ok (.str [c]) μ
      | none => .bad
    else .bad
  | t, .int i => match asSeq μ t with
    | some ts => match atI ts i with
      | some u => .ok u μ
      | none => .bad
    | none => .bad
  | _, _ => .bad
theorem RpL.atI {ts : List T} {vs : List V} {i : Int} {u : T} (r : RpL K H W ts vs) (h : L2.atI ts i = some u) : ∃ v, L2.atI vs i = some v ∧ Rp K H W u v := by
  unfold L2.atI at h ⊢
  rw [r.length] at h
  cases e : ixN vs.length i with
  | none => rw [e] at h; cases h
  | some j =>
    rw [e] at h
    exact r.get h
theorem xIx : IxR X (rM X.K gIx) := by
  intro value slice pins s σ H x y v u Q I rx ry ⟨W, μ, tx, ty, k, r1, r2, q⟩ hs
  refine ix_seq value slice pins s σ H x y v u Q I rx ry ?_ hs
  unfold gIx at q
  split at q
  · split at q
    · rename_i cs i hh
      split at q
      · rename_i c hc
        cases r1; cases r2
        exact .inr (.inr ⟨_, _, c, rfl, rfl, by show cs.toArray.size ≤ sizeLine; rw [List.size_toArray]; exact small_str (Nat.le_of_ble_eq_true hh), hc, Po.go (R := Rp X.K) q Fr.refl k (.str [c])⟩)
      · exact q.elim
    · exact q.elim
  · split at q
    · rename_i ts h1
      split at q
      · rename_i u2 h2
        cases r2
        obtain ⟨p, vs, rfl, z, l⟩ := asSeq_sq k r1 h1
        obtain ⟨w, e1, e2⟩ := l.atI h2
        have fin := Po.go (R := Rp X.K) q Fr.refl k e2
        rcases z with z | z
        · exact .inl ⟨_, _, _, _, rfl, rfl, z, e1, fin⟩
        · exact .inr (.inl ⟨_, _, _, _, rfl, rfl, z, e1, fin⟩)
      · exact q.elim
    · exact q.elim
  · exact q.elim
theorem je_ix (ha : JE X a ma) (hb : JE X b mb) (hs : PlainIx b := by intro _ _; rfl) : JE X (.Subscript a b pos) (mOp gIx ma mb) := PE_imp (pe_ix xIx ha hb hs) (tOp_M fun _ _ _ _ h => h)
/-- the bounds of a slice -/
abbrev MO' := Rho → Mu → Out (Option Int)
def tMO (K : PySem.W.Frag) (m : MO') : TO := fun σ H Q => ∃ W ρ μ, Ok K H W μ ∧ RpSt K H W σ ρ ∧ Po (α := Option Int) (β := Option Int) K (fun _ _ a b => b = a) H W Q (m ρ μ)
abbrev JO (X : Cx) (e : Option Expr) (m : MO') : Prop := PO X e (tMO X.K m)
theorem PO_imp {X : Cx} {e : Option Expr} {t t' : TO} (h : PO X e t) (hi : ∀ σ H Q, t' σ H Q → t σ H Q) : PO X e t' := ⟨fun pins s σ H Q I q => h.run pins s σ H Q I (hi σ H Q q)⟩
def mPN : MO' := fun _ μ => .ok none μ
def mPS (m : ME) : MO' := fun ρ μ => (m ρ μ).bind fun t μ1 => match t with
  | .int i => .ok (some i) μ1
  | _ => .bad
theorem jo_none : JO X none mPN := PO_imp po_none fun σ H Q ⟨W, ρ, μ, k, st, q⟩ => Po.go (R := fun _ _ a b => b = a) q Fr.refl k rfl
theorem jo_some (h : JE X a ma) : JO X (some a) (mPS ma) := PO_imp (po_some h) fun σ H Q ⟨W, ρ, μ, k, st, q⟩ => ⟨W, ρ, μ, k, st, Po.bind (R := Rp X.K) (R' := fun _ _ a b => b = a) q fun t μ1 _ H1 W1 v f1 k1 r1 q1 => by
  split at q1
  · cases r1
    exact ⟨_, rfl, Po.go (R := fun _ _ a b => b = a) q1 Fr.refl k1 rfl⟩
  · exact q1.elim⟩
def cutT {α : Type} (xs : List α) (lo hi : Option Int) : List α := (xs.drop (HT.sIx xs.length 0 lo)).take (HT.sIx xs.length xs.length hi - HT.sIx xs.length 0 lo)
theorem RpL.cut {ts : List T} {vs : List V} (r : RpL K H W ts vs) (lo hi : Option Int) : RpL K H W (cutT ts lo hi) (cutV vs lo hi) := by
  unfold cutT cutV
  rw [r.length]
  exact (r.drop _).take _
def gSl (fin : List T → Mu → Out T) (x : T) (lo hi : Option Int) (μ : Mu) : Out T := match x with
  | .str cs => if Nat.ble cs.length 100000 = true then .ok (.str (cutT cs lo hi)) μ else .bad
  | .tup ts => .ok (.tup (cutT ts lo hi)) μ
  | t => match asLst μ t with
    | some ts => fin (cutT ts lo hi) μ
    | none => .bad
def mSl (fin : List T → Mu → Out T) (ma : ME) (ml mh : MO') : ME := fun ρ μ => (ma ρ μ).bind fun x μ1 => (ml ρ μ1).bind fun lo μ2 => (mh ρ μ2).bind fun hi μ3 => gSl fin x lo hi μ3
theorem cut_whole {α : Type} {xs : List α} {lo hi : Option Int} (h : HT.sIx xs.length 0 lo = 0 ∧ HT.sIx xs.length xs.length hi = xs.length) : cutT xs lo hi = xs := by
  unfold cutT
  rw [h.1, h.2]
  simp
theorem je_slice {fin : List T → Mu → Out T} {lo hi : Option Expr} {ml mh : MO'} (hf : Lays fin) (ha : JE X a ma) (hl : JO X lo ml) (hh : JO X hi mh) : JE X (.Subscript a (.Slice lo hi none p2) pos) (mSl fin ma ml mh) :=
  PE_imp (pe_slice (SlR.or sl_list (SlR.or sl_tupA sl_str)) ha hl hh) fun σ H Q ⟨W, ρ, μ, k, st, q⟩ => ⟨W, ρ, μ, k, st, Po.bind (R := Rp X.K) q fun x μ1 e0 H1 W1 v f1 k1 r1 q1 =>
    ⟨W1, ρ, μ1, k1, st.fr f1, Po.bind (R := fun _ _ a b => b = a) (R' := Rp X.K) q1 fun l μ2 _ H2 W2 l' f2 k2 e2 q2 => ⟨W2, ρ, μ2, k2, (st.fr f1).fr f2, Po.bind (R := fun _ _ a b => b = a) (R' := Rp X.K) q2 fun u μ3 _ H3 W3 u' f3 k3 e3 q3 => by
      subst e2 e3
      clear e0
      have r3 := (r1.fr f2).fr f3
      unfold gSl at q3
      split at q3
      · split at q3
        · rename_i cs hz
          cases r3
          refine .inr (.inr ⟨_, rfl, by show cs.toArray.size ≤ sizeLine; rw [List.size_toArray]; exact small_str (Nat.le_of_ble_eq_true hz), ?_⟩)
          have e : cutS ⟨cs.toArray⟩ l' u' = ⟨(cutT cs l' u').toArray⟩ := by
            unfold cutS cutT
            show (⟨_⟩ : Str) = _
            simp [Str.length]
          rw [e]
          exact Po.go (R := Rp X.K) q3 Fr.refl k3 (.str _)
        · exact q3.elim
      · rename_i ts
        cases r3 with
        | @tup _ a vs h1 h2 =>
          refine .inr (.inl ⟨a, vs, rfl, h1, fun z => ?_, fun _ => Po.tup k3 (h2.cut _ _) q3⟩)
          have z' : HT.sIx ts.length 0 l' = 0 ∧ HT.sIx ts.length ts.length u' = ts.length := by rw [h2.length]; exact z
          rw [cut_whole z'] at q3
          exact Po.go (R := Rp X.K) q3 Fr.refl k3 (.tup h1 h2)
      · split at q3
        · rename_i us h1
          obtain ⟨p, vs, rfl, z, l⟩ := asLst_sq k3 r3 h1
          exact .inl ⟨_, _, rfl, z, hf X.K H3 W3 μ3 Q _ _ k3 (l.cut _ _) q3⟩
        · exact q3.elim⟩⟩⟩
/-- x[::-1] -/
def gRev (fin : List T → Mu → Out T) : G1 := fun x μ => match asLst μ x with
  | some ts => fin ts.reverse μ
  | none => .bad
theorem je_rev {fin : List T → Mu → Out T} {kk : Nat} {p1 p3 : Pos} (hf : Lays fin) (ha : JE X a ma) : JE X (.Subscript a (.Slice none none (some (.UnaryOp .USub (.Constant (.int 1) kk p1) p2)) p3) pos) (mUn (gRev fin) ma) :=
  PE_imp (pe_revL ha) fun σ H Q ⟨W, ρ, μ, k, st, q⟩ => ⟨W, ρ, μ, k, st, Po.bind (R := Rp X.K) q fun x μ1 _ H1 W1 v f1 k1 r1 q1 => by
    unfold gRev at q1
    split at q1
    · rename_i us h1
      obtain ⟨p, vs, rfl, z, l⟩ := asLst_sq k1 r1 h1
      exact ⟨_, _, rfl, z, hf X.K H1 W1 μ1 Q _ _ k1 l.reverse q1⟩
    · exact q1.elim⟩
end

/-! ### methods of lists in the store, stores -/
section
variable {X : Cx} {o e i : Expr} {es : List Expr} {mo me mi : ME} {ma : MA} {apos cpos pos : Pos}
def isStL (μ : Mu) (t : T) : Bool := match t with
  | .mr i => match μ[i]? with
    | some (.lst _) => true
    | _ => false
  | _ => false
/-- xs.m(..): g the answer from the receiver's number, its items, the arguments -/
def mLm (g : Nat → List T → List T → Mu → Out T) (mo : ME) (ma : MA) : ME := fun ρ μ => (mo ρ μ).bind fun x μ1 => if isStL μ1 x = true then (ma ρ μ1).bind fun as μ2 => match x with
    | .mr i => match μ2[i]? with
      | some (.lst ts) => g i ts as μ2
      | _ => .bad
    | _ => .bad
  else .bad
theorem isStL_ty {K : PySem.W.Frag} {H : Hp} {W : Wd} {μ : Mu} {t : T} {v : V} (k : Ok K H W μ) (r : Rp K H W t v) (h : isStL μ t = true) : tyV K "list" v H := by
  cases t with
  | mr i =>
    have h' : (match μ[i]? with
      | some (.lst _) => true
      | _ => false) = true := h
    cases hm : μ[i]? with
    | none => rw [hm] at h'; cases h'
    | some o =>
      rw [hm] at h'
      cases o with
      | lst ts =>
        obtain ⟨a, vs, rfl, e, _⟩ := asTr_trk (t := .mr i) (ts := ts) k r (by show (match μ[i]? with | some (.lst ts) => some ts | _ => none) = some ts; rw [hm])
        exact .inl ⟨rfl, vs, .inl (.inl e)⟩
      | dead => cases h'
      | tab P q => cases h'
  | _ => cases h
/-- what the rule of the method asks -/
def LmR (K : PySem.W.Frag) (g : Nat → List T → List T → Mu → Out T) (r : V → List V → Hp → VK → Prop) : Prop :=
  ∀ (H : Hp) (W : Wd) (μ : Mu) (i : Nat) (a : Addr) (ts as : List T) (vs us : List V) (Q : VK), Ok K H W μ → W.e[i]? = some a → μ[i]? = some (.lst ts) → H a = some (.lst vs) → RpL K H W ts vs → RpL K H W as us → PoE K H W Q (g i ts as μ) → r (.ref a) us H Q
theorem tLm_M {g : Nat → List T → List T → Mu → Out T} {r : V → List V → Hp → VK → Prop} (hr : LmR X.K g r) : ∀ σ H Q, tM X.K (mLm g mo ma) σ H Q → tBM X.K "list" r (tM X.K mo) (tMA X.K ma) σ H Q :=
  fun σ H Q ⟨W, ρ, μ, k, st, q⟩ => ⟨W, ρ, μ, k, st, Po.bind (R := Rp X.K) q fun x μ1 e0 H1 W1 v f1 k1 r1 q1 => by
    clear e0
    split at q1
    · rename_i hs
      refine ⟨isStL_ty k1 r1 hs, W1, ρ, μ1, k1, st.fr f1, Po.bind (R := RpL X.K) (R' := Rp X.K) q1 fun as μ2 _ H2 W2 us f2 k2 r2 q2 => ?_⟩
      split at q2
      · rename_i j
        split at q2
        · rename_i ts hm
          cases r1 with
          | mr h1 =>
            have h2 := f2.et _ _ h1
            obtain ⟨vs, e1, e2⟩ := k2.ob _ _ _ h2 hm
            exact hr H2 W2 μ2 j _ ts as vs us Q k2 h2 hm e1 e2 r2 q2
        · exact q2.elim
      · exact q2.elim
    · exact q1.elim⟩
theorem Po.write {K : PySem.W.Frag} {H : Hp} {W : Wd} {μ : Mu} {i : Nat} {a : Addr} {ts us : List T} {vs ws : List V} {Q : VK} {t : T} {v : V} (k : Ok K H W μ) (h : W.e[i]? = some a) (hm : H a = some (.lst vs)) (r : RpL K H W us ws) (rt : Rp K H W t v) (q : PoE K H W Q (.ok t (μ.set i (.lst us)))) : Q v (upd H a (.lst ws)) := by
  have f0 : Rf H W (upd H a (.lst ws)) W := (k.write (x := .dead) h ⟨vs, hm⟩ (show NT (upd H a (.lst ws) a) by rw [upd_same]; exact NT.lst)).1.toRf
  obtain ⟨f, k'⟩ := k.write (x := .lst us) h ⟨vs, hm⟩ ⟨ws, upd_same, r.rf f0⟩
  exact Po.go (R := Rp K) q f k' (rt.fr f)
def gApp (i : Nat) (ts as : List T) (μ : Mu) : Out T := match as with
  | [y] => if few (y :: ts) = true then .ok .non (μ.set i (.lst (ts ++ [y]))) else .bad
  | _ => .bad
theorem lm_append {K : PySem.W.Frag} : LmR K gApp rAppend := fun H W μ i a ts as vs us Q k hi hm hv r r2 q => by
  unfold gApp at q
  split at q
  · split at q
    · rename_i y hf
      cases r2 with
      | cons r2 rl =>
        cases rl
        have hl := few_le hf
        rw [List.length_cons, r.length] at hl
        exact ⟨a, vs, _, rfl, rfl, hv, hl, Po.write (ts := ts) k hi hv (r.append (.cons r2 .nil)) .non q⟩
    · exact q.elim
  · exact q.elim
def gExt (i : Nat) (ts as : List T) (μ : Mu) : Out T := match as with
  | [y] => match asTr μ y with
    | some us => if few (ts ++ us) = true then .ok .non (μ.set i (.lst (ts ++ us))) else .bad
    | none => .bad
  | _ => .bad
theorem lm_extend {K : PySem.W.Frag} : LmR K gExt rExtend := fun H W μ i a ts as vs us Q k hi hm hv r r2 q => by
  unfold gExt at q
  split at q
  · split at q
    · rename_i y zs hz
      split at q
      · rename_i hf
        cases r2 with
        | cons r2 rl =>
          cases rl
          obtain ⟨b, ws, rfl, e1, e2⟩ := asTr_trk k r2 hz
          have hl := few_le hf
          rw [List.length_append, r.length, e2.length] at hl
          exact ⟨a, b, vs, ws, rfl, rfl, hv, e1, hl, Po.write (ts := ts) k hi hv (r.append e2) .non q⟩
      · exact q.elim
    · exact q.elim
  · exact q.elim
theorem je_append (ho : JE X o mo) (ha : JA X [e] ma) (hbase : attributeBase o "append" X.env (eval o X.env) = eval o X.env := by rfl)
    (hfew : ((backTo cpos (starEach [e] X.env)).all (fun x => !x.1) && (backToKw cpos (keywordEach [] X.env)).all (fun x => x.1.isSome) && decide ([e].length + ([] : List Keyword).length + (if ([] : List Keyword).isEmpty then 0 else 1) < 30)) = true := by rfl)
    (hline : (apos.endLine == cpos.line) = true := by rfl) (hs : starEach [e] X.env = (false, eval e X.env) :: starEach [] X.env := by rfl) (hplain : (backTo cpos (starEach [] X.env)).any (·.1) = false := by rfl) :
    JE X (.Call (.Attribute o "append" apos) [e] [] cpos) (mLm gApp mo ma) := PE_imp (pe_bm PySem.F.plainAttrs_list PySem.F.slot_list_append rfl mt_append ho ha hbase hfew hline hs hplain) (tLm_M lm_append)
theorem je_extend (ho : JE X o mo) (ha : JA X [e] ma) (hbase : attributeBase o "extend" X.env (eval o X.env) = eval o X.env := by rfl)
    (hfew : ((backTo cpos (starEach [e] X.env)).all (fun x => !x.1) && (backToKw cpos (keywordEach [] X.env)).all (fun x => x.1.isSome) && decide ([e].length + ([] : List Keyword).length + (if ([] : List Keyword).isEmpty then 0 else 1) < 30)) = true := by rfl)
    (hline : (apos.endLine == cpos.line) = true := by rfl) (hs : starEach [e] X.env = (false, eval e X.env) :: starEach [] X.env := by rfl) (hplain : (backTo cpos (starEach [] X.env)).any (·.1) = false := by rfl) :
    JE X (.Call (.Attribute o "extend" apos) [e] [] cpos) (mLm gExt mo ma) := PE_imp (pe_bm PySem.F.plainAttrs_list PySem.F.slot_list_extend rfl mt_extend ho ha hbase hfew hline hs hplain) (tLm_M lm_extend)
/-- xs[i] = v -/
def gSt (mo mi : ME) : MG := fun v ρ μ => (mo ρ μ).bind fun x μ1 => (mi ρ μ1).bind fun y μ2 => match x, y with
  | .mr j, .int n => match μ2[j]? with
    | some (.lst ts) => match ixN ts.length n with
      | some l => .ok ρ (μ2.set j (.lst (ts.set l v)))
      | none => .bad
    | _ => .bad
  | _, _ => .bad
theorem jg_sub {vs : List Nat} (ho : JE X o mo) (hi : JE X i mi) (ha : ∀ v, assign (.Subscript o i pos) X.env v = (do
      let ov ← holding [v] (eval o X.env)
      let iv ← holding [v, ov] (eval i X.env)
      standAt pos
      holding [v, ov, iv] (setItem ov iv v)
      release [v, ov, iv] []) := by intro _; rfl) : JG X vs (.Subscript o i pos) (gSt mo mi) := PG_imp (pg_sub ho hi set_list ha) fun v σ H Q ⟨W, ρ, μ, t, k, st, r, q⟩ => by
  refine ⟨W, ρ, μ, k, st, ?_⟩
  unfold gSt at q
  cases h1 : mo ρ μ with
  | bad => rw [h1] at q; exact q.elim
  | ok x μ1 =>
    rw [h1] at q
    intro H1 W1 vx f1 k1 r1
    refine ⟨W1, ρ, μ1, k1, st.fr f1, ?_⟩
    simp only [Out.bind_ok] at q
    cases h2 : mi ρ μ1 with
    | bad => rw [h2] at q; exact q.elim
    | ok y μ2 =>
      rw [h2] at q
      intro H2 W2 vy f2 k2 r2
      simp only [Out.bind_ok] at q
      split at q
      · rename_i j n
        split at q
        · rename_i ts hm
          split at q
          · rename_i l hl
            cases r2
            cases r1 with
            | mr e1 =>
              have e2 := f2.et _ _ e1
              obtain ⟨ws, e3, e4⟩ := k2.ob _ _ _ e2 hm
              have rt := (r.fr f1).fr f2
              have e5 := e4.set rt l
              refine ⟨_, ws, n, l, rfl, rfl, e3, by rw [← e4.length]; exact hl, ?_⟩
              have f0 : Rf H2 W2 (upd H2 _ (.lst (ws.set l v))) W2 := (k2.write (x := .dead) e2 ⟨ws, e3⟩ (show NT (upd H2 _ (.lst (ws.set l v)) _) by rw [upd_same]; exact NT.lst)).1.toRf
              obtain ⟨f, k'⟩ := k2.write (x := .lst (ts.set l t)) e2 ⟨ws, e3⟩ ⟨_, upd_same, e5.rf f0⟩
              exact q _ _ _ ((f1.trans f2).trans f) k' (((st.fr f1).fr f2).fr f) rfl
          · exact q.elim
        · exact q.elim
      · exact q.elim
/-- {} -/
def mDic0 : ME := fun _ μ => .ok (.dic [] []) μ
theorem je_dic0 : JE X (.Dict [] [] pos) mDic0 := PE_imp pe_dnewK fun σ H Q ⟨W, ρ, μ, k, st, q⟩ p hp => by
  obtain ⟨f, k'⟩ := k.frozen (o := .dK []) hp
  exact Po.go (R := Rp X.K) q f k' (.dic (vs := []) (.inr rfl) upd_same rfl .nil)
end
end Mr

namespace Mr
open PySem PySem.Spec PyProof.Rows L2

/-! ### sorted(xs, key=f): the key's calls run in the walk's own frame -/
section
variable {pg : Program} {wd : World} {Ar : Around} {Er : Value → Shared → Prop} {st : Shared}
/-- the items of a list or a tuple, taken into a new list -/
theorem taken {l : Addr} {o : Obj} {n : Nat} {us : List Value} {Qr : List Value → Shared → Prop} (e1 : st.heap.get? l = some o) (e2 : o.cls = .type "list" ∨ o.cls = .type "tuple") (e3 : o.data = .seq us.toArray n) (hz : us.length ≤ sizeLine)
    (q : Qr us { st with heap := (st.heap.push (seqObj "list" #[] 0)).update st.heap.objs.size (Obj.mapSeq (· ++ us.toArray)) }) : wpAny (model pg wd) Ar (collect (.ref l)) Qr Er st := by
  unfold collect
  apply wpAny_bind
  apply wpAny_runValue
  apply codeAny_builtin entry_proto_collect'
  apply wpAny_bind
  refine wpAny_newList ?_
  apply wpAny_pure
  refine And.intro (Code.quiet_builtin _ (by decide +kernel)) (codeAny_builtin entry_list_iadd' ?_)
  show wpAny _ _ (Builtin.List.listExtendWith (.ref st.heap.objs.size) (.ref l) (.ref st.heap.objs.size)) _ _ { st with heap := st.heap.push (seqObj "list" #[] 0) }
  unfold Builtin.List.listExtendWith
  have k1 : (st.heap.push (seqObj "list" #[] 0)).get? l = some o := Heap.get?_push_of_some _ e1
  have k2 : (st.heap.push (seqObj "list" #[] 0)).get? st.heap.objs.size = some (seqObj "list" #[] 0) := Heap.get?_push_size _ rfl
  obtain ⟨Ty, hT, hb⟩ : ∃ Ty : String, o.cls = .type Ty ∧ (Ty = "list" ∨ Ty = "tuple") := by
    rcases e2 with z | z
    · exact ⟨_, z, .inl rfl⟩
    · exact ⟨_, z, .inr rfl⟩
  refine wpAny_bind (wpAny_typeOf (T := Ty) ⟨o, k1, hT⟩ ?_)
  rw [if_pos (by rcases hb with hb | hb <;> subst hb <;> simp)]
  refine wpAny_bind (listItems_at k1 e3 ?_)
  refine wpAny_bind (listItems_at (xs := #[]) (n := 0) k2 rfl ?_)
  rw [if_neg (by simp)]
  refine wpAny_bind (listUpdate_at (xs := #[]) (n := 0) k2 rfl ?_ (Nat.zero_le _) ?_)
  · apply wpAny_pure
    show wpAny (model pg wd) Ar (load st.heap.objs.size >>= fun ob => match ob.data with
      | .seq its _ => pure its.toList
      | _ => unsupported "internal:collect") Qr Er { st with heap := (st.heap.push (seqObj "list" #[] 0)).update st.heap.objs.size (Obj.mapSeq (· ++ us.toArray)) }
    refine wpAny_bind (wpAny_load (get?_update_seq k2 _) ?_)
    have e : ((#[] : Array Value) ++ us.toArray).toList = us := by simp
    show wpAny _ _ (pure ((#[] : Array Value) ++ us.toArray).toList) Qr Er _
    rw [e]
    exact wpAny_pure q
  · show ((#[] : Array Value) ++ us.toArray).size ≤ sizeLine + 1
    simp only [Array.size_append, List.size_toArray, List.length_nil]
    omega
/-- sorted(..) of it is list.sort(..) of a new list of its items -/
theorem sorted_by {l : Addr} {o : Obj} {n : Nat} {us : List Value} {kw : List (Str × Value)} {Qr : Value → Shared → Prop} (e1 : st.heap.get? l = some o) (e2 : o.cls = .type "list" ∨ o.cls = .type "tuple") (e3 : o.data = .seq us.toArray n) (hz : us.length ≤ sizeLine)
    (a1 : argsOk "sorted" ⟨[.ref l], kw⟩) (a2 : ∀ x, argsOk "list.sort" ⟨[.ref x], kw⟩)
    (body : ∀ Eb : Value → Shared → Prop, wpAny (model pg wd) Ar.in1.in1 (Builtin.«list.sort» ⟨[.ref (st.heap.objs.size + 1)], kw⟩) (fun f s' => f = .done (.ret .none) ∧ Qr (.ref (st.heap.objs.size + 1)) s') Eb { st with heap := PySem.W.copyHeap st.heap us }) :
    wpAny (model pg wd) Ar (call (.builtin "sorted") [.ref l] kw) Qr Er st := by
  apply PyProof.Rows.call_function_entry_kw kind_sorted plain_sorted entry_sorted a1
  unfold Builtin.«sorted»
  apply wpAny_bind (m := checkCount "sorted" 1 1 _)
  apply wpAny_pure
  apply wpAny_bind
  apply taken e1 e2 e3 hz
  apply wpAny_bind
  apply wpAny_newList (hsz := hz)
  have sz : ((st.heap.push (seqObj "list" #[] 0)).update st.heap.objs.size (Obj.mapSeq (· ++ us.toArray))).objs.size = st.heap.objs.size + 1 := (Heap.size_update ..).trans (size_push' ..)
  show wpAny _ _ _ _ _ { st with heap := PySem.W.copyHeap st.heap us }
  rw [sz]
  apply wpAny_bind
  apply wpAny_holding
  refine wpAny_call_entry_kw (s := { st with heap := PySem.W.copyHeap st.heap us }) slot_list_sort ⟨_, PySem.W.copyHeap_at st.heap us, rfl⟩ entry_list_sort ?_ (a2 _)
  apply wpAny_mono (body _) (fun f s' hf => ?_) fun _ _ z => z
  rcases hf with ⟨rfl, hq⟩
  exact Exists.intro _ ⟨rfl, wpAny_pure ⟨_, rfl, hq⟩⟩
end

/-! ### the keys, one behind the other -/
def keysM (g : GL) : List T → Mu → Out (List T)
  | [], μ => .ok [] μ
  | t :: ts, μ => (g [t] μ).bind fun k μ1 => (keysM g ts μ1).bind fun ks μ2 => .ok (k :: ks) μ2
def alikeB (kz : List PyData) : Bool := kz.all fun d => kz.all fun e => PySem.W.alike d e
def isTupC : PyData → Bool
  | .tuple (_ :: _) => true
  | _ => false
def noTup : PyData → Bool
  | .none => false
  | .tuple _ => false
  | _ => true
def sortableB (kz : List PyData) : Bool := kz.all isTupC || kz.all noTup
def shallowB (kz : List PyData) : Bool := kz.all fun d => decide (d.depth ≤ 64)
def sortBy (kz : List PyData) (ts : List T) : List T := ((ts.zip kz).mergeSort (PySem.W.dataLe false Prod.snd)).map Prod.fst
def sortO (g : GL) (fin : List T → Mu → Out T) (ts : List T) (μ : Mu) : Out T := if few ts = true then (keysM g ts μ).bind fun ks μ1 => match mapO (pyT μ1 60) ks with
    | some kz => if (alikeB kz && sortableB kz && shallowB kz) = true then fin (sortBy kz ts) μ1 else .bad
    | none => .bad
  else .bad
/-- u may be called with one value; it is worth g then -/
def Call1 (X : Cx) (pf : List (Addr × Obj)) (u : Value) (pk : Hp → Prop) (g : GL) : Prop :=
  ∀ (pins : List (Addr × Obj)) (s : Shared) (σ : L2.St) (H : Hp) (x : V) (ux : Value) (Q : VK), Inv X (pins ++ pf) σ H s → pk H → RelV x ux → rML X.K g [x] H Q →
    wpAny (model X.prog X.w) X.A.in1.in1 (call u [ux]) (EP X (pins ++ pf) σ Q) (fun _ _ => False) s
theorem alikeB_all {kz : List PyData} (h : alikeB kz = true) : PySem.W.AllAlike kz := fun d hd e he => by
  unfold alikeB at h
  exact List.all_eq_true.mp (List.all_eq_true.mp h d hd) e he
theorem sortableB_all {kz : List PyData} (h : sortableB kz = true) : PySem.W.Sortable kz := by
  unfold sortableB at h
  rw [Bool.or_eq_true] at h
  rcases h with h | h
  · refine .inl fun d hd => ?_
    have z := List.all_eq_true.mp h d hd
    unfold isTupC at z
    split at z
    · exact ⟨_, _, rfl⟩
    · cases z
  · refine .inr fun d hd => ?_
    have z := List.all_eq_true.mp h d hd
    refine ⟨fun e => ?_, fun xs e => ?_⟩
    · subst e; cases z
    · subst e; cases z
theorem mapO_mem {α β : Type} {f : α → Option β} {as : List α} {bs : List β} (h : mapO f as = some bs) : ∀ b ∈ bs, ∃ a ∈ as, f a = some b := fun b hb => by
  obtain ⟨i, hi⟩ := List.mem_iff_getElem?.mp hb
  obtain ⟨a, h1, h2⟩ := mapO_get h hi
  exact ⟨a, List.mem_of_getElem? h1, h2⟩
section
variable {X : Cx} {pins : List (Addr × Obj)} {σ : L2.St} {H : Hp} {s : Shared}
theorem inv_pin {a : Addr} {o : Obj} (I : Inv X pins σ H s) (h1 : s.heap.get? a = some o) (h2 : H a = none) (h3 : a ≠ X.env.locals) (h4 : a ∉ X.fs) (h5 : ∀ v, o.data ≠ .cell v) : Inv X ((a, o) :: pins) σ H s := I.pins_of fun r hr => by
  rcases List.mem_cons.mp hr with e | hr
  · subst e; exact ⟨h1, h2, h3, h4, h5⟩
  · exact I.pin r (List.mem_append_right _ hr)
/-- what is wanted behind the keys -/
def PoK (K : PySem.W.Frag) (H : Hp) (W : Wd) (P : List T → Mu → Hp → Wd → List V → Prop) (done : List T) : Out (List T) → Prop
  | .ok ys μ' => ∀ H' W' vs', Fr H W H' W' → Ok K H' W' μ' → RpL K H' W' (done ++ ys) vs' → P (done ++ ys) μ' H' W' vs'
  | .bad => False
theorem PoK.fr {K : PySem.W.Frag} {H H' : Hp} {W W' : Wd} {P : List T → Mu → Hp → Wd → List V → Prop} {done : List T} {o : Out (List T)} (f : Fr H W H' W') (h : PoK K H W P done o) : PoK K H' W' P done o := by
  cases o with
  | ok a m => exact fun H2 W2 v f2 k r => h H2 W2 v (f.trans f2) k r
  | bad => exact h
/-- an untracked object of the walk's own is written -/
theorem inv_own {a : Addr} {o o' : Obj} {h' : Heap} {tk : Nat} (I : Inv X ((a, o) :: pins) σ H s) (ha : a ∈ X.ex ∨ X.s_0.heap.objs.size ≤ a) (hc : ∀ x c, X.env.cells.lookup x = some c → c ≠ a) (hp : ∀ p ∈ X.pn ++ pins, p.1 ≠ a)
    (keep : ∀ b u, b ≠ a → s.heap.get? b = some u → h'.get? b = some u) (new : h'.get? a = some o') (hd : ∀ v, o'.data ≠ .cell v) : Inv X ((a, o') :: pins) σ H { s with heap := h', toks := tk } := by
  obtain ⟨p1, p2, p3, p4, p5⟩ := I.pin (a, o) (List.mem_append_right _ List.mem_cons_self)
  have I0 : Inv X pins σ H s := I.pins_of fun r hr => I.pin r (List.mem_append_right _ (List.mem_cons_of_mem _ hr))
  have mem : ∀ b ∈ [a], b = a := fun b hb => by simpa using hb
  have I1 : Inv X pins σ H { s with heap := h', toks := tk } := I0.step (g' := s.gens) (d' := s.drawn) (ch := [a]) (fun b hb => by
      rw [mem b hb]
      exact ⟨ha, p3, hc, hp⟩)
    (fun b u _ _ hb e _ => keep b u (fun z => hb (by rw [z]; simp)) e) (fun b u _ _ hb e _ => ⟨u.slots, keep b u (fun z => hb (by rw [z]; simp)) e⟩) (fun b u _ _ n => n) (fun b u hb e => ⟨u, keep b u (fun z => hb (by rw [z]; simp)) e⟩)
    (fun _ _ e => e) (fun _ _ _ e => e) (fun b ps e => ⟨#[], by rw [e]; simp⟩) (fun m ⟨ob, es, ep, e, rest⟩ => ⟨ob, es, ep, keep _ ob (fun z => p3 z.symm) e, rest⟩) (fun b u e => ?_) I0.bare
  · exact inv_pin I1 new p2 p3 p4 hd
  · refine (I0.hok b u e).stay (fun d w hd2 q => keep d w (fun z => ?_) q) (fun _ q => q) fun _ _ q => q
    subst z
    rcases hd2 with z | z
    · subst z
      rw [show H _ = none from p2] at e; cases e
    · rw [show H _ = none from p2] at z; cases z
/-- the items' order at the end: values for trees -/
theorem each_trees {K : PySem.W.Frag} {H : Hp} {W : Wd} : ∀ {out : List Value} {ps : List (T × PyData)}, PySem.W.EachIs (fun (v : Value) (p : T × PyData) => ∃ x : V, RelV x v ∧ Rp K H W p.1 x) out ps → ∃ xs : List V, Vals xs out ∧ RpL K H W (ps.map Prod.fst) xs
  | _, _, .nil => ⟨[], .nil, .nil⟩
  | _, _, .cons ⟨x, h1, h2⟩ r => by
    obtain ⟨xs, h3, h4⟩ := each_trees r
    exact ⟨x :: xs, .cons h1 h3, .cons h2 h4⟩
theorem each_start {K : PySem.W.Frag} {H : Hp} {W : Wd} : ∀ {us : List Value} {vs : List V} {ts : List T} {kz : List PyData}, Vals vs us → RpL K H W ts vs → kz.length = ts.length → PySem.W.EachIs (fun (v : Value) (p : T × PyData) => ∃ x : V, RelV x v ∧ Rp K H W p.1 x) us (ts.zip kz)
  | _, _, _, kz, .nil, .nil, h => by
    cases kz with
    | nil => exact .nil
    | cons _ _ => cases h
  | _, _, _, kz, .cons h1 r1, .cons h2 r2, h => by
    cases kz with
    | nil => cases h
    | cons d kz => exact .cons ⟨_, h1, h2⟩ (each_start r1 r2 (Nat.succ.inj h))
theorem each_keys {Hh : Hp} {W : Wd} {μ : Mu} (I : Inv X pins σ Hh s) (k : Ok X.K Hh W μ) {n : Nat} : ∀ {its : List Value} {vs : List V} {ks : List T} {kz : List PyData}, Vals vs its → RpL X.K Hh W ks vs → mapO (pyT μ n) ks = some kz → PySem.W.EachIs (fun v d => ∃ as, Reads s.heap v d as) its kz
  | _, _, _, kz, .nil, .nil, h => by cases h; exact .nil
  | _, _, t :: ks, kz, .cons h1 r1, .cons h2 r2, h => by
    unfold mapO at h
    split at h
    · rename_i d e1
      split at h
      · rename_i ds e2
        cases h
        exact .cons (Dp.reads I d _ _ (pyT_dp k n _ _ _ e1 h2) h1) (each_keys I k r1 r2 e2)
      · cases h
    · cases h
/-- two objects of the walk's own are let go; one is now a list that is tracked -/
theorem inv_two {a b : Addr} {oa ob : Obj} {vs : List V} {its : List Value} {c : Nat} {h' : Heap} {tk : Nat} (I : Inv X ((b, ob) :: (a, oa) :: pins) σ H s) (fa : FpOk X pins (fun _ => none) a) (fb : FpOk X pins (fun _ => none) b)
    (keep : ∀ d u, d ≠ a → d ≠ b → s.heap.get? d = some u → h'.get? d = some u) (new : h'.get? a = some (seqObj "list" its.toArray c)) (rv : Vals vs its) (hz : vs.length ≤ sizeLine) : Inv X pins σ (upd H a (.lst vs)) { s with heap := h', toks := tk } := by
  have pa := I.pin (a, oa) (List.mem_append_right _ (List.mem_cons_of_mem _ List.mem_cons_self))
  have pb := I.pin (b, ob) (List.mem_append_right _ List.mem_cons_self)
  have I0 : Inv X pins σ H s := I.pins_of fun r hr => I.pin r (List.mem_append_right _ (List.mem_cons_of_mem _ (List.mem_cons_of_mem _ hr)))
  have nH : H a = none := pa.2.1
  have nHb : H b = none := pb.2.1
  have out : ∀ d, d ∉ [a, b] → d ≠ a ∧ d ≠ b := fun d hd => ⟨fun z => hd (by rw [z]; simp), fun z => hd (by rw [z]; simp)⟩
  refine I0.step (g' := s.gens) (d' := s.drawn) (ch := [a, b]) (fun d hd => ?_) (fun d u _ _ hd e _ => keep d u (out d hd).1 (out d hd).2 e) (fun d u _ _ hd e _ => ⟨u.slots, keep d u (out d hd).1 (out d hd).2 e⟩)
    (fun d u hd _ n => by rw [upd_ne (out d hd).1]; exact n) (fun d u hd e => ⟨u, keep d u (out d hd).1 (out d hd).2 e⟩) (fun d xs e => by rw [upd_ne (ne_of_none e nH)]; exact e) (fun d o u e => by rw [upd_ne (ne_of_none e nH)]; exact e)
    (fun d ps e => ⟨#[], by rw [upd_ne (ne_of_none e nH), e]; simp⟩) (fun m ⟨o, es, ep, e, rest⟩ => ⟨o, es, ep, keep _ o (fun z => pa.2.2.1 z.symm) (fun z => pb.2.2.1 z.symm) e, rest⟩) (fun d u e => ?_) I0.bare
  · have hd' : d = a ∨ d = b := by simpa using hd
    rcases hd' with z | z
    · subst z; exact ⟨fa.2.2.2.1, fa.2.1, fa.2.2.2.2.1, fa.2.2.2.2.2⟩
    · subst z; exact ⟨fb.2.2.2.1, fb.2.1, fb.2.2.2.2.1, fb.2.2.2.2.2⟩
  · by_cases hd : d = a
    · subst hd
      rw [upd_same] at e
      cases e
      exact ⟨hz, its, c, rv, new⟩
    · rw [upd_ne hd] at e
      refine (I0.hok d u e).stay (fun f w hf q => keep f w (fun z => ?_) (fun z => ?_) q) (fun f q => by rw [upd_ne (ne_of_none q nH)]; exact q) fun f xs q => by rw [upd_ne (ne_of_none q nH)]; exact q
      · subst z
        rcases hf with z | z
        · exact hd z.symm
        · rw [nH] at z; cases z
      · subst z
        rcases hf with z | z
        · subst z; rw [nHb] at e; cases e
        · rw [nHb] at z; cases z
/-- the state between two keys -/
def Jk (X : Cx) (pins : List (Addr × Obj)) (σ : L2.St) (g : GL) (P : List T → Mu → Hp → Wd → List V → Prop) (H : Hp) (W : Wd) (ts : List T) (a b : Addr) (e1 : Nat) (i : Nat) (s' : Shared) : Prop :=
  ∃ (H' : Hp) (W' : Wd) (μ' : Mu) (e : Nat) (its : List Value) (vs' : List V) (done : List T), Inv X ((b, seqObj "list" its.toArray e) :: (a, seqObj "list" #[] e1) :: pins) σ H' s' ∧ Fr H W H' W' ∧ Ok X.K H' W' μ' ∧ Vals vs' its ∧ RpL X.K H' W' done vs' ∧ its.length = i ∧
    PoK X.K H' W' P done (keysM g (ts.drop i) μ')
theorem key_step {pf : List (Addr × Obj)} {u : Value} {pk : Hp → Prop} {g : GL} {P : List T → Mu → Hp → Wd → List V → Prop} {W : Wd} {ts : List T} {vs : List V} {a b : Addr} {e1 j : Nat} {s' : Shared} {v : V} {uv : Value} (C : Call1 X pf u pk g)
    (hpk : ∀ H W H' W', Rf H W H' W' → pk H → pk H') (p0 : pk H) (r : RpL X.K H W ts vs) (hv : vs[j]? = some v) (rv : RelV v uv) (fb : FpOk X (pins ++ pf) (fun _ => none) b) (hab : b ≠ a) (hf : ts.length ≤ 1000000)
    (h : Jk X (pins ++ pf) σ g P H W ts a b e1 j s') : wpAny (model X.prog X.w) X.A.in1.in1 ((call u [uv]).attempt) (fun (z : Except Value Value) s2 => ∃ kv, z = .ok kv ∧ ∀ Er : Value → Shared → Prop, wpAny (model X.prog X.w) X.A.in1.in1 (Builtin.List.listUpdate (.ref b) (·.push kv)) (fun _ s3 => Jk X (pins ++ pf) σ g P H W ts a b e1 (j + 1) s3) Er s2) (fun _ _ => False) s' := by
  obtain ⟨H', W', μ', e, its, vs', done, I', f', k', rv', rd, hl, q⟩ := h
  obtain ⟨t, ht, rt⟩ := r.getV hv
  have hj : j < ts.length := (List.getElem?_eq_some_iff.mp ht).1
  have hd : ts.drop j = t :: ts.drop (j + 1) := by
    rw [List.drop_eq_getElem_cons hj]
    rw [List.getElem?_eq_getElem hj] at ht
    rw [Option.some.inj ht]
  rw [hd] at q
  have q : PoK X.K H' W' P done ((g [t] μ').bind fun k1 μ1 => (keysM g (ts.drop (j + 1)) μ1).bind fun ks μ2 => .ok (k1 :: ks) μ2) := q
  refine wpAny_attempt (wpAny_mono (C ((b, seqObj "list" its.toArray e) :: (a, seqObj "list" #[] e1) :: pins) s' σ H' v uv
    (fun kx H1 => ∃ W1 μ1 k1, Fr H W H1 W1 ∧ Ok X.K H1 W1 μ1 ∧ RpL X.K H1 W1 done vs' ∧ Rp X.K H1 W1 k1 kx ∧ PoK X.K H1 W1 P done ((keysM g (ts.drop (j + 1)) μ1).bind fun ks μ2 => .ok (k1 :: ks) μ2)) I' (hpk _ _ _ _ f'.toRf p0) rv ?_) (fun kv s2 hk => ?_) fun _ _ z => z.elim)
  · refine ⟨W', μ', [t], k', .cons (rt.fr f') .nil, ?_⟩
    cases hg : g [t] μ' with
    | bad => rw [hg] at q; exact q.elim
    | ok k1 μ1 =>
      rw [hg] at q
      intro H1 W1 kx f1 ok1 r1
      exact ⟨W1, μ1, k1, f'.trans f1, ok1, rd.fr f1, r1, PoK.fr f1 q⟩
  · obtain ⟨kx, H1, I1, rk, W1, μ1, k1, f1, ok1, rd1, r1, q1⟩ := hk
    refine ⟨kv, rfl, fun Er => ?_⟩
    have pb : s2.heap.get? b = some (seqObj "list" its.toArray e) := (I1.pin (b, seqObj "list" its.toArray e) (List.mem_append_right _ List.mem_cons_self)).1
    have sb := Heap.SameBut.update s2.heap b (Obj.mapSeq (·.push kv))
    have hlen : its.length ≤ 1000000 := by omega
    refine listUpdate_at pb rfl ?_ (by rw [List.size_toArray, sizeLine_eq]; omega) (by rw [Array.size_push, List.size_toArray, sizeLine_eq]; omega)
    obtain ⟨e', he'⟩ : ∃ e', (s2.heap.update b (Obj.mapSeq (·.push kv))).get? b = some (seqObj "list" (its ++ [kv]).toArray e') := by
      have z := get?_update_seq pb (·.push kv)
      rw [show its.toArray.push kv = (its ++ [kv]).toArray by simp] at z
      exact ⟨_, z⟩
    have I2 := inv_own (tk := s2.toks) I1 fb.2.2.2.1 fb.2.2.2.2.1 (fun p hp z => ?_) (fun d w hb hw => (sb.2 d hb).trans hw) he' (fun v z => nomatch z)
    · refine ⟨H1, W1, μ1, e', its ++ [kv], vs' ++ [kx], done ++ [k1], I2, f1, ok1, rv'.append (.cons rk .nil), rd1.append (.cons r1 .nil), by rw [List.length_append, List.length_singleton, hl], ?_⟩
      cases hk : keysM g (ts.drop (j + 1)) μ1 with
      | bad => rw [hk] at q1; exact q1.elim
      | ok ks μ2 =>
        rw [hk] at q1
        intro H2 W2 ws f2 ok2 r2
        rw [List.append_assoc] at r2 ⊢
        exact q1 H2 W2 ws f2 ok2 r2
    · rcases List.mem_append.mp hp with hp | hp
      · exact fb.2.2.2.2.2 p (List.mem_append_left _ hp) z
      · rcases List.mem_cons.mp hp with e0 | hp
        · subst e0; exact hab z.symm
        · exact fb.2.2.2.2.2 p (List.mem_append_right _ hp) z
theorem mapO_nil_len {α β : Type} {f : α → Option β} {as : List α} {bs : List β} (h : mapO f as = some bs) : bs.length = as.length := mapO_len h
theorem keysM_len {g : GL} : ∀ {ts ks : List T} {μ μ' : Mu}, keysM g ts μ = .ok ks μ' → ks.length = ts.length
  | [], _, _, _, h => by cases h; rfl
  | t :: ts, ks, μ, μ', h => by
    unfold keysM at h
    cases h1 : g [t] μ with
    | bad => rw [h1] at h; cases h
    | ok k μ1 =>
      rw [h1] at h
      simp only [Out.bind_ok] at h
      cases h2 : keysM g ts μ1 with
      | bad => rw [h2] at h; cases h
      | ok ks' μ2 =>
        rw [h2] at h
        cases h
        rw [List.length_cons, List.length_cons, keysM_len h2]
theorem sortK_run {pf : List (Addr × Obj)} {qa : Addr} {pk : Hp → Prop} {g : GL} {fin : List T → Mu → Out T} {W : Wd} {μ : Mu} {ts : List T} {vs : List V} {us : List Value} {l : Addr} {o : Obj} {n : Nat} {Q : VK} (hu : X.A.units + 80 < cLine) (hfin : Lays fin) (C : Call1 X pf (.ref qa) pk g)
    (hpk : ∀ H W H' W', Rf H W H' W' → pk H → pk H') (p0 : pk H) (I : Inv X (pins ++ pf) σ H s) (e1 : s.heap.get? l = some o) (e2 : o.cls = .type "list" ∨ o.cls = .type "tuple") (e3 : o.data = .seq us.toArray n)
    (rv : Vals vs us) (k : Ok X.K H W μ) (r : RpL X.K H W ts vs) (q : PoE X.K H W Q (sortO g fin ts μ)) : wpAny (model X.prog X.w) X.A (call (.builtin "sorted") [.ref l] [(Str.ofString "key", .ref qa)]) (EP X (pins ++ pf) σ Q) X.xe s := by
  unfold sortO at q
  by_cases hf : few ts = true
  · rw [if_pos hf] at q
    have hlen : ts.length ≤ 1000000 := Nat.le_of_ble_eq_true hf
    have l1 := r.length
    have l2 := rv.length
    have hz : us.length ≤ sizeLine := by rw [sizeLine_eq]; omega
    refine sorted_by e1 e2 e3 hz (PyProof.Rows.ksk_s1 _ _) (fun _ => PyProof.Rows.ksk_l1 _ _) fun Eb => ?_
    rw [PyProof.Rows.ksk_t1]
    have ha : s.heap.objs.size ≤ s.heap.objs.size + 1 := Nat.le_succ _
    obtain ⟨ep, he⟩ : ∃ ep, ((PySem.W.copyHeap s.heap us).update (s.heap.objs.size + 1) (Obj.mapSeq fun _ => (#[] : Array Value))).get? (s.heap.objs.size + 1) = some (seqObj "list" #[] ep) := ⟨_, get?_update_seq (PySem.W.copyHeap_at s.heap us) fun _ => #[]⟩
    unfold PyProof.Rows.ksk_tree
    refine wpAny_bind (listItems_at (PySem.W.copyHeap_at s.heap us) rfl ?_)
    refine wpAny_bind (listUpdate_at (PySem.W.copyHeap_at s.heap us) rfl ?_ (by rw [List.size_toArray]; exact hz) (Nat.zero_le _))
    refine wpAny_bind (seqEpoch_at he rfl ?_)
    refine wpAny_bind (wpAny_newTuple ?_ (by show us.length ≤ _; exact hz))
    refine wpAny_bind (wpAny_newList ?_ (Nat.zero_le _))
    apply wpAny_holding
    have hb : s.heap.objs.size ≤ (((PySem.W.copyHeap s.heap us).update (s.heap.objs.size + 1) (Obj.mapSeq fun _ => (#[] : Array Value))).push (seqObj "tuple" us.toArray 0)).objs.size := by
      rw [size_push', Heap.size_update]
      exact Nat.le_of_lt (Nat.lt_succ_of_lt (Nat.lt_of_succ_lt (Heap.lt_size (PySem.W.copyHeap_at s.heap us))))
    have hab : (((PySem.W.copyHeap s.heap us).update (s.heap.objs.size + 1) (Obj.mapSeq fun _ => (#[] : Array Value))).push (seqObj "tuple" us.toArray 0)).objs.size ≠ s.heap.objs.size + 1 := by
      rw [size_push', Heap.size_update]
      exact Nat.ne_of_gt (Nat.lt_succ_of_lt (Heap.lt_size (PySem.W.copyHeap_at s.heap us)))
    have fa := I.fpOk (H' := fun _ => none) ha rfl
    have fb := I.fpOk (H' := fun _ => none) hb rfl
    have na : H (s.heap.objs.size + 1) = none := I.hok.fresh ha
    have nb := I.hok.fresh hb
    have I2 : Inv X (pins ++ pf) σ H { s with heap := PySem.W.sortingHeap (PySem.W.copyHeap s.heap us) (s.heap.objs.size + 1) us } := I.kept (t' := s.toks) fun b u e => PySem.W.sorting_copy_old e
    have oa : (PySem.W.sortingHeap (PySem.W.copyHeap s.heap us) (s.heap.objs.size + 1) us).get? (s.heap.objs.size + 1) = some (seqObj "list" #[] ep) := Heap.get?_push_of_some _ (Heap.get?_push_of_some _ he)
    have I3 := inv_pin (inv_pin I2 oa na fa.2.1 fa.2.2.1 (fun v z => nomatch z)) (Heap.get?_push_size _ rfl) nb fb.2.1 fb.2.2.1 (fun v z => nomatch z)
    unfold PyProof.Rows.ksk_rest
    apply wpAny_bind
    apply wpAny_rule
    rw [← Array.forIn_toList]
    apply wpAny_bind
    refine PyProof.Rows.ksk_fold (fun i s' => Jk X (pins ++ pf) σ g (fun ks μ' H' W' _ => PoE X.K H' W' Q (match mapO (pyT μ' 60) ks with
      | some kz => if (alikeB kz && sortableB kz && shallowB kz) = true then fin (sortBy kz ts) μ' else .bad
      | none => .bad)) H W ts (s.heap.objs.size + 1) ((((PySem.W.copyHeap s.heap us).update (s.heap.objs.size + 1) (Obj.mapSeq fun _ => (#[] : Array Value))).push (seqObj "tuple" us.toArray 0)).objs.size) ep i s') _ 0 _ ?h0 ?hs ?hd
    case h0 =>
      refine ⟨H, W, μ, 0, [], [], [], I3, Fr.refl, k, .nil, .nil, rfl, ?_⟩
      rw [List.drop_zero]
      cases hk : keysM g ts μ with
      | bad => rw [hk] at q; exact q.elim
      | ok ks μ1 =>
        rw [hk] at q
        exact fun H' W' vs' f' k' r' => Po.fr f' q
    case hs =>
      intro j x s' hx hJ
      rw [Nat.zero_add] at hJ
      have hx : us[j]? = some x := hx
      have hjl : j < vs.length := by rw [l2]; exact (List.getElem?_eq_some_iff.mp hx).1
      obtain ⟨x', hx', rx⟩ := rv.get (List.getElem?_eq_getElem hjl)
      rw [hx] at hx'; cases hx'
      refine wpAny_bind (wpAny_mono (key_step C hpk p0 r (List.getElem?_eq_getElem hjl) rx fb hab hlen hJ) (fun z s2 hz2 => ?_) fun _ _ z => z.elim)
      obtain ⟨kv, rfl, hz3⟩ := hz2
      apply wpAny_bind
      apply wpAny_mono (hz3 _) (fun _ s3 h3 => ?_) fun _ _ z => z
      apply wpAny_pure
      rw [Nat.zero_add]
      exact ⟨rfl, h3⟩
    case hd =>
      intro s' hJ
      obtain ⟨H', W', μ', e, its, vs', done, I', f', k', rv', rd, hl, q'⟩ := hJ
      have hul : its.length = us.length := by rw [hl, Nat.zero_add]
      rw [Nat.zero_add, List.drop_of_length_le (by simp <;> omega)] at q'
      have q' := q' H' W' vs' Fr.refl k' (by rw [List.append_nil]; exact rd)
      rw [List.append_nil] at q'
      have pb := (I'.pin (_, seqObj "list" its.toArray e) (List.mem_append_right _ List.mem_cons_self)).1
      have pa := (I'.pin (s.heap.objs.size + 1, seqObj "list" #[] ep) (List.mem_append_right _ (List.mem_cons_of_mem _ List.mem_cons_self))).1
      refine wpAny_bind (listItems_at pb rfl ?_)
      split at q'
      · rename_i kz hkz
        split at q'
        · rename_i hc
          rw [Bool.and_eq_true, Bool.and_eq_true] at hc
          have hal := alikeB_all hc.1.1
          have hdone : done.length = ts.length := by
            have z1 := rd.length
            have z2 := rv'.length
            omega
          have hkl : kz.length = ts.length := by rw [mapO_len hkz, hdone]
          have ek := each_keys I' k' rv' rd hkz
          obtain ⟨G, g1, g2⟩ := restrict s'.heap fun d => !(decide (d = s.heap.objs.size + 1)) && !(decide (d = (((PySem.W.copyHeap s.heap us).update (s.heap.objs.size + 1) (Obj.mapSeq fun _ => (#[] : Array Value))).push (seqObj "tuple" us.toArray 0)).objs.size))
          have gk : PySem.W.KeepsBut (s.heap.objs.size + 1) G s'.heap := fun d w _ hw => by
            cases hp : (!(decide (d = s.heap.objs.size + 1)) && !(decide (d = (((PySem.W.copyHeap s.heap us).update (s.heap.objs.size + 1) (Obj.mapSeq fun _ => (#[] : Array Value))).push (seqObj "tuple" us.toArray 0)).objs.size)))
            · rw [g2 d hp] at hw; cases hw
            · rw [← g1 d hp]; exact hw
          have hroom : ∀ d, d ∈ kz → X.A.in1.in1.units + d.depth < cLine := fun d hd => by
            have z := of_decide_eq_true (List.all_eq_true.mp hc.2 d hd)
            show X.A.units + 1 + 1 + d.depth < cLine
            omega
          refine PySem.W.keyH_end (κ := PySem.W.dataKind s'.heap kz) gk (g2 _ (by simp)) pb pa hab (PySem.W.SortsAt.data ek hal (sortableB_all hc.1.2) hroom) (by rw [List.size_toArray]; exact hul) hz fun h' tk c kp hn => ?_
          have hmap : (ts.zip kz).map Prod.snd = kz := by rw [List.map_snd_zip]; omega
          have ko : PySem.W.KeyedOut false ((ts.zip kz).map Prod.snd) us (PySem.W.sortVals (PySem.W.dataKind s'.heap kz) false its us) := ⟨s'.heap, its, by rw [hmap]; exact hal, by rw [hmap], by rw [hmap]; exact ek⟩
          obtain ⟨xs, x1, x2⟩ := each_trees (PySem.W.keyedOut_each Prod.snd ko (each_start rv (r.fr f') hkl))
          have hxl : xs.length ≤ sizeLine := by
            have z1 := x2.length
            rw [List.length_map, (List.mergeSort_perm _ _).length_eq, List.length_zip] at z1
            rw [sizeLine_eq]
            omega
          have keep : ∀ d w, d ≠ s.heap.objs.size + 1 → d ≠ (((PySem.W.copyHeap s.heap us).update (s.heap.objs.size + 1) (Obj.mapSeq fun _ => (#[] : Array Value))).push (seqObj "tuple" us.toArray 0)).objs.size → s'.heap.get? d = some w → h'.get? d = some w := fun d w h1 h2 hw =>
            kp d w h1 (by rw [g1 d (by rw [decide_eq_false h1, decide_eq_false h2] <;> rfl)]; exact hw)
          have I4 := inv_two (tk := tk) I' fa fb keep hn x1 hxl
          refine ⟨rfl, .ref (s.heap.objs.size + 1), _, I4, rfl, hfin X.K H' W' μ' Q _ xs k' x2 q' _ ?_⟩
          exact (I'.pin (s.heap.objs.size + 1, seqObj "list" #[] ep) (List.mem_append_right _ (List.mem_cons_of_mem _ List.mem_cons_self))).2.1
        · exact q'.elim
      · exact q'.elim
  · rw [if_neg hf] at q
    exact q.elim
end
end Mr

namespace Mr
open PySem PySem.Spec PyProof.Rows L2

/-! ### sorted(e, key=a def or a lambda of one parameter) -/
section
variable {X : Cx} {pins : List (Addr × Obj)} {σ : L2.St} {H : Hp} {s : Shared}
theorem call1_def {k : Nat} {f : Addr} {fd : FuncData} {ps : List Str} {m : GL} (F : DefM X.prog X.w X.K X.mg X.base k f fd ps m) (har : Ar ps.length m) (hG : X.A.guards = some []) (hr : Room (k + 2) X.A) (hb : Binds X.K fd ps []) : Call1 X [] (.ref f) (fun _ => True) m := by
  intro pins s σ H x ux Q I _ rx ⟨W, μ, ts, ok, r, q⟩
  have sp : spM X.K ps.length m [x] H Q E0 := Po.spM (har _ _) ok r q
  have hlen : [ux].length = ps.length := F.len _ _ _ _ sp
  have bd := hb s [ux] I.kIn (by rw [List.append_nil]; exact hlen)
  rw [List.append_nil] at bd
  have e0 : Env0 X.prog X.w X.K X.mg X.base X.A.in1.in1 X.stack s H := I.env0.in1.in1
  have go := F.run X.A.in1.in1 X.stack s H ⟨[ux], []⟩ [ux] [x] Q E0 hG (Room.in1 (Room.in1 hr)) e0 bd (.cons rx .nil) sp
  apply wpAny_call
  apply codeAny_mono go
  intro z s' hz
  rcases z with e | (_ | _ | _ | u)
  all_goals first | exact I.after hz | exact False.elim hz
/-- a lambda's answer -/
def lamM (n : Nat) (mb : ME) : GL := fun ts μ => mb (startR n ts) μ
theorem call1_lam {j : Nat} {f c : Addr} {q : Str} {params : Arguments} {body : Expr} {scope : Scope} {pm ctv : Value} {N : List Str} {x : Str} {mb : ME} (S : FnScope N [x] scope) (hG : X.A.guards = some []) (hr : Room (j + 3) X.A)
    (hbind : ∀ ux : Value, bindArgs (PySem.W.kla_fn "<lambda>" q params body scope [] pm (.ref c) ctv) ⟨[ux], []⟩ = pure ([x].zip [ux]))
    (hbody : ∀ (A : Around) (outer : List Env) (s : Shared) (H : Hp), A.guards = some [] → Room j (A.deeper (envOfC q scope s.heap.objs.size f (.ref c))) → JE (cxOf CX0 X.prog X.w X.K X.mg X.base N q scope f (.ref c) A outer s H E0) body mb) :
    Call1 X [(f, PySem.W.kla_obj "<lambda>" q params body scope [] pm c ctv)] (.ref f) (fun H => H c = some (LamX.CodeO c q)) (lamM N.length mb) := by
  intro pins s σ H vx ux Q I hc rx ⟨W, μ, ts, ok, r, qq⟩
  have inK : X.K.In s.heap := I.kIn
  have noLim : s.heap.NoLimit := (Mod.nolimit I.ok.mod).keeps I.bk
  have ho := (I.pin (f, PySem.W.kla_obj "<lambda>" q params body scope [] pm c ctv) (List.mem_append_right _ (List.mem_append_right _ List.mem_cons_self))).1
  have e0 : Env0 X.prog X.w X.K X.mg X.base X.A.in1.in1 X.stack s H := I.env0.in1.in1
  have hr2 : Room (j + 1) X.A.in1.in1 := Room.in1 (Room.in1 hr)
  obtain ⟨⟨oc, fs, t, h1, h2, h3⟩, _⟩ := (show ObjOk X.prog X.w H s.heap c (LamX.CodeO c q) from I.hok c _ hc)
  have kinds : ∀ y ∈ [x].zip [ux], scope.names.lookup y.1 = some .local ∨ (scope.names.lookup y.1 = some .cell ∧ ((cellsFrom (s.heap.objs.size + 1) scope.names []).lookup y.1).isSome = true) := by
    rintro ⟨n, v⟩ hy
    rcases S.par n (List.of_mem_zip hy).1 with w | w
    · exact .inl w
    · exact .inr ⟨w, PySem.W.cellsFrom_some _ _ _ (.inl w)⟩
  apply wpAny_call
  apply PySem.W.kla_callFunE hr2.depth ho rfl S.co S.gen rfl ⟨c, oc, fs, t, rfl, h1, h2, h3⟩
  rw [hbind ux]
  apply wpAny_pure
  apply wpAny_newFunctionEnv_cells S.kind kinds
  intro env he s1 x1
  subst he
  refine And.intro (noLim.keeps x1.toInCall.keep) (PySem.W.kla_codeExpr ?_)
  have J0 := inv_start (CX := CX0) (w := X.w) (N := N) (qual := q) (f := f) (cd := .ref c) (E := E0) S hr2.hd e0 (vs := [vx]) rfl (.cons rx .nil) x1
  apply wpAny_mono ((hbody X.A.in1.in1 X.stack s H hG (hr2.deeper _)).run [] s1 (start N [vx]) H Q J0 ⟨W, startR N.length ts, μ, ok, rpSt_start rfl r, qq⟩)
  · intro u s' ⟨v, H', J, rv, hq⟩
    exact I.after ⟨v, H', J.os, J.bare, J.base, J.hok, rv, hq⟩
  · intro e s' hs
    exact hs
/-- the key expression: it gives what may be called with one value -/
def KeyE (X : Cx) (ke : Expr) (g : GL) (ck : Mu → Bool) : Prop :=
  ∀ (pins : List (Addr × Obj)) (s : Shared) (σ : L2.St) (H : Hp) (W : Wd) (μ : Mu) (Q : Value → Shared → Prop), Inv X pins σ H s → Ok X.K H W μ → ck μ = true →
    (∀ (pf : List (Addr × Obj)) (qa : Addr) (pk : Hp → Prop) (H' : Hp) (s' : Shared), Inv X (pins ++ pf) σ H' s' → Fr H W H' W → Ok X.K H' W μ → Call1 X pf (.ref qa) pk g → (∀ H W H' W', Rf H W H' W' → pk H → pk H') → pk H' → Q (.ref qa) s') →
    wpAny (model X.prog X.w) X.A (eval ke X.env) Q X.xe s
theorem key_def {y : Str} {yp : Pos} {f : Addr} {g : GL} (hg : Gl X y) (hm : X.mg y = some (.ref f)) (C : Call1 X [] (.ref f) (fun _ => True) g) (hdb : (y == ("__debug__" : Str)) = false := by decide) : KeyE X (.Name y yp) g (fun _ => true) := by
  intro pins s σ H W μ Q I ok _ h
  refine ld_glob I hg hm ?_ hdb
  exact h [] f (fun _ => True) H s (by rw [List.append_nil]; exact I) Fr.refl ok C (fun _ _ _ _ _ z => z) trivial
def hasTab (i : Nat) (P : Addr) (q : Str) (μ : Mu) : Bool := match μ[i]? with
  | some (.tab P' q') => decide (P' = P) && decide (q' = q)
  | _ => false
/-- the tables of the store -/
def tabsOf : Mu → List (Addr × Str)
  | [] => []
  | .tab P q :: μ => (P, q) :: tabsOf μ
  | _ :: μ => tabsOf μ
theorem mem_tabsOf : ∀ {μ : Mu} {P : Addr} {q : Str}, (P, q) ∈ tabsOf μ ↔ ∃ i : Nat, μ[i]? = some (MO.tab P q)
  | [], P, q => by simp [tabsOf]
  | o :: μ, P, q => by
    have ih := mem_tabsOf (μ := μ) (P := P) (q := q)
    have step : (∃ i : Nat, (o :: μ)[i]? = some (MO.tab P q)) ↔ (o = MO.tab P q ∨ ∃ i : Nat, μ[i]? = some (MO.tab P q)) := by
      constructor
      · rintro ⟨i, hi⟩
        cases i with
        | zero => exact .inl (by simpa using hi)
        | succ i => exact .inr ⟨i, by simpa using hi⟩
      · rintro (h | ⟨i, hi⟩)
        · exact ⟨0, by simp [h]⟩
        · exact ⟨i + 1, by simpa using hi⟩
    rw [step]
    cases o with
    | tab P' q' => rw [tabsOf, List.mem_cons, ih]; constructor <;> (rintro (h | h); (first | (cases h; exact .inl rfl) | exact .inr h); exact .inr h)
    | lst ts => exact ih.trans ⟨.inr, fun h => h.elim (fun z => nomatch z) id⟩
    | dead => exact ih.trans ⟨.inr, fun h => h.elim (fun z => nomatch z) id⟩
theorem key_lam {j i : Nat} {c P : Addr} {params : Arguments} {body : Expr} {scope : Scope} {lpos : Pos} {N : List Str} {x : Str} {mb : ME} (TB : LamX.TabB X.base X.mg c P) (hcode : X.env.code = .ref c) (S : FnScope N [x] scope) (hG : X.A.guards = some []) (hr : Room (j + 3) X.A)
    (hdef : defaultsOf params X.env = ([], []) := by rfl) (hfr : ∀ y ∈ scope.names, y.2 ≠ .free)
    (hbind : ∀ (pm ctv ux : Value) (c : Addr), bindArgs (PySem.W.kla_fn "<lambda>" (X.env.qual ++ "<lambda>") params body scope [] pm (.ref c) ctv) ⟨[ux], []⟩ = pure ([x].zip [ux]))
    (hcl : cloFrom X.env.cells scope.names [] = [])
    (hbody : ∀ (f c : Addr) (A : Around) (outer : List Env) (s : Shared) (H : Hp), A.guards = some [] → Room j (A.deeper (envOfC (X.env.qual ++ "<lambda>") scope s.heap.objs.size f (.ref c))) → JE (cxOf CX0 X.prog X.w X.K X.mg X.base N (X.env.qual ++ "<lambda>") scope f (.ref c) A outer s H E0) body mb) :
    KeyE X (.Lambda params body scope lpos) (lamM N.length mb) (hasTab i P (X.env.qual ++ "<lambda>")) := by
  intro pins s σ H W μ Q I ok hck h
  have hi : μ[i]? = some (.tab P (X.env.qual ++ "<lambda>")) := by
    unfold hasTab at hck
    split at hck
    · rename_i P' q' e
      rw [Bool.and_eq_true, decide_eq_true_eq, decide_eq_true_eq] at hck
      rw [e, hck.1, hck.2]
    · cases hck
  have hT : LamX.Tabs (tabsOf μ) H := fun p hp => by
    obtain ⟨n, hn⟩ := mem_tabsOf.mp hp
    obtain ⟨a, ha, e, ht⟩ := ok.get hn
    exact ht
  refine LamX.lam_make2 (T := tabsOf μ) I TB hcode (mem_tabsOf.mpr ⟨i, hi⟩) (fun p hp e => ?_) hT hdef (fun y hy e => absurd e (hfr y hy)) fun f c' pm ctv H1 s' I1 ext T1 hf hf0 hfs hc' => ?_
  · obtain ⟨n, hn⟩ := mem_tabsOf.mp hp
    obtain ⟨a, ha, e1, _⟩ := ok.get hn
    obtain ⟨b, hb, e2, _⟩ := ok.get hi
    have eab : a = b := by rw [e1, e2]; exact e
    have hni : n = i := by
      obtain ⟨l1, g1⟩ := List.getElem?_eq_some_iff.mp ha
      obtain ⟨l2, g2⟩ := List.getElem?_eq_some_iff.mp hb
      exact (List.getElem_inj ok.nd).mp (g1.trans (eab.trans g2.symm))
    rw [hni, hi] at hn
    have z := Option.some.inj hn
    injection z with z1 z2
    exact z2.symm
  · rw [hcl] at hf
    have st : ∀ a, NT (H a) → H1 a = H a := fun a hn => by
      cases e : H a with
      | none => exact absurd e hn.1
      | some o => exact ext a o e fun ps z => hn.2 ps (by rw [e, z])
    have hloc : f ≠ X.env.locals := fun z => by
      have z2 := I1.free
      obtain ⟨m, ⟨ob, es, ep, ho', hd', _⟩, _⟩ := I1.loc
      rw [← z, hf] at ho'
      cases ho'
      cases hd'
    have hfx : f ∉ X.fs := fun z => by
      apply hfs
      rcases I1.ok.stk with e | ⟨e, hfr⟩
      · rw [e]; exact z
      · rw [e]
        unfold frs
        rw [List.filterMap_cons, hfr]
        exact List.mem_cons_of_mem _ z
    have I2 := inv_pin I1 hf hf0 hloc hfx (fun v z => nomatch z)
    have I3 : Inv X (pins ++ [(f, PySem.W.kla_obj "<lambda>" (X.env.qual ++ "<lambda>") params body scope [] pm c' ctv)]) σ H1 s' := I2.pins_of fun p hp => I2.pin p (List.mem_append_right _ (by
      rcases List.mem_append.mp hp with hp | hp
      · exact List.mem_cons_of_mem _ hp
      · rw [List.mem_singleton.mp hp]; exact List.mem_cons_self))
    have fr : Fr H W H1 W := ⟨⟨fun a ha => ⟨ha, st a (ok.fk a ha).1⟩, fun a xs e => ext a _ e (fun ps z => nomatch z), fun a o u e => ext a _ e (fun ps z => nomatch z), fun _ _ e => e, fun a φ e => ext a _ e (fun ps z => nomatch z)⟩, rfl, fun a ha => st a (ok.gk a ha)⟩
    refine h _ f _ H1 s' I3 fr ⟨ok.len, ok.nd, ok.nf, fun a ha => ?_, fun a ha => ?_, fun n a o h1 h2 => ?_⟩ (call1_lam S hG hr (fun ux => hbind pm ctv ux c') (hbody f c')) (fun H W H' W' f e => f.ex _ _ e) hc'
    · rw [st a (ok.fk a ha).1]; exact ok.fk a ha
    · rw [st a (ok.gk a ha)]; exact ok.gk a ha
    · have ob := ok.ob n a o h1 h2
      cases o with
      | lst ts =>
        obtain ⟨vs, e1, e2⟩ := ob
        exact ⟨vs, ext a _ e1 (fun ps z => nomatch z), e2.fr fr⟩
      | dead => show NT (H1 a); rw [st a ob]; exact ob
      | tab P' q' => exact ⟨ob.1, T1 (P', q') (mem_tabsOf.mpr ⟨n, h2⟩)⟩
def mSortK (g : GL) (ck : Mu → Bool) (fin : List T → Mu → Out T) (me : ME) : ME := fun ρ μ => (me ρ μ).bind fun t μ1 => if ck μ1 = true then match asSeq μ1 t with
    | some ts => sortO g fin ts μ1
    | none => .bad
  else .bad
theorem je_sortK {e ke : Expr} {me : ME} {g : GL} {ck : Mu → Bool} {fin : List T → Mu → Out T} {p pos kp : Pos} (hg : Gl X "sorted") (hm : X.mg "sorted" = none) (hfin : Lays fin) (hu : X.A.units + 80 < cLine) (ha : JE X e me) (hk : KeyE X ke g ck)
    (hst : starEach [e] X.env = [(false, eval e X.env)] := by rfl) (he : backTo pos (starEach [e] X.env) = (false, eval e X.env) :: backTo pos (starEach [] X.env) := by rfl) (hpl : (backTo pos (starEach [e] X.env)).any (·.1) = false := by rfl) :
    JE X (.Call (.Name "sorted" p) [e] [⟨some "key", ke, kp⟩] pos) (mSortK g ck fin me) := by
  refine ⟨fun pins s σ H Q I h => ?_⟩
  obtain ⟨W, ρ, μ, ok, st, q⟩ := h
  refine wpAny_Call_Name_kw (ld_blt I hg hm boot_sorted ?_ (by decide) (by decide))
  refine PyProof.Rows.callWith_kw (thn ((ja_cons ha ja_nil hst).run pos pins s σ H (fun vs H1 => ∃ W1 μ1 t v, vs = [v] ∧ Fr H W H1 W1 ∧ Ok X.K H1 W1 μ1 ∧ Rp X.K H1 W1 t v ∧ PoE X.K H1 W1 Q (if ck μ1 = true then match asSeq μ1 t with
      | some ts => sortO g fin ts μ1
      | none => .bad
    else .bad)) I ⟨W, ρ, μ, ok, st, ?_⟩) fun us s1 ⟨vs, H1, I1, r1, q1⟩ => ?_) he hpl rfl rfl
  · show PoA X.K H W _ ((me ρ μ).bind fun t μ1 => (Out.ok [] μ1).bind fun ts μ2 => .ok (t :: ts) μ2)
    have q : PoE X.K H W Q ((me ρ μ).bind _) := q
    cases hme : me ρ μ with
    | bad => rw [hme] at q; exact q.elim
    | ok t μ1 =>
      rw [hme] at q
      intro H1 W1 vs f1 k1 r1
      cases r1 with
      | cons r1 rl =>
        cases rl
        exact ⟨W1, μ1, t, _, rfl, f1, k1, r1, Po.fr f1 q⟩
  · obtain ⟨W1, μ1, t, v, rfl, f1, ok1, rt, q2⟩ := q1
    by_cases hck : ck μ1 = true
    · rw [if_pos hck] at q2
      show wpAny _ _ (evalAll ((do let v ← eval ke X.env; standAt pos; pure v) :: [])) _ _ s1
      refine wpAny_evalAll_cons (wpAny_bind (hk pins s1 σ H1 W1 μ1 _ I1 ok1 hck fun pf qa pk H2 s2 I2 f2 ok2 C hpk p2 => ?_))
      refine wpAny_bind (wpAny_standAt (wpAny_pure (wpAny_evalAll_nil ?_)))
      split at q2
      · rename_i ts hs
        obtain ⟨a, vs, rfl, z, l⟩ := asSeq_sq ok2 (rt.fr f2) hs
        cases r1 with
        | cons r1 rl =>
          cases rl
          cases r1
          have fin2 : ∀ {its : List Value} {o : Obj} {n : Nat}, Vals vs its → s2.heap.get? a = some o → (o.cls = .type "list" ∨ o.cls = .type "tuple") → o.data = .seq its.toArray n → wpAny (model X.prog X.w) X.A (call (.builtin "sorted") [.ref a] [(Str.ofString "key", .ref qa)]) (EP X pins σ Q) X.xe s2 := fun {its o n} rv e1 e2 e3 =>
            wpAny_mono (sortK_run hu hfin C hpk p2 I2 e1 e2 e3 rv ok2 l (Po.fr f2 q2)) (fun u s' ⟨x, H', I', r', q'⟩ => ⟨x, H', I'.unpinned, r', q'⟩) fun _ _ z => z
          rcases z with z | z
          · obtain ⟨its, rv, ⟨o, n, h1, h2, _, h3⟩, _⟩ := I2.list z
            exact fin2 rv h1 (.inl h2) h3
          · obtain ⟨its, rv, ⟨o, h1, h2, n, h3⟩, _⟩ := I2.tuple z
            exact fin2 rv h1 (.inr h2) h3
      · exact q2.elim
    · rw [if_neg hck] at q2
      exact q2.elim
end
end Mr
namespace Mr
open PySem PySem.Spec PyProof.Rows L2
/-! ### repr -/
section
variable {X : Cx}
def gRepr : GL := fun ts μ => match ts with
  | [t] => match pyT μ 60 t with
    | some d => if (d.showable && SeqAt.shaped d && Nat.ble d.shown.cps.size 100000) = true then .ok (.str d.shown.cps.toList) μ else .bad
    | none => .bad
  | _ => .bad
theorem str_eta (z : Str) : (⟨z.cps.toList.toArray⟩ : Str) = z := by
  cases z
  simp
theorem cRepr (hG : X.A.guards = some []) (hu : X.A.units + 80 < cLine) : JC X (.builtin "repr") gRepr := by
  intro pins s σ H xs us Q I rs ⟨W, μ, ts, k, r, q⟩
  unfold gRepr at q
  split at q
  · rename_i t
    split at q
    · rename_i d hd
      split at q
      · rename_i hc
        rw [Bool.and_eq_true, Bool.and_eq_true] at hc
        have hsz : d.shown.length ≤ sizeLine := small_str (Nat.le_of_ble_eq_true hc.2)
        have hdep := SeqAt.depth_of_shaped hc.1.2
        have hnd : d.hasDict = false := PyData.hasDict_of_canLay d (SeqAt.canLay_of_shaped hc.1.2)
        cases r with
        | cons r rl =>
          cases rl
          rename_i v
          have dp := pyT_dp k 60 t d v hd r
          obtain ⟨u, rfl, rv⟩ := vals1 rs
          obtain ⟨as, hr⟩ := Dp.reads I d v u dp rv
          have fin : ∀ h' tk tt, (∀ b o, s.heap.get? b = some o → h'.get? b = some o) → EP X pins σ Q (.str d.shown tt) { s with heap := h', toks := tk } := fun h' tk tt hk => by
            refine ⟨.str d.shown, H, I.kept hk, ⟨_, rfl⟩, ?_⟩
            have q' := Po.go (R := Rp X.K) q Fr.refl k (.str d.shown.cps.toList)
            rwa [str_eta] at q'
          have fin0 : ∀ tk tt, EP X pins σ Q (.str d.shown tt) { s with toks := tk } := fun tk tt => fin s.heap tk tt fun _ _ e => e
          cases hr with
          | none =>
            refine PySem.P.repr_of_none ?_
            have z := fin0 (s.toks + 1) s.toks
            simpa only [PyData.shown] using z
          | bool b =>
            refine PySem.P.repr_of_bool ?_
            have z := fin0 (s.toks + 1) s.toks
            simpa only [PyData.shown] using z
          | int i t =>
            refine PySem.P.repr_of_int (by simpa [PyData.showable] using hc.1.1) ?_
            have z := fin0 (s.toks + 1) s.toks
            simpa only [PyData.shown] using z
          | str x t =>
            refine PySem.P.repr_of_str ?_ (by simpa only [PyData.shown] using hsz)
            have z := fin0 (s.toks + 1) s.toks
            simpa only [PyData.shown] using z
          | list h1 h2 h3 h4 => exact repr_of_reads' (.list h1 h2 h3 h4) hc.1.1 (PyData.noDict_hsm hnd) hG (by omega) (fun _ _ e => e) (fun h' u tk hk => fin h' tk u hk) hsz
          | tuple h1 h2 h3 h4 => exact repr_of_reads' (.tuple h1 h2 h3 h4) hc.1.1 (PyData.noDict_hsm hnd) hG (by omega) (fun _ _ e => e) (fun h' u tk hk => fin h' tk u hk) hsz
          | dict h1 h2 h3 h4 h5 => cases dp
      · exact q.elim
    · exact q.elim
  · exact q.elim
end
end Mr

namespace Mr
open PySem PySem.Spec PyProof.Rows L2

/-! ### the law's own call -/
section
variable {Pg : Program} {wd : World} {K : PySem.W.Frag} {gm bm : Str → Option Value} {st : Shared} {sc : Addr} {cs : List (Addr × Addr)} {us : List Value}
/-- what is tracked as the law begins: the tables, the script where it is not known -/
structure Begin (K : PySem.W.Frag) (st : Shared) (sc : Addr) (us : List Value) (ns : List Int) (cs : List (Addr × Addr)) (H : Hp) : Prop where
  tb : ∀ p ∈ cs, H p.2 = some (.tbl #[])
  sq : KF K H sc (ns.map V.int)
  al : ∀ b o, H b = some o → (b ∈ cs.map (·.2) ∧ o = .tbl #[]) ∨ (b = sc ∧ K.lookup sc = none ∧ o = .frz { cls := .type "list", data := .seq us.toArray } (.lst (ns.map V.int)))
theorem begins {ns : List Int} (hT : ∀ p ∈ cs, st.heap.get? p.2 = some { cls := .none, data := .fields #[] }) (hsc : st.heap.get? sc = some { cls := .type "list", data := .seq us.toArray }) (KX : K.In st.heap) (hi : IntsAre us ns) (hl : ns.length ≤ sizeLine) : ∃ H : Hp, Begin K st sc us ns cs H := by
  have rv := vals_ints hi
  have far : sc ∉ cs.map (·.2) := fun z => by
    obtain ⟨p, hp, e⟩ := List.mem_map.mp z
    have q := hT p hp
    rw [e, hsc] at q
    have z' := congrArg Obj.data (Option.some.inj q)
    cases z'
  have inT : ∀ p ∈ cs, p.2 ∈ cs.map (·.2) := fun p hp => List.mem_map_of_mem hp
  cases hk : K.lookup sc with
  | some o =>
    refine ⟨fun b => if b ∈ cs.map (·.2) then some (.tbl #[]) else none, fun p hp => if_pos (inT p hp), .inr ?_, fun b o hb => ?_⟩
    · have e := KX sc o hk
      rw [hsc] at e
      cases e
      exact ⟨_, us.toArray, _, hk, rfl, rfl, rfl, by rw [List.size_toArray, hi.length]; exact hl, by simpa using rv⟩
    · by_cases z : b ∈ cs.map (·.2)
      · have hb : (if b ∈ cs.map (·.2) then some (HO.tbl #[]) else none) = some o := hb
        rw [if_pos z] at hb
        exact .inl ⟨z, (Option.some.inj hb).symm⟩
      · have hb : (if b ∈ cs.map (·.2) then some (HO.tbl #[]) else none) = some o := hb
        rw [if_neg z] at hb
        cases hb
  | none =>
    refine ⟨fun b => if b = sc then some (.frz { cls := .type "list", data := .seq us.toArray } (.lst (ns.map V.int))) else if b ∈ cs.map (·.2) then some (.tbl #[]) else none, fun p hp => ?_, .inl ⟨_, if_pos rfl⟩, fun b o hb => ?_⟩
    · have n1 : p.2 ≠ sc := fun z => far (by rw [← z]; exact inT p hp)
      show (if p.2 = sc then _ else if p.2 ∈ cs.map (·.2) then _ else _) = _
      rw [if_neg n1, if_pos (inT p hp)]
    · by_cases z : b = sc
      · subst z
        have hb : (if b = b then some (HO.frz { cls := .type "list", data := .seq us.toArray } (.lst (ns.map V.int))) else _) = some o := hb
        rw [if_pos rfl] at hb
        exact .inr ⟨rfl, hk, (Option.some.inj hb).symm⟩
      · have hb : (if b = sc then some (HO.frz { cls := .type "list", data := .seq us.toArray } (.lst (ns.map V.int))) else if b ∈ cs.map (·.2) then some (HO.tbl #[]) else none) = some o := hb
        rw [if_neg z] at hb
        by_cases z2 : b ∈ cs.map (·.2)
        · rw [if_pos z2] at hb
          exact .inl ⟨z2, (Option.some.inj hb).symm⟩
        · rw [if_neg z2] at hb
          cases hb
/-- what stands in the base: dicts, plain objects, code objects -/
theorem untracked {ns : List Int} {H : Hp} (B : Begin K st sc us ns cs H) (hT : ∀ p ∈ cs, st.heap.get? p.2 = some { cls := .none, data := .fields #[] }) (hsc : st.heap.get? sc = some { cls := .type "list", data := .seq us.toArray }) {b : Addr} {o : Obj} (e : st.heap.get? b = some o) (h1 : ∀ vs n, o.data ≠ .seq vs n) (h2 : o.data ≠ .fields #[]) : H b = none := by
  cases q : H b with
  | none => rfl
  | some u =>
    rcases B.al b u q with ⟨z, _⟩ | ⟨z, _⟩
    · obtain ⟨p, hp, ep⟩ := List.mem_map.mp z
      have z2 := hT p hp
      rw [ep, e] at z2
      cases z2
      exact absurd rfl h2
    · rw [z, hsc] at e
      cases e
      exact absurd rfl (h1 _ _)
theorem lawRun {ns : List Int} {k : Nat} {fa : Addr} {fd : FuncData} {x : Str} {m : GL} {tq : Addr → Str} (KX : K.In st.heap) (gN : st.heap.Ns mainGlobals gm) (bN : st.heap.Ns builtinsNs bm) (bB : ∀ x : Str, x ≠ "__name__" → bm x = bootBuiltins x) (lim : st.heap.NoLimit) (gens : st.gens = #[])
    (hT : ∀ p ∈ cs, st.heap.get? p.2 = some { cls := .none, data := .fields #[] }) (nT : ∀ p ∈ cs, K.lookup p.2 = none) (C : ∀ p ∈ cs, PySem.W.CodeHd st.heap p.1 p.2) (nd : (cs.map (·.2)).Nodup)
    (main : ∃ (b : Addr) (ob : Obj), gm "__builtins__" = some (.ref b) ∧ b ≠ builtinsNs ∧ st.heap.get? b = some ob ∧ ob.cls = .type "module" ∧ ob.dict = some builtinsNs ∧ ob.data = .plain)
    (hsc : st.heap.get? sc = some { cls := .type "list", data := .seq us.toArray }) (hi : IntsAre us ns) (hl : ns.length ≤ sizeLine) (room : Room k callerA)
    (F : ∀ base : Heap, K.In base → base.Ns mainGlobals gm → (∀ p ∈ cs, LamX.TabB base gm p.1 p.2) → DefM Pg wd K gm base k fa fd [x] m) (bind : ∀ (s : Shared) (u : Value), BindsTo s fd ⟨[u], []⟩ [(x, u)])
    (law : ∃ μ', m [.kls (ns.map T.int)] (cs.map fun p => .tab p.2 (tq p.2)) = .ok (.bl true) μ') :
    codeAny (model Pg wd) callerA (.call (.ref fa) ⟨[.ref sc], []⟩) (fun r s' => r = .ok (.ret (.bool true)) ∧ OldK st.heap s'.heap ∧ s'.os = st.os ∧ AllBare s'.gens) st := by
  obtain ⟨H, B⟩ := begins hT hsc KX hi hl
  have free : ∀ {b : Addr} {o : Obj}, st.heap.get? b = some o → (∀ vs n, o.data ≠ .seq vs n) → o.data ≠ .fields #[] → (hidT st.heap H).get? b = some o := fun e h1 h2 => hidT_get e (untracked B hT hsc e h1 h2)
  have nsB : ∀ {b : Addr} {f : Str → Option Value}, st.heap.Ns b f → (hidT st.heap H).Ns b f := fun {b f} ⟨o, es, ep, e, d, rest⟩ =>
    ⟨o, es, ep, free e (fun vs n z => by rw [d] at z; cases z) (fun z => by rw [d] at z; cases z), d, rest⟩
  have hok : HOk Pg wd H st.heap := fun b u hb => by
    rcases B.al b u hb with ⟨z, rfl⟩ | ⟨z, _, rfl⟩
    · obtain ⟨p, hp, ep⟩ := List.mem_map.mp z
      rw [← ep]
      exact hT p hp
    · rw [z]
      exact ⟨hsc, by rw [List.length_map]; exact hl, us, _, vals_ints hi, hsc⟩
  have KB : K.In (hidT st.heap H) := fun b o e => hidT_get (KX b o e) (by
    cases q : H b with
    | none => rfl
    | some u =>
      rcases B.al b u q with ⟨z, _⟩ | ⟨z, z2, _⟩
      · obtain ⟨p, hp, ep⟩ := List.mem_map.mp z
        rw [← ep, nT p hp] at e
        cases e
      · rw [z, z2] at e
        cases e)
  have md : L2.Mod K gm (hidT st.heap H) := by
    obtain ⟨mc, l1, l2⟩ := lim
    exact ⟨KB, nsB gN, ⟨bm, nsB bN, bB⟩, mc, nsB l1, l2⟩
  have notMain : ∀ {b : Addr} {o : Obj}, st.heap.get? b = some o → (∀ es ep, o.data ≠ .dict es ep) → mainGlobals ≠ b := fun {b o} e h z => by
    obtain ⟨o2, es, ep, e2, d2, _⟩ := gN
    rw [z, e] at e2
    cases e2
    exact h _ _ d2
  have TB : ∀ p ∈ cs, LamX.TabB (hidT st.heap H) gm p.1 p.2 := fun p hp => by
    constructor
    · obtain ⟨o, fs, file, tf, flags, tg, inF, text, tt, e1, r1, r2, r3, rest⟩ := C p hp
      refine ⟨o, fs, file, tf, flags, tg, inF, text, tt, free e1 (fun vs n z => ?_) (fun z => ?_), r1, r2, r3, rest⟩
      · rw [r2] at z; cases z
      · rw [r2] at z
        cases z
        simp at r3
    · obtain ⟨b, ob, b1, b2, b3, b4, b5, b6⟩ := main
      refine ⟨b, ob, b1, b2, fun z => ?_, fun z => ?_, free b3 (fun vs n z => ?_) (fun z => ?_), b4, b5, b6⟩
      · exact notMain b3 (fun es ep z2 => by rw [b6] at z2; cases z2) z.symm
      · rw [z, hT p hp] at b3
        cases b3
        cases b6
      · rw [b6] at z; cases z
      · rw [b6] at z; cases z
    · exact notMain (hT p hp) fun es ep z => nomatch z
  have e0 : Env0 Pg wd K gm (hidT st.heap H) callerA [] st H := by
    refine ⟨rfl, md, fun b o e => of_hidT e, Nat.le_of_eq (hidT_size _ _), trivial, fun b hb => ?_, hok, .of_eq gens⟩
    exact absurd (show b ∈ ([] : List Addr) from hb) (List.not_mem_nil)
  obtain ⟨μ', hm⟩ := law
  have ok0 : Ok K H ⟨fun _ => False, fun _ => False, cs.map (·.2)⟩ (cs.map fun p => MO.tab p.2 (tq p.2)) := by
    refine ⟨by rw [List.length_map, List.length_map], nd, fun a _ => ⟨id, id⟩, fun a z => z.elim, fun a z => z.elim, fun i a o h1 h2 => ?_⟩
    have h1 : (cs.map (·.2))[i]? = some a := h1
    rw [List.getElem?_map] at h1 h2
    cases hc : cs[i]? with
    | none => rw [hc] at h1; cases h1
    | some p =>
      rw [hc] at h1 h2
      cases h1
      cases h2
      exact ⟨rfl, LamX.TabS.nil (B.tb p (List.mem_of_getElem? hc))⟩
  have sp : spM K [x].length m [.ref sc] H (fun v _ => v = .bl true) E0 := by
    refine ⟨rfl, _, _, _, ok0, .cons (.kls B.sq .of_ints) .nil, ?_⟩
    rw [hm]
    intro H1 W1 v f1 k1 r1
    cases r1
    rfl
  refine codeAny_mono ((F _ KB (nsB gN) TB).run callerA [] st H ⟨[.ref sc], []⟩ [.ref sc] [.ref sc] _ E0 rfl room e0 (bind st (.ref sc)) (.cons rfl .nil) sp) fun r s' hr => ?_
  rcases r with e | (_ | _ | _ | u)
  all_goals first | exact False.elim hr | skip
  obtain ⟨v, H', os, bare, un, hok', rv, q⟩ := hr
  have q : v = .bl true := q
  subst q
  have hu : u = Value.bool true := rv
  subst hu
  have keep : ∀ b o, b ∉ cs.map (·.2) → st.heap.get? b = some o → s'.heap.get? b = some o := fun b o hb e => by
    cases h : H b with
    | none => exact un.keep b o e h (List.not_mem_nil) (List.not_mem_nil)
    | some w =>
      rcases B.al b w h with ⟨z, _⟩ | ⟨_, _, z⟩
      · exact absurd z hb
      · subst z
        obtain ⟨a1, _⟩ := hok b _ h
        obtain ⟨a2, _⟩ := hok' b _ (un.frzs b _ _ h)
        rw [e] at a1
        cases a1
        exact a2
  have tabs : ∀ b ∈ cs.map (·.2), ∃ more : Array Value, s'.heap.get? b = some { cls := .none, data := .fields more } := fun b hb => by
    obtain ⟨p, hp, ep⟩ := List.mem_map.mp hb
    subst ep
    obtain ⟨more, z⟩ := un.tbls p.2 #[] (B.tb p hp)
    exact ⟨_, hok' p.2 _ z⟩
  refine ⟨rfl, ⟨fun b o e => ?_, fun b o e => ?_⟩, os, bare⟩
  · by_cases hb : b ∈ cs.map (·.2)
    · obtain ⟨more, hm2⟩ := tabs b hb
      obtain ⟨p, hp, ep⟩ := List.mem_map.mp hb
      subst ep
      have e' := hT p hp
      rw [e] at e'
      cases e'
      exact .inr (.inl ⟨((C p hp).tab (hT p hp)).isCodeTable, rfl, #[], more, rfl, by rw [Array.empty_append]; exact hm2⟩)
    · exact .inl (keep b o hb e)
  · by_cases hb : b ∈ cs.map (·.2)
    · obtain ⟨more, hm2⟩ := tabs b hb
      exact ⟨_, hm2⟩
    · exact ⟨o, keep b o hb e⟩
/-- the promise of the law at the head's heap -/
structure LawM (l : PySem.W.OpenLaw) (w : World) (k n : Nat) (x : Str) (gm : Str → Option Value) (fa : Addr) (h : Heap) (K : PySem.W.Frag) (fd : FuncData) (cs : List (Addr × Addr)) (m : GL) (tq : Addr → Str) : Prop where
  kin : K.In h
  tab : ∀ p ∈ cs, h.get? p.2 = some { cls := .none, data := .fields #[] }
  ntb : ∀ p ∈ cs, K.lookup p.2 = none
  cod : ∀ p ∈ cs, PySem.W.CodeHd h p.1 p.2
  nod : (cs.map (·.2)).Nodup
  bnd : ∀ (s : Shared) (u : Value), BindsTo s fd ⟨[u], []⟩ [(x, u)]
  law : ∀ ns : List Int, ns.length ≤ n → (∀ z ∈ ns, Builtin.Int.intBits z ≤ 1048576) → ∃ μ', m [.kls (ns.map T.int)] (cs.map fun p => .tab p.2 (tq p.2)) = .ok (.bl true) μ'
  dfn : ∀ base : Heap, K.In base → base.Ns mainGlobals gm → (∀ p ∈ cs, LamX.TabB base gm p.1 p.2) → DefM l.prog w K gm base k fa fd [x] m
theorem walkM {l : PySem.W.OpenLaw} {n k : Nat} {q : Program} {loose : List Str} {XP : (Str → Option Value) → Heap → Prop} {YP : World → Heap → Prop} {d : DefRec} {x : Str} (hn : l.most = some n) (hn2 : n ≤ sizeLine) (hdf : d.params.defaults = []) (room : Room k callerA)
    (F : ∀ (w : World) (gm : Str → Option Value) (fa : Addr) (h : Heap), YP w h → h.Ns mainGlobals gm → gm d.name = some (.ref fa) → ∃ K fd cs m tq, LawM l w k n x gm fa h K fd cs m tq) : PySem.W.WalkO q loose XP YP l.row.toRowW d [] (fun f vs => PySem.call f vs) := by
  refine Att.attach_callB hn hdf fun w s0 s1 gm bm fa o pm cd doc sc us ns G Y ho hd hcd hmg hobj hints hlen hbits hg => ?_
  obtain ⟨K, fd, cs, m, tq, L⟩ := F w gm fa _ Y G.T.g hmg
  exact lawRun (tq := tq) L.kin G.T.g G.T.b G.T.builtins G.T.nolimit hg L.tab L.ntb L.cod L.nod G.T.bmain hobj hints (Nat.le_trans hlen hn2) room L.dfn L.bnd (L.law ns hlen hbits)
end
end Mr

namespace Mr
open PySem PySem.Spec PyProof.Rows L2

/-! ### defs of the text by their names -/
/-- the def nm: its function object, how its arguments bind, what it is worth -/
structure DefK (P : Program) (w : World) (K : PySem.W.Frag) (mg : Str → Option Value) (base : Heap) (k : Nat) (nm : Str) (st : Stmt) (ps : List Str) (m : GL) : Prop where
  ex : ∃ fd, FunD K nm nm (defArgs st) (defBody st) (defScope st) [] [] (He.ga K nm) fd ∧ Binds K fd ps [] ∧ DefM P w K mg base k (He.ga K nm) fd ps m
  glo : mg nm = some (.ref (He.ga K nm))
  ar : Ar ps.length m
/-- how a def without defaults binds as many values as it has parameters -/
abbrev BindF (nm : Str) (st : Stmt) (ps : List Str) : Prop := ∀ (kV doc pm : Value) (an : Option Addr) (cdv ct : Value) (us : List Value), us.length = ps.length → bindArgs (PySem.W.fnOf nm nm (defArgs st) (defBody st) (defScope st) .none kV doc pm an cdv ct) ⟨us, []⟩ = pure (ps.zip us)
theorem spM_ar {K : PySem.W.Frag} {n : Nat} {g : GL} {vs : List V} {H : Hp} {Q : VK} {E : XK} (h : spM K n (arO n g) vs H Q E) : spM K n g vs H Q E := by
  obtain ⟨h1, W, μ, ts, k, r, q⟩ := h
  refine ⟨h1, W, μ, ts, k, r, ?_⟩
  unfold arO at q
  rw [if_pos (r.length.trans h1)] at q
  exact q
section
variable {P : Program} {w : World} {K : PySem.W.Frag} {mg : Str → Option Value} {base : Heap} {k : Nat} {nm : Str} {st : Stmt} {N ps : List Str} {fd : FuncData} {mb : MS}
/-- the context of the def's body -/
abbrev cxD (P : Program) (w : World) (K : PySem.W.Frag) (mg : Str → Option Value) (base : Heap) (N : List Str) (nm : Str) (st : Stmt) (cdv : Value) (A : Around) (outer : List Env) (s : Shared) (H : Hp) (E : XK) : Cx := cxOf CX0 P w K mg base N nm (defScope st) (He.ga K nm) cdv A outer s H E
abbrev BodyD (P : Program) (w : World) (K : PySem.W.Frag) (mg : Str → Option Value) (base : Heap) (N : List Str) (k : Nat) (nm : Str) (st : Stmt) (mb : MS) : Prop :=
  ∀ (cdv : Value) (A : Around) (outer : List Env) (s : Shared) (H : Hp) (E : XK), (A.deeper (envOfC nm (defScope st) s.heap.objs.size (He.ga K nm) cdv)).guards = some [] → Room k (A.deeper (envOfC nm (defScope st) s.heap.objs.size (He.ga K nm) cdv)) → cdv = .ref (He.codeOf K (nm, none)) →
    JSs (cxD P w K mg base N nm st cdv A outer s H E) (defBody st) mb
theorem code_at (hlk : ∃ oc od osl fd', K.lookup (He.ga K nm) = some ⟨oc, od, .func fd', osl⟩ ∧ fd'.code = fd.code) (hcd : PySem.W.codeIn K fd.code nm = true) : fd.code = .ref (He.codeOf K (nm, none)) := by
  obtain ⟨oc, od, osl, fd', lk, e⟩ := hlk
  obtain ⟨c, hc⟩ := He.codeIn_ref hcd
  rw [He.codeOf_eq (p := (nm, none)) lk (e.trans hc)]
  exact hc
theorem defM (F : FunD K nm nm (defArgs st) (defBody st) (defScope st) [] [] (He.ga K nm) fd) (hg : mg nm = some (.ref (He.ga K nm))) (hb : BindF nm st ps) (S : FnScope N ps (defScope st)) (n : Nat) (hn : N.length = n) (hbody : BodyD P w K mg base N k nm st mb) :
    DefK P w K mg base (k + 1) nm st ps (arO ps.length (fnM n mb)) := by
  refine ⟨⟨fd, F, F.bindsN hb, FnG.of F S spM_len fun cdv A outer s H vs Q E hG hr hlk hcd hsp => ⟨tMS K mb, hbody cdv A outer s H E hG hr ?_, body_M hn (spM_ar hsp)⟩⟩, hg, arO_ar _ _⟩
  obtain ⟨oc, od, osl, fd', lk, e⟩ := hlk
  obtain ⟨c, hc⟩ := He.codeIn_ref hcd
  rw [He.codeOf_eq (p := (nm, none)) lk (e.trans hc)]
  exact hc
theorem defK (F : FunD K nm nm (defArgs st) (defBody st) (defScope st) [] [] (He.ga K nm) fd) (hg : mg nm = some (.ref (He.ga K nm))) (hb : BindF nm st ps) (S : FnScope N ps (defScope st)) (n : Nat) (hn : N.length = n) (hbody : BodyD P w K mg base N k nm st mb) :
    DefK P w K mg base (k + 1) nm st ps (arO ps.length (fnK n mb)) := by
  refine ⟨⟨fd, F, F.bindsN hb, FnG.of F S spM_len fun cdv A outer s H vs Q E hG hr hlk hcd hsp => ⟨tMS K mb, hbody cdv A outer s H E hG hr ?_, body_K hn (spM_ar hsp)⟩⟩, hg, arO_ar _ _⟩
  obtain ⟨oc, od, osl, fd', lk, e⟩ := hlk
  obtain ⟨c, hc⟩ := He.codeIn_ref hcd
  rw [He.codeOf_eq (p := (nm, none)) lk (e.trans hc)]
  exact hc
end
/-- .. of a given function object -/
theorem defMf {P : Program} {w : World} {K : PySem.W.Frag} {mg : Str → Option Value} {base : Heap} {k : Nat} {nm : Str} {st : Stmt} {N ps : List Str} {fd : FuncData} {mb : MS} (F : FunD K nm nm (defArgs st) (defBody st) (defScope st) [] [] (He.ga K nm) fd) (S : FnScope N ps (defScope st)) (n : Nat) (hn : N.length = n) (hbody : BodyD P w K mg base N k nm st mb) :
    DefM P w K mg base (k + 1) (He.ga K nm) fd ps (arO ps.length (fnM n mb)) := by
  refine FnG.of F S spM_len fun cdv A outer s H vs Q E hG hr hlk hcd hsp => ⟨tMS K mb, hbody cdv A outer s H E hG hr ?_, body_M hn (spM_ar hsp)⟩
  obtain ⟨oc, od, osl, fd', lk, e⟩ := hlk
  obtain ⟨c, hc⟩ := He.codeIn_ref hcd
  rw [He.codeOf_eq (p := (nm, none)) lk (e.trans hc)]
  exact hc
section
variable {X : Cx} {k : Nat} {nm : Str} {st : Stmt} {ps : List Str} {m : GL} {p pos : Pos} {e : Expr} {es : List Expr} {ma : MA}
theorem je_callD (D : DefK X.prog X.w X.K X.mg X.base k nm st ps m) (hG : X.A.guards = some []) (hr : Room k X.A) (hg : Gl X nm) (ha : JA X (e :: es) ma) (hdb : (nm == ("__debug__" : Str)) = false := by decide)
    (he : starEach (e :: es) X.env = (false, eval e X.env) :: starEach es X.env := by rfl) (hpl : (backTo pos (starEach es X.env)).any (·.1) = false := by rfl) : JE X (.Call (.Name nm p) (e :: es) [] pos) (mCall m [] ma) := by
  obtain ⟨fd, F, hb, G⟩ := D.ex
  exact je_call G D.ar hG hr hg D.glo F.kp hb .nil (fun _ _ => .nil) ha hdb he hpl
theorem je_callD0 (D : DefK X.prog X.w X.K X.mg X.base k nm st ps m) (hG : X.A.guards = some []) (hr : Room k X.A) (hg : Gl X nm) (hdb : (nm == ("__debug__" : Str)) = false := by decide) : JE X (.Call (.Name nm p) [] [] pos) (mCall m [] mNil) := by
  obtain ⟨fd, F, hb, G⟩ := D.ex
  exact je_call0 G D.ar hG hr hg D.glo F.kp hb .nil (fun _ _ => .nil) hdb
abbrev BindKF (nm : Str) (st : Stmt) (ps : List Str) (n : Nat) (ks : List Str) (ix : List Nat) : Prop := ∀ (kV doc pm : Value) (an : Option Addr) (cdv ct : Value) (us ws : List Value), us.length = n → ws.length = ks.length →
  bindArgs (PySem.W.fnOf nm nm (defArgs st) (defBody st) (defScope st) .none kV doc pm an cdv ct) ⟨us, ks.zip ws⟩ = pure (ps.zip (pickL ix (us ++ ws)))
theorem je_callDK {n : Nat} {ks : List Str} {ix : List Nat} {kws : List Keyword} {mk : MA} (D : DefK X.prog X.w X.K X.mg X.base k nm st ps m) (hG : X.A.guards = some []) (hr : Room k X.A) (hg : Gl X nm) (hb : BindKF nm st ps n ks ix) (ha : JA X (e :: es) ma) (hkw : JK X kws mk)
    (hall : (backToKw pos (keywordEach kws X.env)).all (·.1.isSome) = true := by rfl) (hks : (backToKw pos (keywordEach kws X.env)).filterMap (·.1) = ks := by rfl) (hdb : (nm == ("__debug__" : Str)) = false := by decide)
    (he : starEach (e :: es) X.env = (false, eval e X.env) :: starEach es X.env := by rfl) (hpl : ((backTo pos (starEach (e :: es) X.env)).any (·.1) || (backToKw pos (keywordEach kws X.env)).any (·.1.isNone)) = false := by rfl) :
    JE X (.Call (.Name nm p) (e :: es) kws pos) (mCallK n ks.length ix m ma mk) := by
  obtain ⟨fd, F, _, G⟩ := D.ex
  exact je_callK G D.ar hG hr hg D.glo F.kp (kbn_ix F n ks ix hb) ha hkw hall hks hdb he hpl
theorem je_callDK0 {ks : List Str} {ix : List Nat} {kws : List Keyword} {mk : MA} (D : DefK X.prog X.w X.K X.mg X.base k nm st ps m) (hG : X.A.guards = some []) (hr : Room k X.A) (hg : Gl X nm) (hb : BindKF nm st ps 0 ks ix) (hkw : JK X kws mk)
    (hall : (backToKw pos (keywordEach kws X.env)).all (·.1.isSome) = true := by rfl) (hks : (backToKw pos (keywordEach kws X.env)).filterMap (·.1) = ks := by rfl) (hdb : (nm == ("__debug__" : Str)) = false := by decide)
    (hpl : ((backTo pos (starEach [] X.env)).any (·.1) || (backToKw pos (keywordEach kws X.env)).any (·.1.isNone)) = false := by rfl) :
    JE X (.Call (.Name nm p) [] kws pos) (mCallK 0 ks.length ix m mNil mk) := by
  obtain ⟨fd, F, _, G⟩ := D.ex
  exact je_callK0 G D.ar hG hr hg D.glo F.kp (kbn_ix F 0 ks ix hb) hkw hall hks hdb hpl
/-- a def as the key of a sort -/
theorem keyD {y : Pos} (D : DefK X.prog X.w X.K X.mg X.base k nm st ps m) (hG : X.A.guards = some []) (hr : Room (k + 2) X.A) (hg : Gl X nm) (hdb : (nm == ("__debug__" : Str)) = false := by decide) : KeyE X (.Name nm y) m (fun _ => true) := by
  obtain ⟨fd, F, hb, G⟩ := D.ex
  exact key_def hg D.glo (call1_def G D.ar hG hr hb) hdb
end
theorem unitsOf {A : Around} {k : Nat} (hr : Room k A) : A.units + 80 < cLine := by
  have := hr.un
  omega
theorem unitsOf64 {A : Around} {k : Nat} (hr : Room k A) : A.units + 64 < cLine := by
  have := hr.un
  omega
/-- name = [..], the name taken by a block within -/
theorem sw_cell {elt : Expr} {gs : List Comprehension} {scope : Scope} {pos py : Pos} {y : Str} {l : Nat} {env : Env} (hk : env.scope.kind = .function) (hy : env.scope.names.lookup y = some .cell) : swapsWith (.ListComp elt gs scope pos) (some (.Name y py)) l env = pure false := by
  have ky : env.kindOf y = some .cell := hy
  unfold swapsWith
  simp only [ky]
  have e : ((some NameKind.cell : Option NameKind) == some NameKind.local) = false := by decide
  rw [e, Bool.and_false, Bool.false_and, Bool.false_and] <;> rfl
end Mr

namespace Mr
open PySem PySem.Spec PyProof.Rows L2

/-! ### reading mirrors: one step at a time -/
section
variable {ρ : Rho} {μ : Mu} {t u : T} {i j : Nat}
@[simp] theorem r_seq (m n : MS) : mSeq m n ρ μ = seqO (m ρ μ) n := rfl
@[simp] theorem r_seq_nx (n : MS) : seqO (.ok (.nx ρ) μ) n = n ρ μ := rfl
@[simp] theorem r_seq_rt (n : MS) : seqO (.ok (.rt t) μ) n = .ok (.rt t) μ := rfl
@[simp] theorem r_seq_bk (n : MS) : seqO (.ok (.bk ρ) μ) n = .ok (.bk ρ) μ := rfl
@[simp] theorem r_seq_ct (n : MS) : seqO (.ok (.ct ρ) μ) n = .ok (.ct ρ) μ := rfl
@[simp] theorem r_next : mNext ρ μ = .ok (.nx ρ) μ := rfl
@[simp] theorem r_brk : mBrk ρ μ = .ok (.bk ρ) μ := rfl
@[simp] theorem r_cont : mCont ρ μ = .ok (.ct ρ) μ := rfl
@[simp] theorem r_ret (m : ME) : mRet m ρ μ = (m ρ μ).bind fun t μ1 => .ok (.rt t) μ1 := rfl
@[simp] theorem r_retN : mRetN ρ μ = .ok (.rt .non) μ := rfl
@[simp] theorem r_drop (m : ME) : mDrop m ρ μ = (m ρ μ).bind fun _ μ1 => .ok (.nx ρ) μ1 := rfl
@[simp] theorem r_ifS (c : MT) (a b : MS) : mIfS c a b ρ μ = (c ρ μ).bind fun z μ1 => if z = true then a ρ μ1 else b ρ μ1 := rfl
@[simp] theorem r_asg (m : ME) (g : MG) : mAsg m g ρ μ = (m ρ μ).bind fun t μ1 => (g t ρ μ1).bind fun ρ2 μ2 => .ok (.nx ρ2) μ2 := rfl
@[simp] theorem r_set (m : ME) : mSet i m ρ μ = (m ρ μ).bind fun t μ1 => .ok (.nx (ρ.set i (some t))) μ1 := rfl
@[simp] theorem r_var : mVar i ρ μ = match ρ[i]? with
  | some (some t) => .ok t μ
  | _ => .bad := rfl
@[simp] theorem r_c : mC t ρ μ = .ok t μ := rfl
@[simp] theorem r_op (g : G2) (a b : ME) : mOp g a b ρ μ = (a ρ μ).bind fun x μ1 => (b ρ μ1).bind fun y μ2 => g x y μ2 := rfl
@[simp] theorem r_un (g : G1) (a : ME) : mUn g a ρ μ = (a ρ μ).bind fun x μ1 => g x μ1 := rfl
@[simp] theorem r_cl (g : GL) (a : MA) : mCl g a ρ μ = (a ρ μ).bind fun x μ1 => g x μ1 := rfl
@[simp] theorem r_nil : mNil ρ μ = .ok [] μ := rfl
@[simp] theorem r_cons (m : ME) (r : MA) : mCons m r ρ μ = (m ρ μ).bind fun t μ1 => (r ρ μ1).bind fun ts μ2 => .ok (t :: ts) μ2 := rfl
@[simp] theorem r_tst (m : ME) : mTst m ρ μ = (m ρ μ).bind fun t μ1 => match t with
  | .bl b => .ok b μ1
  | _ => .bad := rfl
@[simp] theorem r_chain (g g' : G2) (ma mb mc : ME) : mChain g g' ma mb mc ρ μ = (ma ρ μ).bind fun x μ1 => (mb ρ μ1).bind fun y μ2 => (g x y μ2).bind fun z μ3 => match z with
  | .bl true => (mc ρ μ3).bind fun w μ4 => g' y w μ4
  | .bl false => .ok (.bl false) μ3
  | _ => .bad := rfl
@[simp] theorem r_tru (m : ME) : mTru m ρ μ = (m ρ μ).bind tru := rfl
@[simp] theorem r_not (m : MT) : mNot m ρ μ = (m ρ μ).bind fun b μ1 => .ok (!b) μ1 := rfl
@[simp] theorem r_and (m n : MT) : mAnd m n ρ μ = (m ρ μ).bind fun b μ1 => if b = true then n ρ μ1 else .ok false μ1 := rfl
@[simp] theorem r_or (m n : MT) : mOr m n ρ μ = (m ρ μ).bind fun b μ1 => if b = true then .ok true μ1 else n ρ μ1 := rfl
@[simp] theorem r_andV (m n : ME) : mAndV m n ρ μ = (m ρ μ).bind fun x μ1 => match truT μ1 x with
  | some true => n ρ μ1
  | some false => .ok x μ1
  | none => .bad := rfl
@[simp] theorem r_orV (m n : ME) : mOrV m n ρ μ = (m ρ μ).bind fun x μ1 => match truT μ1 x with
  | some true => .ok x μ1
  | some false => n ρ μ1
  | none => .bad := rfl
@[simp] theorem r_notV (m : ME) : mNotV m ρ μ = (m ρ μ).bind fun x μ1 => match truT μ1 x with
  | some b => .ok (.bl (!b)) μ1
  | none => .bad := rfl
@[simp] theorem r_if (m : MT) (a b : ME) : mIf m a b ρ μ = (m ρ μ).bind fun c μ1 => if c = true then a ρ μ1 else b ρ μ1 := rfl
@[simp] theorem r_call (m : GL) (tds : List T) (ma : MA) : mCall m tds ma ρ μ = (ma ρ μ).bind fun ts μ1 => m (ts ++ tds) μ1 := rfl
@[simp] theorem r_par2 (m : MA) : mPar2 i j m ρ μ = (m ρ μ).bind fun ts μ1 => match ts with
  | [a, b] => .ok (.nx ((ρ.set i (some a)).set j (some b))) μ1
  | _ => .bad := rfl
@[simp] theorem r_nm : gNm i t ρ μ = .ok (ρ.set i (some t)) μ := rfl
@[simp] theorem r_snil : gsNil [] ρ μ = .ok ρ μ := rfl
@[simp] theorem r_scons (g : MG) (gs : MGs) (ts : List T) : gsCons g gs (t :: ts) ρ μ = (g t ρ μ).bind fun ρ1 μ1 => gs ts ρ1 μ1 := rfl
@[simp] theorem r_tp (gs : MGs) (ts : List T) : gTp i gs (.tup ts) ρ μ = if ts.length = i then gs ts ρ μ else .bad := rfl
@[simp] theorem r_yes : mYes ρ μ = .ok true μ := rfl
@[simp] theorem r_fin (fin : List T → Mu → Out T) (m : MA) : mFin fin m ρ μ = (m ρ μ).bind fin := rfl
@[simp] theorem r_fz (ts : List T) : fzT ts μ = .ok (.lst ts) μ := rfl
@[simp] theorem r_lc (vs : List Nat) (mi : MI) (g : MG) (mt : MT) (me : ME) : mLc vs mi g mt me ρ μ = (mi ρ μ).bind fun ts μ1 => if few ts = true then compM g mt me (wipeR ρ vs) ts μ1 else .bad := rfl
@[simp] theorem r_for (mi : MI) (g : MG) (mb : MS) : mFor mi g mb ρ μ = (mi ρ μ).bind fun ts μ1 => loopM g mb ts ρ μ1 := rfl
@[simp] theorem r_itS (m : ME) : mItS m ρ μ = (m ρ μ).bind itS := rfl
@[simp] theorem r_it (m : MA) (f : List T → Mu → Out (List T)) : mIt m f ρ μ = (m ρ μ).bind f := rfl
@[simp] theorem r_itS_lst (ts : List T) : itS (.lst ts) μ = .ok ts μ := rfl
@[simp] theorem r_itS_tup (ts : List T) : itS (.tup ts) μ = .ok ts μ := rfl
@[simp] theorem r_itS_kls (ts : List T) : itS (.kls ts) μ = .ok ts μ := rfl
@[simp] theorem r_step_nx (k : MS) : stepO (.ok (.nx ρ) μ) k = k ρ μ := rfl
@[simp] theorem r_step_ct (k : MS) : stepO (.ok (.ct ρ) μ) k = k ρ μ := rfl
@[simp] theorem r_step_bk (k : MS) : stepO (.ok (.bk ρ) μ) k = .ok (.nx ρ) μ := rfl
@[simp] theorem r_step_rt (k : MS) : stepO (.ok (.rt t) μ) k = .ok (.rt t) μ := rfl
@[simp] theorem r_tupG (ts : List T) : gTup ts μ = if few ts = true then .ok (.tup ts) μ else .bad := rfl
@[simp] theorem r_lstG (ts : List T) : gLst ts μ = if few ts = true then .ok (.lst ts) μ else .bad := rfl
@[simp] theorem r_lstMG (ts : List T) : gLstM ts μ = if few ts = true then .ok (.mr μ.length) (μ ++ [.lst ts]) else .bad := rfl
end
/-- a call that leaves the store as it was -/
theorem fn_same {n : Nat} {mb : MS} {ts : List T} {μ : Mu} {t : T} (h : endO (mb (startR n ts) μ) = .ok t μ) : fnM n mb ts μ = .ok t μ := by
  unfold fnM
  rw [h]
  show gcO μ.length t μ = _
  unfold gcO
  rw [if_pos rfl]
theorem fn_same' {n k : Nat} {mb : MS} {ts : List T} {μ : Mu} {t : T} (hk : ts.length = k) (h : endO (mb (startR n ts) μ) = .ok t μ) : arO k (fnM n mb) ts μ = .ok t μ := by
  unfold arO
  rw [if_pos hk]
  exact fn_same h
/-- what stands in the store is deep frozen at every time -/
def Calm (μ : Mu) : Prop := ∀ (ν : Mu) (n : Nat), μ.length ≤ n → mapO (frzO (μ ++ ν) n) μ = some μ
theorem mapO_append {α β : Type} {f : α → Option β} {as cs : List α} {bs ds : List β} (h : mapO f as = some bs) (h' : mapO f cs = some ds) : mapO f (as ++ cs) = some (bs ++ ds) := by
  induction as generalizing bs with
  | nil => cases h; exact h'
  | cons a as ih =>
    unfold mapO at h
    split at h
    · rename_i b e1
      split at h
      · rename_i bs1 e2
        cases h
        rw [List.cons_append]
        unfold mapO
        rw [e1, ih e2] <;> rfl
      · cases h
    · cases h
theorem Calm.push {μ : Mu} {o : MO} (c : Calm μ) (h : ∀ (M : Mu) (n : Nat), frzO M n o = some o) : Calm (μ ++ [o]) := fun ν n hn => by
  rw [List.length_append] at hn
  rw [List.append_assoc]
  refine mapO_append (c _ n (by omega)) ?_
  unfold mapO
  rw [h]
  rfl
/-- a call that has made something: its answer frozen -/
theorem fn_made {n k : Nat} {mb : MS} {ts : List T} {μ ν : Mu} {t u : T} (hk : ts.length = k) (c : Calm μ) (h : endO (mb (startR n ts) μ) = .ok t (μ ++ ν)) (hf : frzT (μ ++ ν) μ.length 64 t = some u) (hn : ν ≠ []) : arO k (fnM n mb) ts μ = .ok u μ := by
  unfold arO
  rw [if_pos hk]
  unfold fnM
  rw [h]
  show gcO μ.length t (μ ++ ν) = _
  unfold gcO
  have hl : (μ ++ ν).length ≠ μ.length := by
    rw [List.length_append]
    have : ν.length ≠ 0 := fun z => hn (List.length_eq_zero_iff.mp z)
    omega
  rw [if_neg hl, hf, List.take_left']
  · rw [c ν _ (Nat.le_refl _)]
  · rfl
/-- .. that has written in the store too -/
theorem fn_gc {n k : Nat} {mb : MS} {ts : List T} {μ μ' ν : Mu} {t u : T} (hk : ts.length = k) (hl : μ'.length = μ.length) (c : Calm μ') (h : endO (mb (startR n ts) μ) = .ok t (μ' ++ ν)) (hf : frzT (μ' ++ ν) μ'.length 64 t = some u) (hn : ν ≠ []) : arO k (fnM n mb) ts μ = .ok u μ' := by
  unfold arO
  rw [if_pos hk]
  unfold fnM
  rw [h]
  show gcO μ.length t (μ' ++ ν) = _
  rw [← hl]
  unfold gcO
  have hl : (μ' ++ ν).length ≠ μ'.length := by
    rw [List.length_append]
    have : ν.length ≠ 0 := fun z => hn (List.length_eq_zero_iff.mp z)
    omega
  rw [if_neg hl, hf, List.take_left']
  · rw [c ν _ (Nat.le_refl _)]
  · rfl
/-! loops, comprehensions over trees that are made of data -/
theorem comp_map {α : Type} {g : MG} {mt : MT} {me : ME} {ρ : Rho} {μ : Mu} (e : α → T) (h : α → T) : ∀ (xs : List α), (∀ x ∈ xs, ∃ ρ1, g (e x) ρ μ = .ok ρ1 μ ∧ mt ρ1 μ = .ok true μ ∧ me ρ1 μ = .ok (h x) μ) → compM g mt me ρ (xs.map e) μ = .ok (xs.map h) μ
  | [], _ => rfl
  | x :: xs, hx => by
    obtain ⟨ρ1, h1, h2, h3⟩ := hx x List.mem_cons_self
    rw [List.map_cons, List.map_cons]
    unfold compM
    rw [h1]
    simp only [Out.bind_ok, h2, h3, if_true]
    rw [comp_map e h xs fun y hy => hx y (List.mem_cons_of_mem _ hy)] <;> rfl
theorem comp_filter {α : Type} {g : MG} {mt : MT} {me : ME} {ρ : Rho} {μ : Mu} (e : α → T) (p : α → Bool) (h : α → T) : ∀ (xs : List α), (∀ x ∈ xs, ∃ ρ1, g (e x) ρ μ = .ok ρ1 μ ∧ mt ρ1 μ = .ok (p x) μ ∧ (p x = true → me ρ1 μ = .ok (h x) μ)) → compM g mt me ρ (xs.map e) μ = .ok ((xs.filter p).map h) μ
  | [], _ => rfl
  | x :: xs, hx => by
    obtain ⟨ρ1, h1, h2, h3⟩ := hx x List.mem_cons_self
    rw [List.map_cons]
    unfold compM
    rw [h1]
    simp only [Out.bind_ok, h2]
    have ih := comp_filter e p h xs fun y hy => hx y (List.mem_cons_of_mem _ hy)
    cases hp : p x with
    | true =>
      rw [if_pos rfl, h3 hp]
      simp only [Out.bind_ok]
      rw [ih, List.filter_cons_of_pos (by simpa using hp)] <;> rfl
    | false => rw [if_neg Bool.false_ne_true, ih, List.filter_cons_of_neg (by simp [hp])]
theorem comp2_map {α β : Type} {g g1 : MG} {mt mt1 : MT} {mi1 : MI} {vs1 : List Nat} {me : ME} {ρ : Rho} {μ : Mu} (e : α → T) (e1 : α → β → T) (ys : α → List β) (h : α → β → T) : ∀ (xs : List α), (∀ x ∈ xs, (ys x).length ≤ 1000 ∧ ∃ ρ1, g (e x) ρ μ = .ok ρ1 μ ∧ mt ρ1 μ = .ok true μ ∧ mi1 ρ1 μ = .ok ((ys x).map (e1 x)) μ ∧
    ∀ y ∈ ys x, ∃ ρ2, g1 (e1 x y) (wipeR ρ1 vs1) μ = .ok ρ2 μ ∧ mt1 ρ2 μ = .ok true μ ∧ me ρ2 μ = .ok (h x y) μ) → comp2M g mt mi1 vs1 g1 mt1 me ρ (xs.map e) μ = .ok (xs.flatMap fun x => (ys x).map (h x)) μ
  | [], _ => rfl
  | x :: xs, hx => by
    obtain ⟨hl, ρ1, h1, h2, h3, h4⟩ := hx x List.mem_cons_self
    rw [List.map_cons]
    unfold comp2M
    rw [h1]
    simp only [Out.bind_ok, h2, h3, if_true]
    have hf : few2 ((ys x).map (e1 x)) = true := by
      unfold few2
      rw [List.length_map]
      exact Nat.ble_eq_true_of_le hl
    rw [if_pos hf, comp_map (e1 x) (h x) (ys x) h4]
    simp only [Out.bind_ok]
    rw [comp2_map e e1 ys h xs fun y hy => hx y (List.mem_cons_of_mem _ hy)] <;> rfl
theorem few_of {ts : List T} (h : ts.length ≤ 1000000) : few ts = true := Nat.ble_eq_true_of_le h
theorem few_map {α : Type} {e : α → T} {xs : List α} (h : xs.length ≤ 1000000) : few (xs.map e) = true := few_of (by rw [List.length_map]; exact h)
/-- a loop that goes on to its end: each turn keeps I -/
theorem loop_all {g : MG} {mb : MS} {I : Nat → Rho → Mu → Prop} : ∀ (ts : List T) (i : Nat) (ρ : Rho) (μ : Mu), I i ρ μ →
    (∀ (j : Nat) (t : T) (ρ : Rho) (μ : Mu), ts[j]? = some t → I (i + j) ρ μ → ∃ ρ1 μ1, g t ρ μ = .ok ρ1 μ1 ∧ ∃ ρ2 μ2, (mb ρ1 μ1 = .ok (.nx ρ2) μ2 ∨ mb ρ1 μ1 = .ok (.ct ρ2) μ2) ∧ I (i + j + 1) ρ2 μ2) →
    ∃ ρ' μ', loopM g mb ts ρ μ = .ok (.nx ρ') μ' ∧ I (i + ts.length) ρ' μ'
  | [], i, ρ, μ, h, _ => ⟨ρ, μ, rfl, h⟩
  | t :: ts, i, ρ, μ, h, step => by
    obtain ⟨ρ1, μ1, h1, ρ2, μ2, h2, h3⟩ := step 0 t ρ μ rfl h
    obtain ⟨ρ', μ', h4, h5⟩ := loop_all ts (i + 1) ρ2 μ2 h3 fun j u ρ μ hu hI => by
      have e : i + 1 + j = i + (j + 1) := by omega
      rw [e] at hI ⊢
      exact step (j + 1) u ρ μ (by simpa using hu) hI
    refine ⟨ρ', μ', ?_, by rw [List.length_cons]; rwa [show i + (ts.length + 1) = i + 1 + ts.length by omega]⟩
    unfold loopM
    rw [h1]
    simp only [Out.bind_ok]
    rcases h2 with h2 | h2 <;> rw [h2] <;> exact h4
end Mr

namespace Mr
open PySem PySem.Spec PyProof.Rows L2

/-! ### numbers -/
theorem gMod_ok {i j : Int} (μ : Mu) (h : 0 < j) : gMod (.int i) (.int j) μ = .ok (.int (i % j)) μ := by
  show (if decide (0 < j) = true then Out.ok (T.int (i % j)) μ else .bad) = _
  rw [if_pos (decide_eq_true h)]
theorem log_small {j : Int} (h0 : 0 < j) (h : j < 2 ^ 62) : Nat.ble j.natAbs.log2 8999 = true := by
  refine Nat.ble_eq_true_of_le ?_
  have h1 : j.natAbs ≠ 0 := by omega
  have h2 : j.natAbs.log2 < 62 := (Nat.log2_lt h1).mpr (by omega)
  omega
theorem gDiv_ok {i j : Int} (μ : Mu) (h : 0 < j) (h2 : j < 2 ^ 62) : gDiv (.int i) (.int j) μ = .ok (.int (i / j)) μ := by
  show (if (decide (0 < j) && Nat.ble j.natAbs.log2 8999) = true then Out.ok (T.int (i / j)) μ else .bad) = _
  rw [decide_eq_true h, log_small h h2] <;> rfl
theorem small64_of {i : Int} (h1 : -(2 ^ 64) < i) (h2 : i < 2 ^ 64) : small64 i = true := Nat.ble_eq_true_of_le (by omega)
theorem gMul_l {i j : Int} (μ : Mu) (h : small64 i = true) : gMul fzT (.int i) (.int j) μ = .ok (.int (i * j)) μ := by
  show (if mulOk i j = true then Out.ok (T.int (i * j)) μ else .bad) = _
  unfold mulOk
  rw [h, Bool.true_or, Bool.true_or, if_pos rfl]
theorem gPow_ok {i : Int} {j : Nat} (μ : Mu) (h1 : -(2 ^ 64) < i) (h2 : i < 2 ^ 64) (hj : j ≤ 1000000) : gPow (.int i) (.int (j : Int)) μ = .ok (.int (i ^ j)) μ := by
  show (if (decide (0 ≤ (j : Int)) && decide ((j : Int) ≤ 1000000) && small64 i) = true then Out.ok (T.int (i ^ (j : Int).toNat)) μ else .bad) = _
  rw [decide_eq_true (by omega), decide_eq_true (by omega), small64_of h1 h2] <;> rfl
theorem gAdd_i (i j : Int) (μ : Mu) : gAdd fzT (.int i) (.int j) μ = .ok (.int (i + j)) μ := rfl
theorem gSub_i (i j : Int) (μ : Mu) : gSub (.int i) (.int j) μ = .ok (.int (i - j)) μ := rfl
/-- a call whose store keeps its length -/
theorem fn_len {n k : Nat} {mb : MS} {ts : List T} {μ μ' : Mu} {t : T} (hk : ts.length = k) (h : endO (mb (startR n ts) μ) = .ok t μ') (hl : μ'.length = μ.length) : arO k (fnM n mb) ts μ = .ok t μ' := by
  unfold arO
  rw [if_pos hk]
  unfold fnM
  rw [h]
  show gcO μ.length t μ' = _
  unfold gcO
  rw [if_pos hl]
/-! ### rows of ints -/
theorem mapO_maps {α β γ : Type} {f : β → Option γ} {e : α → β} {d : α → γ} (h : ∀ a, f (e a) = some (d a)) : ∀ as : List α, mapO f (as.map e) = some (as.map d)
  | [] => rfl
  | a :: as => by
    rw [List.map_cons, List.map_cons]
    unfold mapO
    rw [h a, mapO_maps h as] <;> rfl
theorem eqv_nilR : ∀ xs : List PyData, PyData.eqvAll xs [] = decide (xs = [])
  | [] => by simp [PyData.eqvAll]
  | x :: xs => by simp [PyData.eqvAll]
theorem lay_ints : ∀ is : List Int, PyData.canLayAll0 (is.map PyData.int) = true ∧ PyData.depthAll (is.map PyData.int) = 0
  | [] => by simp [PyData.canLayAll0, PyData.depthAll]
  | i :: is => by
    obtain ⟨h1, h2⟩ := lay_ints is
    simp [PyData.canLayAll0, PyData.depthAll, h1, h2, PyData.canLay0, PyData.depth]
theorem shaped_ints (is : List Int) : SeqAt.shaped (.list (is.map PyData.int)) = true := by
  obtain ⟨h1, h2⟩ := lay_ints is
  unfold SeqAt.shaped
  rw [Bool.and_eq_true]
  refine ⟨by simpa [PyData.canLay0] using h1, decide_eq_true ?_⟩
  simp only [PyData.depth]
  omega
theorem py_ints (is : List Int) (μ : Mu) : pyT μ 60 (.lst (is.map T.int)) = some (.list (is.map PyData.int)) := by
  show (mapO (pyT μ 59) (is.map T.int)).map PyData.list = _
  rw [mapO_maps (f := pyT μ 59) (e := T.int) (d := PyData.int) fun o => rfl] <;> rfl
theorem eq_ints_nil (is : List Int) (μ : Mu) : eqM μ (.lst (is.map T.int)) (.lst []) = some (decide (is = [])) := by
  unfold eqM
  rw [py_ints, show pyT μ 60 (.lst []) = some (.list (([] : List Int).map PyData.int)) from py_ints [] μ]
  simp only [shaped_ints, Bool.and_self, if_true]
  simp only [PyData.eqv, List.map_nil, eqv_nilR]
  cases is <;> simp
/-! ### the pen: cells, at, rest -/
def penO (cells : List Int) (a r : Int) : MO := .lst [.lst (cells.map T.int), .int a, .int r]
def drawM (k1 k2 k3 k4 : Int) : MS := (mSeq (mIfS (mTst (mOp gLt (mVar 1) (mC (.int 2))))
  (mRet (mC (.int 0)))
  mNext)
  (mSeq (mIfS (mTst (mOp gGt (mOp gIx (mVar 0) (mC (.int 2))) (mC (.int 0))))
  (mSeq (mSet 2 (mOp gMod (mCl gInt (mCons (mOp gIx (mVar 0) (mC (.int 2))) mNil)) (mVar 1)))
  (mSeq (mAsg (mOp gDiv (mCl gInt (mCons (mOp gIx (mVar 0) (mC (.int 2))) mNil)) (mVar 1)) (gSt (mVar 0) (mC (.int 2))))
  (mRet (mVar 2))))
  mNext)
  (mSeq (mSet 3 (mOp gIx (mVar 0) (mC (.int 1))))
  (mSeq (mAsg (mOp (gAdd fzT) (mVar 3) (mC (.int 1))) (gSt (mVar 0) (mC (.int 1))))
  (mSeq (mSet 4 (mOp (gAdd fzT) (mOp (gMul fzT) (mC (.int k1)) (mVar 3)) (mC (.int k2))))
  (mSeq (mIfS (mTst (mOp gNe (mOp gIx (mVar 0) (mC (.int 0))) (mCl gLst mNil)))
  (mSet 4 (mOp gIx (mOp gIx (mVar 0) (mC (.int 0))) (mOp gMod (mCl gInt (mCons (mVar 3) mNil)) (mCl gLen (mCons (mOp gIx (mVar 0) (mC (.int 0))) mNil)))))
  mNext)
  (mSeq (mIfS (mAnd (mTst (mOp gLt (mVar 3) (mCl gLen (mCons (mOp gIx (mVar 0) (mC (.int 0))) mNil)))) (mTst (mOp gGe (mCl gAbs (mCons (mVar 4) mNil)) (mOp gPow (mC (.int 10)) (mC (.int 18))))))
  (mSeq (mSet 5 (mOp (gAdd fzT) (mOp (gMul fzT) (mC (.int 2)) (mOp gSub (mCl gAbs (mCons (mVar 4) mNil)) (mOp gPow (mC (.int 10)) (mC (.int 18))))) (mCl gInt (mCons (mOp gLt (mVar 4) (mC (.int 0))) mNil))))
  (mSeq (mAsg (mOp gDiv (mCl gInt (mCons (mVar 5) mNil)) (mVar 1)) (gSt (mVar 0) (mC (.int 2))))
  (mRet (mOp gMod (mCl gInt (mCons (mVar 5) mNil)) (mVar 1)))))
  mNext)
  (mSeq (mSet 6 (mOp gMod (mCl gInt (mCons (mOp gPow (mOp (gAdd fzT) (mOp (gAdd fzT) (mOp gMod (mCl gInt (mCons (mVar 4) mNil)) (mC (.int 2147483549))) (mOp (gMul fzT) (mC (.int k3)) (mVar 3))) (mC (.int k2))) (mC (.int 3))) mNil)) (mC (.int 2147483629))))
  (mSeq (mSet 6 (mOp gMod (mCl gInt (mCons (mOp gPow (mOp (gAdd fzT) (mOp (gAdd fzT) (mOp (gMul fzT) (mVar 6) (mOp (gAdd fzT) (mOp (gMul fzT) (mC (.int 2)) (mVar 3)) (mC (.int k4)))) (mOp (gMul fzT) (mOp (gMul fzT) (mC (.int k1)) (mVar 3)) (mVar 3))) (mC (.int k3))) (mC (.int 5))) mNil)) (mC (.int 2147483563))))
  (mRet (mOp gMod (mCl gInt (mCons (mOp gDiv (mVar 6) (mC (.int 16))) mNil)) (mVar 1))))))))))))
section
variable {μ : Mu} {i : Nat} {cells : List Int} {a r : Int}
theorem pen_seq (h : μ[i]? = some (penO cells a r)) : asSeq μ (.mr i) = some [.lst (cells.map T.int), .int a, .int r] := by
  show (match μ[i]? with | some (.lst ts) => some ts | _ => none) = _
  rw [h] <;> rfl
theorem ix_seq' {x u : T} {ts : List T} {j : Int} (hx : asSeq μ x = some ts) (e : atI ts j = some u) : gIx x (.int j) μ = .ok u μ := by
  cases x with
  | str cs => cases hx
  | _ => simp only [gIx, hx, e]
theorem pen0 (h : μ[i]? = some (penO cells a r)) : gIx (.mr i) (.int 0) μ = .ok (.lst (cells.map T.int)) μ := ix_seq' (pen_seq h) rfl
theorem pen1 (h : μ[i]? = some (penO cells a r)) : gIx (.mr i) (.int 1) μ = .ok (.int a) μ := ix_seq' (pen_seq h) rfl
theorem pen2 (h : μ[i]? = some (penO cells a r)) : gIx (.mr i) (.int 2) μ = .ok (.int r) μ := ix_seq' (pen_seq h) rfl
theorem pen_st1 {ρ : Rho} (h : μ[i]? = some (penO cells a r)) (v : Int) : gSt (mVar 0) (mC (.int 1)) (.int v) (some (.mr i) :: ρ) μ = .ok (some (.mr i) :: ρ) (μ.set i (penO cells v r)) := by
  unfold gSt
  simp only [r_var, r_c, List.getElem?_cons_zero, Out.bind_ok, h, penO]
  rfl
theorem pen_st2 {ρ : Rho} (h : μ[i]? = some (penO cells a r)) (v : Int) : gSt (mVar 0) (mC (.int 2)) (.int v) (some (.mr i) :: ρ) μ = .ok (some (.mr i) :: ρ) (μ.set i (penO cells a v)) := by
  unfold gSt
  simp only [r_var, r_c, List.getElem?_cons_zero, Out.bind_ok, h, penO]
  rfl
theorem len_cells (μ : Mu) : gLen [.lst (cells.map T.int)] μ = .ok (.int (cells.length : Int)) μ := by
  show Out.ok (T.int (((cells.map T.int).length : Nat) : Int)) μ = _
  rw [List.length_map]
theorem gInt_i (j : Int) (μ : Mu) : gInt [.int j] μ = .ok (.int j) μ := rfl
end
theorem pen_get {μ : Mu} {i : Nat} {o : MO} (h : i < μ.length) : (μ.set i o)[i]? = some o := by
  rw [List.getElem?_set_self h]
theorem cell_at {cells : List Int} {a : Int} (h0 : 0 ≤ a) (hne : cells ≠ []) (μ : Mu) : ∃ c, gIx (.lst (cells.map T.int)) (.int (a % (cells.length : Int))) μ = .ok (.int c) μ := by
  have hl : 0 < (cells.length : Int) := by
    have : cells.length ≠ 0 := fun z => hne (List.length_eq_zero_iff.mp z)
    omega
  have h1 := Int.emod_nonneg a (Int.ne_of_gt hl)
  have h2 := Int.emod_lt_of_pos a hl
  obtain ⟨j, hj⟩ : ∃ j : Nat, a % (cells.length : Int) = (j : Int) := ⟨(a % (cells.length : Int)).toNat, by omega⟩
  have hjl : j < cells.length := by omega
  refine ⟨cells[j], ix_seq' (ts := cells.map T.int) rfl ?_⟩
  rw [hj]
  refine atI_nat ?_
  rw [List.getElem?_map, List.getElem?_eq_getElem hjl] <;> rfl
theorem draw_ok {k1 k2 k3 k4 : Int} {μ : Mu} {i : Nat} {cells : List Int} {a r many : Int} (hp : μ[i]? = some (penO cells a r)) (h0 : 0 ≤ a) (h1 : a < 1048576) (hr : 0 ≤ r) (m0 : 2 ≤ many) (m1 : many < 1073741824)
    (c1 : 0 ≤ k1 ∧ k1 < 131072) (c2 : 0 ≤ k2 ∧ k2 < 131072) (c3 : 0 ≤ k3 ∧ k3 < 131072) (c4 : 0 ≤ k4 ∧ k4 < 131072) :
    ∃ d a' r', 0 ≤ d ∧ d < many ∧ a ≤ a' ∧ a' ≤ a + 1 ∧ 0 ≤ r' ∧ endO (drawM k1 k2 k3 k4 [some (.mr i), some (.int many), none, none, none, none, none] μ) = .ok (.int d) (μ.set i (penO cells a' r')) := by
  have hil : i < μ.length := (List.getElem?_eq_some_iff.mp hp).1
  have mp : 0 < many := by omega
  unfold drawM
  have t1 : mTst (mOp gLt (mVar 1) (mC (.int 2))) [some (.mr i), some (.int many), none, none, none, none, none] μ = .ok false μ := by
    show Out.ok (decide (many < 2)) μ = _
    rw [decide_eq_false (by omega)]
  simp only [r_seq, r_ifS, t1, Out.bind_ok, Bool.false_eq_true, if_false, r_next, r_seq_nx]
  by_cases hr0 : 0 < r
  · have t2 : mTst (mOp gGt (mOp gIx (mVar 0) (mC (.int 2))) (mC (.int 0))) [some (.mr i), some (.int many), none, none, none, none, none] μ = .ok true μ := by
      simp only [r_tst, r_op, r_var, r_c, List.getElem?_cons_zero, Out.bind_ok, pen2 hp, gGt, gI0, decide_eq_true hr0]
    refine ⟨r % many, a, r / many, Int.emod_nonneg _ (by omega), Int.emod_lt_of_pos _ mp, Int.le_refl _, by omega, Int.ediv_nonneg hr (by omega), ?_⟩
    simp only [t2, Out.bind_ok, if_true, r_seq, r_set, r_op, r_cl, r_cons, r_var, r_c, r_nil, List.getElem?_cons_zero, List.getElem?_cons_succ, pen2 hp, gInt_i, gMod_ok μ mp, List.set_cons_succ, List.set_cons_zero, r_seq_nx, r_asg, gDiv_ok μ mp (show many < 2 ^ 62 by omega), pen_st2 hp, r_ret, r_seq_rt, endO]
  · have t2 : mTst (mOp gGt (mOp gIx (mVar 0) (mC (.int 2))) (mC (.int 0))) [some (.mr i), some (.int many), none, none, none, none, none] μ = .ok false μ := by
      simp only [r_tst, r_op, r_var, r_c, List.getElem?_cons_zero, Out.bind_ok, pen2 hp, gGt, gI0, decide_eq_false hr0]
    have hp1 := pen_get (i := i) (o := penO cells (a + 1) r) hil
    have sm1 : small64 k1 = true := small64_of (by omega) (by omega)
    have sma : small64 a = true := small64_of (by omega) (by omega)
    simp only [t2, Out.bind_ok, Bool.false_eq_true, if_false, r_next, r_seq_nx, r_set, r_op, r_var, r_c, List.getElem?_cons_zero, List.getElem?_cons_succ, pen1 hp, List.set_cons_succ, List.set_cons_zero, r_asg, gAdd_i, pen_st1 hp, r_seq, gMul_l _ sm1]
    -- the cell
    obtain ⟨cell, hcell⟩ : ∃ cell : Int, mIfS (mTst (mOp gNe (mOp gIx (mVar 0) (mC (.int 0))) (mCl gLst mNil)))
        (mSet 4 (mOp gIx (mOp gIx (mVar 0) (mC (.int 0))) (mOp gMod (mCl gInt (mCons (mVar 3) mNil)) (mCl gLen (mCons (mOp gIx (mVar 0) (mC (.int 0))) mNil))))) mNext
        [some (.mr i), some (.int many), none, some (.int a), some (.int (k1 * a + k2)), none, none] (μ.set i (penO cells (a + 1) r)) = .ok (.nx [some (.mr i), some (.int many), none, some (.int a), some (.int cell), none, none]) (μ.set i (penO cells (a + 1) r)) := by
      by_cases hne : cells = []
      · refine ⟨k1 * a + k2, ?_⟩
        simp only [r_ifS, r_tst, r_op, r_var, r_c, r_cl, r_nil, List.getElem?_cons_zero, Out.bind_ok, pen0 hp1, r_lstG, show few ([] : List T) = true from rfl, if_true, gNe, eq_ints_nil, decide_eq_true hne, Bool.not_true, Bool.false_eq_true, if_false, r_next]
      · obtain ⟨cell, hc⟩ := cell_at h0 hne (μ.set i (penO cells (a + 1) r))
        have hl : 0 < (cells.length : Int) := by
          have : cells.length ≠ 0 := fun z => hne (List.length_eq_zero_iff.mp z)
          omega
        refine ⟨cell, ?_⟩
        simp only [r_ifS, r_tst, r_op, r_var, r_c, r_cl, r_nil, r_cons, List.getElem?_cons_zero, List.getElem?_cons_succ, Out.bind_ok, pen0 hp1, r_lstG, show few ([] : List T) = true from rfl, if_true, gNe, eq_ints_nil, decide_eq_false hne, Bool.not_false, r_set, gInt_i, len_cells, gMod_ok _ hl, hc, List.set_cons_succ, List.set_cons_zero]
    rw [hcell]
    simp only [r_seq_nx]
    have p18 : gPow (.int 10) (.int 18) (μ.set i (penO cells (a + 1) r)) = .ok (.int (10 ^ 18)) (μ.set i (penO cells (a + 1) r)) := gPow_ok (j := 18) _ (by omega) (by omega) (by omega)
    by_cases hg : a < (cells.length : Int) ∧ (10 : Int) ^ 18 ≤ (if cell < 0 then -cell else cell)
    · have t3 : mAnd (mTst (mOp gLt (mVar 3) (mCl gLen (mCons (mOp gIx (mVar 0) (mC (.int 0))) mNil)))) (mTst (mOp gGe (mCl gAbs (mCons (mVar 4) mNil)) (mOp gPow (mC (.int 10)) (mC (.int 18))))) [some (.mr i), some (.int many), none, some (.int a), some (.int cell), none, none] (μ.set i (penO cells (a + 1) r)) = .ok true (μ.set i (penO cells (a + 1) r)) := by
        simp only [r_and, r_tst, r_op, r_var, r_c, r_cl, r_nil, r_cons, List.getElem?_cons_zero, List.getElem?_cons_succ, Out.bind_ok, pen0 hp1, len_cells, gLt, gI0, decide_eq_true hg.1, if_true, gAbs, p18, gGe, decide_eq_true hg.2]
      generalize hv : (2 * ((if cell < 0 then -cell else cell) - (10 : Int) ^ 18) + if decide (cell < 0) = true then 1 else 0) = great
      have hv0 : 0 ≤ great := by
        have := hg.2
        split at hv <;> omega
      refine ⟨great % many, a + 1, great / many, Int.emod_nonneg _ (by omega), Int.emod_lt_of_pos _ mp, by omega, by omega, Int.ediv_nonneg hv0 (by omega), ?_⟩
      have s2 : small64 2 = true := rfl
      have hgi : gInt [.bl (decide (cell < 0))] (μ.set i (penO cells (a + 1) r)) = .ok (.int (if decide (cell < 0) = true then 1 else 0)) (μ.set i (penO cells (a + 1) r)) := rfl
      simp only [r_seq, r_ifS, t3, Out.bind_ok, if_true]
      simp only [r_seq, Out.bind_ok, if_true, r_set, r_op, r_cl, r_cons, r_var, r_c, r_nil, List.getElem?_cons_zero, List.getElem?_cons_succ, gAbs, p18, gSub_i, gMul_l _ s2, gLt, gI0, hgi, gAdd_i, hv, List.set_cons_succ, List.set_cons_zero, r_seq_nx, r_asg, gInt_i, gDiv_ok _ mp (show many < 2 ^ 62 by omega), pen_st2 hp1, r_ret, gMod_ok _ mp, r_seq_rt, endO, List.set_set]
    · have t3 : mAnd (mTst (mOp gLt (mVar 3) (mCl gLen (mCons (mOp gIx (mVar 0) (mC (.int 0))) mNil)))) (mTst (mOp gGe (mCl gAbs (mCons (mVar 4) mNil)) (mOp gPow (mC (.int 10)) (mC (.int 18))))) [some (.mr i), some (.int many), none, some (.int a), some (.int cell), none, none] (μ.set i (penO cells (a + 1) r)) = .ok false (μ.set i (penO cells (a + 1) r)) := by
        simp only [r_and, r_tst, r_op, r_var, r_c, r_cl, r_nil, r_cons, List.getElem?_cons_zero, List.getElem?_cons_succ, Out.bind_ok, pen0 hp1, len_cells, gLt, gI0]
        by_cases ha : a < (cells.length : Int)
        · have hb : ¬ (10 : Int) ^ 18 ≤ (if cell < 0 then -cell else cell) := fun z => hg ⟨ha, z⟩
          simp only [decide_eq_true ha, if_true, gAbs, p18, gGe, gI0, Out.bind_ok, decide_eq_false hb]
        · simp only [decide_eq_false ha, Bool.false_eq_true, if_false]
      generalize hx : cell % 2147483549 + k3 * a + k2 = x1
      have e1 : 0 ≤ cell % 2147483549 := Int.emod_nonneg _ (by omega)
      have e2 : cell % 2147483549 < 2147483549 := Int.emod_lt_of_pos _ (by omega)
      have n3 : 0 ≤ k3 * a := Int.mul_nonneg c3.1 h0
      have n3' : k3 * a ≤ 131072 * 1048576 := Int.mul_le_mul (by omega) (by omega) h0 (by omega)
      generalize hy : x1 ^ 3 % 2147483629 = mixed
      have f1 : 0 ≤ mixed := by rw [← hy]; exact Int.emod_nonneg _ (by omega)
      have f2 : mixed < 2147483629 := by rw [← hy]; exact Int.emod_lt_of_pos _ (by omega)
      generalize hz : mixed * (2 * a + k4) + k1 * a * a + k3 = x2
      have n1 : 0 ≤ k1 * a := Int.mul_nonneg c1.1 h0
      have n1' : k1 * a ≤ 131072 * 1048576 := Int.mul_le_mul (by omega) (by omega) h0 (by omega)
      have n2 : 0 ≤ k1 * a * a := Int.mul_nonneg n1 h0
      have n2' : k1 * a * a ≤ 131072 * 1048576 * 1048576 := Int.mul_le_mul n1' (by omega) h0 (by omega)
      have n4 : 0 ≤ mixed * (2 * a + k4) := Int.mul_nonneg f1 (by omega)
      have n4' : mixed * (2 * a + k4) ≤ 2147483629 * 2228224 := Int.mul_le_mul (by omega) (by omega) (by omega) (by omega)
      generalize hw : x2 ^ 5 % 2147483563 = m2
      refine ⟨m2 / 16 % many, a + 1, r, Int.emod_nonneg _ (by omega), Int.emod_lt_of_pos _ mp, by omega, by omega, hr, ?_⟩
      have sm3 : small64 k3 = true := small64_of (by omega) (by omega)
      have smm : small64 mixed = true := small64_of (by omega) (by omega)
      have sm1a : small64 (k1 * a) = true := small64_of (by omega) (by omega)
      have s2 : small64 2 = true := rfl
      have w3 := gPow_ok (i := x1) (j := 3) (μ.set i (penO cells (a + 1) r)) (by omega) (by omega) (by omega)
      have w5 := gPow_ok (i := x2) (j := 5) (μ.set i (penO cells (a + 1) r)) (by omega) (by omega) (by omega)
      have w3' : gPow (.int x1) (.int 3) (μ.set i (penO cells (a + 1) r)) = .ok (.int (x1 ^ 3)) (μ.set i (penO cells (a + 1) r)) := w3
      have w5' : gPow (.int x2) (.int 5) (μ.set i (penO cells (a + 1) r)) = .ok (.int (x2 ^ 5)) (μ.set i (penO cells (a + 1) r)) := w5
      simp only [r_seq, r_ifS, t3, Out.bind_ok, Bool.false_eq_true, if_false, r_next, r_seq_nx, r_set, r_op, r_cl, r_cons, r_var, r_c, r_nil, List.getElem?_cons_zero, List.getElem?_cons_succ, gInt_i, gMod_ok _ (show (0 : Int) < 2147483549 by omega), gMul_l _ sm3, gAdd_i, hx, w3', gMod_ok _ (show (0 : Int) < 2147483629 by omega), hy, List.set_cons_succ, List.set_cons_zero,
        gMul_l _ s2, gMul_l _ smm, gMul_l _ sm1, gMul_l _ sm1a, hz, w5', gMod_ok _ (show (0 : Int) < 2147483563 by omega), hw, r_ret, gDiv_ok _ (show (0 : Int) < 16 by omega) (show (16 : Int) < 2 ^ 62 by omega), gMod_ok _ mp, endO]
end Mr

namespace Mr
open PySem PySem.Spec PyProof.Rows L2
def top (i : Nat) : Stmt := PySem.Challenge.pw_anydepth_k05_stairs_by_trying_dues.main.body.getD i (.Pass ⟨0, 0, 0, 0⟩)
def lamQ (x : Str) : Str := (x ++ ".<locals>.") ++ "<lambda>"
/-- the built-in names that the text uses are not its own -/
structure Bf (mg : Str → Option Value) : Prop where
  abs_ : mg "abs" = none
  all_ : mg "all" = none
  any_ : mg "any" = none
  bool_ : mg "bool" = none
  int_ : mg "int" = none
  isinstance_ : mg "isinstance" = none
  len_ : mg "len" = none
  list_ : mg "list" = none
  max_ : mg "max" = none
  min_ : mg "min" = none
  range_ : mg "range" = none
  repr_ : mg "repr" = none
  sorted_ : mg "sorted" = none
  tuple_ : mg "tuple" = none
  zip_ : mg "zip" = none
section
variable {P : Program} {w : World} {K : PySem.W.Frag} {mg : Str → Option Value} {base : Heap}
/-! _law_pen -/
def m__law_pen : MS := (mRet (mCl gLstM (mCons (mCl (gLstOf fzT) (mCons (mSl fzT (mVar 0) mPN (mPS (mC (.int 63)))) mNil)) (mCons (mC (.int 0)) (mCons (mC (.int 0)) mNil)))))
def g__law_pen : GL := arO 1 (fnK 1 (m__law_pen))
theorem S__law_pen : FnScope ["script"] ["script"] (defScope (top 20)) := ⟨rfl, rfl, rfl, by decide +kernel, rfl, by decide +kernel, by decide +kernel⟩
theorem t__law_pen (B : Bf mg) : BodyD P w K mg base ["script"] 0 "_law_pen" (top 20) (m__law_pen) := by
  intro cdv A outer s H E hG hr hcv
  have S := S__law_pen
  exact (jss_one (js_ret (je_lstM (ja_cons (je_callT (cLst lays_fz) rfl B.list_ boot_list (ja_cons (je_slice lays_fz (je_var 0 (pv 0)) jo_none (jo_some je_int)) ja_nil)) (ja_cons je_int (ja_cons je_int ja_nil))))))
theorem D__law_pen {fd : FuncData} (F : FunD K "_law_pen" "_law_pen" (defArgs (top 20)) (defBody (top 20)) (defScope (top 20)) [] [] (He.ga K "_law_pen") fd) (hg : mg "_law_pen" = some (.ref (He.ga K "_law_pen"))) (B : Bf mg) : DefK P w K mg base 1 "_law_pen" (top 20) ["script"] (g__law_pen) :=
  defK F hg (fun _ _ _ _ _ _ us hl => match us, hl with | [_], _ => rfl) S__law_pen 1 rfl (t__law_pen B)
/-! _law_draw -/
def m__law_draw : MS := (mSeq (mIfS (mTst (mOp gLt (mVar 1) (mC (.int 2))))
  (mRet (mC (.int 0)))
  mNext)
  (mSeq (mIfS (mTst (mOp gGt (mOp gIx (mVar 0) (mC (.int 2))) (mC (.int 0))))
  (mSeq (mSet 2 (mOp gMod (mCl gInt (mCons (mOp gIx (mVar 0) (mC (.int 2))) mNil)) (mVar 1)))
  (mSeq (mAsg (mOp gDiv (mCl gInt (mCons (mOp gIx (mVar 0) (mC (.int 2))) mNil)) (mVar 1)) (gSt (mVar 0) (mC (.int 2))))
  (mRet (mVar 2))))
  mNext)
  (mSeq (mSet 3 (mOp gIx (mVar 0) (mC (.int 1))))
  (mSeq (mAsg (mOp (gAdd fzT) (mVar 3) (mC (.int 1))) (gSt (mVar 0) (mC (.int 1))))
  (mSeq (mSet 4 (mOp (gAdd fzT) (mOp (gMul fzT) (mC (.int 71181)) (mVar 3)) (mC (.int 9131))))
  (mSeq (mIfS (mTst (mOp gNe (mOp gIx (mVar 0) (mC (.int 0))) (mCl gLst mNil)))
  (mSet 4 (mOp gIx (mOp gIx (mVar 0) (mC (.int 0))) (mOp gMod (mCl gInt (mCons (mVar 3) mNil)) (mCl gLen (mCons (mOp gIx (mVar 0) (mC (.int 0))) mNil)))))
  mNext)
  (mSeq (mIfS (mAnd (mTst (mOp gLt (mVar 3) (mCl gLen (mCons (mOp gIx (mVar 0) (mC (.int 0))) mNil)))) (mTst (mOp gGe (mCl gAbs (mCons (mVar 4) mNil)) (mOp gPow (mC (.int 10)) (mC (.int 18))))))
  (mSeq (mSet 5 (mOp (gAdd fzT) (mOp (gMul fzT) (mC (.int 2)) (mOp gSub (mCl gAbs (mCons (mVar 4) mNil)) (mOp gPow (mC (.int 10)) (mC (.int 18))))) (mCl gInt (mCons (mOp gLt (mVar 4) (mC (.int 0))) mNil))))
  (mSeq (mAsg (mOp gDiv (mCl gInt (mCons (mVar 5) mNil)) (mVar 1)) (gSt (mVar 0) (mC (.int 2))))
  (mRet (mOp gMod (mCl gInt (mCons (mVar 5) mNil)) (mVar 1)))))
  mNext)
  (mSeq (mSet 6 (mOp gMod (mCl gInt (mCons (mOp gPow (mOp (gAdd fzT) (mOp (gAdd fzT) (mOp gMod (mCl gInt (mCons (mVar 4) mNil)) (mC (.int 2147483549))) (mOp (gMul fzT) (mC (.int 33303)) (mVar 3))) (mC (.int 9131))) (mC (.int 3))) mNil)) (mC (.int 2147483629))))
  (mSeq (mSet 6 (mOp gMod (mCl gInt (mCons (mOp gPow (mOp (gAdd fzT) (mOp (gAdd fzT) (mOp (gMul fzT) (mVar 6) (mOp (gAdd fzT) (mOp (gMul fzT) (mC (.int 2)) (mVar 3)) (mC (.int 6211)))) (mOp (gMul fzT) (mOp (gMul fzT) (mC (.int 71181)) (mVar 3)) (mVar 3))) (mC (.int 33303))) (mC (.int 5))) mNil)) (mC (.int 2147483563))))
  (mRet (mOp gMod (mCl gInt (mCons (mOp gDiv (mVar 6) (mC (.int 16))) mNil)) (mVar 1))))))))))))
def g__law_draw : GL := arO 2 (fnM 7 (m__law_draw))
theorem S__law_draw : FnScope ["pen", "many", "digit", "at", "cell", "great", "mixed"] ["pen", "many"] (defScope (top 21)) := ⟨rfl, rfl, rfl, by decide +kernel, rfl, by decide +kernel, by decide +kernel⟩
theorem t__law_draw (B : Bf mg) : BodyD P w K mg base ["pen", "many", "digit", "at", "cell", "great", "mixed"] 0 "_law_draw" (top 21) (m__law_draw) := by
  intro cdv A outer s H E hG hr hcv
  have S := S__law_draw
  exact (jss_cons (js_if (jt_cmp oLt (je_var 1 (pv 1)) je_int (nomark _))
  (jss_one (js_ret je_int))
  jss_nil)
  (jss_cons (js_if (jt_cmp oGt (je_ix (je_var 0 (pv 0)) je_int) je_int (nomark _))
  (jss_cons (js_set S.nd rfl (by first | exact .inl rfl | exact .inr rfl) (je_op oMod (je_callT cInt rfl B.int_ boot_int (ja_cons (je_ix (je_var 0 (pv 0)) je_int) ja_nil)) (je_var 1 (pv 1))))
  (jss_cons (js_asg (vs := []) (je_op oDiv (je_callT cInt rfl B.int_ boot_int (ja_cons (je_ix (je_var 0 (pv 0)) je_int) ja_nil)) (je_var 1 (pv 1))) (jg_sub (je_var 0 (pv 0)) je_int))
  (jss_one (js_ret (je_var 2 (pv 2))))))
  jss_nil)
  (jss_cons (js_set S.nd rfl (by first | exact .inl rfl | exact .inr rfl) (je_ix (je_var 0 (pv 0)) je_int))
  (jss_cons (js_asg (vs := []) (je_op (oAdd lays_fz) (je_var 3 (pv 3)) je_int) (jg_sub (je_var 0 (pv 0)) je_int))
  (jss_cons (js_set S.nd rfl (by first | exact .inl rfl | exact .inr rfl) (je_op (oAdd lays_fz) (je_op (oMul lays_fz) je_int (je_var 3 (pv 3))) je_int))
  (jss_cons (js_if (jt_cmp (oNe (unitsOf64 hr)) (je_ix (je_var 0 (pv 0)) je_int) (je_lst ja_nil) (nomark _))
  (jss_one (js_set S.nd rfl (by first | exact .inl rfl | exact .inr rfl) (je_ix (je_ix (je_var 0 (pv 0)) je_int) (je_op oMod (je_callT cInt rfl B.int_ boot_int (ja_cons (je_var 3 (pv 3)) ja_nil)) (je_callB cLen rfl B.len_ boot_len (ja_cons (je_ix (je_var 0 (pv 0)) je_int) ja_nil))))))
  jss_nil)
  (jss_cons (js_if (jt_w (jw_and (jt_cmp oLt (je_var 3 (pv 3)) (je_callB cLen rfl B.len_ boot_len (ja_cons (je_ix (je_var 0 (pv 0)) je_int) ja_nil)) (nomark _)) (jw_and1 (jt_cmp oGe (je_callB cAbs rfl B.abs_ boot_abs (ja_cons (je_var 4 (pv 4)) ja_nil)) (je_op oPow je_int je_int) (nomark _)))))
  (jss_cons (js_set S.nd rfl (by first | exact .inl rfl | exact .inr rfl) (je_op (oAdd lays_fz) (je_op (oMul lays_fz) je_int (je_op oSub (je_callB cAbs rfl B.abs_ boot_abs (ja_cons (je_var 4 (pv 4)) ja_nil)) (je_op oPow je_int je_int))) (je_callT cInt rfl B.int_ boot_int (ja_cons (je_cmp oLt (je_var 4 (pv 4)) je_int (nomark _)) ja_nil))))
  (jss_cons (js_asg (vs := []) (je_op oDiv (je_callT cInt rfl B.int_ boot_int (ja_cons (je_var 5 (pv 5)) ja_nil)) (je_var 1 (pv 1))) (jg_sub (je_var 0 (pv 0)) je_int))
  (jss_one (js_ret (je_op oMod (je_callT cInt rfl B.int_ boot_int (ja_cons (je_var 5 (pv 5)) ja_nil)) (je_var 1 (pv 1)))))))
  jss_nil)
  (jss_cons (js_set S.nd rfl (by first | exact .inl rfl | exact .inr rfl) (je_op oMod (je_callT cInt rfl B.int_ boot_int (ja_cons (je_op oPow (je_op (oAdd lays_fz) (je_op (oAdd lays_fz) (je_op oMod (je_callT cInt rfl B.int_ boot_int (ja_cons (je_var 4 (pv 4)) ja_nil)) je_int) (je_op (oMul lays_fz) je_int (je_var 3 (pv 3)))) je_int) je_int) ja_nil)) je_int))
  (jss_cons (js_set S.nd rfl (by first | exact .inl rfl | exact .inr rfl) (je_op oMod (je_callT cInt rfl B.int_ boot_int (ja_cons (je_op oPow (je_op (oAdd lays_fz) (je_op (oAdd lays_fz) (je_op (oMul lays_fz) (je_var 6 (pv 6)) (je_op (oAdd lays_fz) (je_op (oMul lays_fz) je_int (je_var 3 (pv 3))) je_int)) (je_op (oMul lays_fz) (je_op (oMul lays_fz) je_int (je_var 3 (pv 3))) (je_var 3 (pv 3)))) je_int) je_int) ja_nil)) je_int))
  (jss_one (js_ret (je_op oMod (je_callT cInt rfl B.int_ boot_int (ja_cons (je_op oDiv (je_var 6 (pv 6)) je_int) ja_nil)) (je_var 1 (pv 1))))))))))))))
theorem D__law_draw {fd : FuncData} (F : FunD K "_law_draw" "_law_draw" (defArgs (top 21)) (defBody (top 21)) (defScope (top 21)) [] [] (He.ga K "_law_draw") fd) (hg : mg "_law_draw" = some (.ref (He.ga K "_law_draw"))) (B : Bf mg) : DefK P w K mg base 1 "_law_draw" (top 21) ["pen", "many"] (g__law_draw) :=
  defM F hg (fun _ _ _ _ _ _ us hl => match us, hl with | [_, _], _ => rfl) S__law_draw 7 rfl (t__law_draw B)
/-! _law_pick -/
def m__law_pick : MS := (mRet (mOp gIx (mVar 1) (mCall g__law_draw [] (mCons (mVar 0) (mCons (mCl gLen (mCons (mVar 1) mNil)) mNil)))))
def g__law_pick : GL := arO 2 (fnM 2 (m__law_pick))
theorem S__law_pick : FnScope ["pen", "some"] ["pen", "some"] (defScope (top 22)) := ⟨rfl, rfl, rfl, by decide +kernel, rfl, by decide +kernel, by decide +kernel⟩
theorem t__law_pick (B : Bf mg) (D__law_draw : DefK P w K mg base 1 "_law_draw" (top 21) ["pen", "many"] g__law_draw) : BodyD P w K mg base ["pen", "some"] 1 "_law_pick" (top 22) (m__law_pick) := by
  intro cdv A outer s H E hG hr hcv
  have S := S__law_pick
  exact (jss_one (js_ret (je_ix (je_var 1 (pv 1)) (je_callD D__law_draw hG (hr.mono (by decide)) rfl (ja_cons (je_var 0 (pv 0)) (ja_cons (je_callB cLen rfl B.len_ boot_len (ja_cons (je_var 1 (pv 1)) ja_nil)) ja_nil))))))
theorem D__law_pick {fd : FuncData} (F : FunD K "_law_pick" "_law_pick" (defArgs (top 22)) (defBody (top 22)) (defScope (top 22)) [] [] (He.ga K "_law_pick") fd) (hg : mg "_law_pick" = some (.ref (He.ga K "_law_pick"))) (B : Bf mg) (D__law_draw : DefK P w K mg base 1 "_law_draw" (top 21) ["pen", "many"] g__law_draw) : DefK P w K mg base 2 "_law_pick" (top 22) ["pen", "some"] (g__law_pick) :=
  defM F hg (fun _ _ _ _ _ _ us hl => match us, hl with | [_, _], _ => rfl) S__law_pick 2 rfl (t__law_pick B D__law_draw)
/-! _law_offers -/
def m__law_offers : MS := (mSeq (mSet 2 (mCl gLstM mNil))
  (mSeq (mFor (mIt (mCons (mVar 1) mNil) itR1) (gNm 3)
  (mSeq (mSet 4 (mCall g__law_draw [] (mCons (mVar 0) (mCons (mC (.int 12)) mNil))))
  (mDrop (mLm gApp (mVar 2) (mCons (mCl gTup (mCons (mVar 4) (mCons (mCall g__law_pick [] (mCons (mVar 0) (mCons (mCl gLst (mCons (mC .non) (mCons (mVar 4) (mCons (mOp gSub (mVar 4) (mCall g__law_draw [] (mCons (mVar 0) (mCons (mC (.int 9)) mNil)))) (mCons (mOp gSub (mC (.int 0)) (mCall g__law_draw [] (mCons (mVar 0) (mCons (mC (.int 6)) mNil)))) mNil))))) mNil))) mNil))) mNil)))))
  (mRet (mVar 2))))
def g__law_offers : GL := arO 2 (fnM 5 (m__law_offers))
theorem S__law_offers : FnScope ["pen", "many", "found", "turn", "need"] ["pen", "many"] (defScope (top 24)) := ⟨rfl, rfl, rfl, by decide +kernel, rfl, by decide +kernel, by decide +kernel⟩
theorem t__law_offers (B : Bf mg) (D__law_draw : DefK P w K mg base 1 "_law_draw" (top 21) ["pen", "many"] g__law_draw) (D__law_pick : DefK P w K mg base 2 "_law_pick" (top 22) ["pen", "some"] g__law_pick) : BodyD P w K mg base ["pen", "many", "found", "turn", "need"] 2 "_law_offers" (top 24) (m__law_offers) := by
  intro cdv A outer s H E hG hr hcv
  have S := S__law_offers
  exact (jss_cons (js_set S.nd rfl (by first | exact .inl rfl | exact .inr rfl) (je_lstM ja_nil))
  (jss_cons (js_for (vs := [3]) (passes_of rfl) rfl (ji_range1 rfl B.range_ (ja_cons (je_var 1 (pv 1)) ja_nil)) (jg_name 3 (pg_name S.nd rfl (by first | exact .inl rfl | exact .inr rfl)) (by decide))
  (jss_cons (js_set S.nd rfl (by first | exact .inl rfl | exact .inr rfl) (je_callD D__law_draw hG (hr.mono (by decide)) rfl (ja_cons (je_var 0 (pv 0)) (ja_cons je_int ja_nil))))
  (jss_one (js_expr (je_append (je_var 2 (pv 2)) (ja_cons (je_tup (ja_cons (je_var 4 (pv 4)) (ja_cons (je_callD D__law_pick hG (hr.mono (by decide)) rfl (ja_cons (je_var 0 (pv 0)) (ja_cons (je_lst (ja_cons je_non (ja_cons (je_var 4 (pv 4)) (ja_cons (je_op oSub (je_var 4 (pv 4)) (je_callD D__law_draw hG (hr.mono (by decide)) rfl (ja_cons (je_var 0 (pv 0)) (ja_cons je_int ja_nil)))) (ja_cons (je_op oSub je_int (je_callD D__law_draw hG (hr.mono (by decide)) rfl (ja_cons (je_var 0 (pv 0)) (ja_cons je_int ja_nil)))) ja_nil))))) ja_nil))) ja_nil))) ja_nil))))))
  (jss_one (js_ret (je_var 2 (pv 2))))))
theorem D__law_offers {fd : FuncData} (F : FunD K "_law_offers" "_law_offers" (defArgs (top 24)) (defBody (top 24)) (defScope (top 24)) [] [] (He.ga K "_law_offers") fd) (hg : mg "_law_offers" = some (.ref (He.ga K "_law_offers"))) (B : Bf mg) (D__law_draw : DefK P w K mg base 1 "_law_draw" (top 21) ["pen", "many"] g__law_draw) (D__law_pick : DefK P w K mg base 2 "_law_pick" (top 22) ["pen", "some"] g__law_pick) : DefK P w K mg base 3 "_law_offers" (top 24) ["pen", "many"] (g__law_offers) :=
  defM F hg (fun _ _ _ _ _ _ us hl => match us, hl with | [_, _], _ => rfl) S__law_offers 5 rfl (t__law_offers B D__law_draw D__law_pick)
/-! order_of -/
def m_order_of : MS := (mSeq (mAsg (mVar 0) (gTp 2 (gsCons (gNm 1) (gsCons (gNm 2) gsNil))))
  (mRet (mIf (mTst (mOp gIs (mVar 2) (mC .non))) (mCl gTup (mCons (mVar 1) (mCons (mC (.int 0)) (mCons (mC (.int 0)) mNil)))) (mCl gTup (mCons (mVar 1) (mCons (mC (.int 1)) (mCons (mVar 2) mNil)))))))
def g_order_of : GL := arO 1 (fnM 3 (m_order_of))
theorem S_order_of : FnScope ["offer", "need", "loss"] ["offer"] (defScope (top 8)) := ⟨rfl, rfl, rfl, by decide +kernel, rfl, by decide +kernel, by decide +kernel⟩
theorem t_order_of (B : Bf mg) : BodyD P w K mg base ["offer", "need", "loss"] 0 "order_of" (top 8) (m_order_of) := by
  intro cdv A outer s H E hG hr hcv
  have S := S_order_of
  exact (jss_cons (js_asg (vs := [1, 2]) (je_var 0 (pv 0)) (jg_tup rfl (jgs_cons (jg_name 1 (pg_name S.nd rfl (by first | exact .inl rfl | exact .inr rfl)) (by decide)) (jgs_cons (jg_name 2 (pg_name S.nd rfl (by first | exact .inl rfl | exact .inr rfl)) (by decide)) jgs_nil))))
  (jss_one (js_ret (je_if (jt_cmp oIs (je_var 2 (pv 2)) je_non (nomark _)) (je_tup (ja_cons (je_var 1 (pv 1)) (ja_cons je_int (ja_cons je_int ja_nil)))) (je_tup (ja_cons (je_var 1 (pv 1)) (ja_cons je_int (ja_cons (je_var 2 (pv 2)) ja_nil))))))))
theorem D_order_of {fd : FuncData} (F : FunD K "order_of" "order_of" (defArgs (top 8)) (defBody (top 8)) (defScope (top 8)) [] [] (He.ga K "order_of") fd) (hg : mg "order_of" = some (.ref (He.ga K "order_of"))) (B : Bf mg) : DefK P w K mg base 1 "order_of" (top 8) ["offer"] (g_order_of) :=
  defM F hg (fun _ _ _ _ _ _ us hl => match us, hl with | [_], _ => rfl) S_order_of 3 rfl (t_order_of B)
/-! is_worse -/
def m_is_worse : MS := (mSeq (mIfS (mTst (mOp gIs (mVar 1) (mC .non)))
  (mRet (mC (.bl true)))
  mNext)
  (mRet (mAndV (mOp gIsNot (mVar 0) (mC .non)) (mOp gGe (mVar 0) (mVar 1)))))
def g_is_worse : GL := arO 2 (fnM 2 (m_is_worse))
theorem S_is_worse : FnScope ["loss", "other"] ["loss", "other"] (defScope (top 4)) := ⟨rfl, rfl, rfl, by decide +kernel, rfl, by decide +kernel, by decide +kernel⟩
theorem t_is_worse (B : Bf mg) : BodyD P w K mg base ["loss", "other"] 0 "is_worse" (top 4) (m_is_worse) := by
  intro cdv A outer s H E hG hr hcv
  have S := S_is_worse
  exact (jss_cons (js_if (jt_cmp oIs (je_var 1 (pv 1)) je_non (nomark _))
  (jss_one (js_ret je_bl))
  jss_nil)
  (jss_one (js_ret (je_and (je_cmp oIsNot (je_var 0 (pv 0)) je_non (nomark _)) (je_one (je_cmp oGe (je_var 0 (pv 0)) (je_var 1 (pv 1)) (nomark _)))))))
theorem D_is_worse {fd : FuncData} (F : FunD K "is_worse" "is_worse" (defArgs (top 4)) (defBody (top 4)) (defScope (top 4)) [] [] (He.ga K "is_worse") fd) (hg : mg "is_worse" = some (.ref (He.ga K "is_worse"))) (B : Bf mg) : DefK P w K mg base 1 "is_worse" (top 4) ["loss", "other"] (g_is_worse) :=
  defM F hg (fun _ _ _ _ _ _ us hl => match us, hl with | [_, _], _ => rfl) S_is_worse 2 rfl (t_is_worse B)
/-! stair_of -/
def m_stair_of : MS := (mSeq (mSet 1 (mCl gLstM mNil))
  (mSeq (mFor (mItS (mSortK g_order_of (fun _ => true) fzT (mVar 0))) (gTp 2 (gsCons (gNm 2) (gsCons (gNm 3) gsNil)))
  (mIfS (mOr (mTst (mOp gEq (mVar 1) (mCl gLst mNil))) (mNot (mTru (mCall g_is_worse [] (mCons (mVar 3) (mCons (mOp gIx (mOp gIx (mVar 1) (mUn gNeg (mC (.int 1)))) (mC (.int 1))) mNil))))))
  (mDrop (mLm gApp (mVar 1) (mCons (mCl gTup (mCons (mVar 2) (mCons (mVar 3) mNil))) mNil)))
  mNext))
  (mRet (mCl gTupOf (mCons (mVar 1) mNil)))))
def g_stair_of : GL := arO 1 (fnM 4 (m_stair_of))
theorem S_stair_of : FnScope ["offers", "found", "need", "loss"] ["offers"] (defScope (top 7)) := ⟨rfl, rfl, rfl, by decide +kernel, rfl, by decide +kernel, by decide +kernel⟩
theorem t_stair_of (B : Bf mg) (D_order_of : DefK P w K mg base 1 "order_of" (top 8) ["offer"] g_order_of) (D_is_worse : DefK P w K mg base 1 "is_worse" (top 4) ["loss", "other"] g_is_worse) : BodyD P w K mg base ["offers", "found", "need", "loss"] 3 "stair_of" (top 7) (m_stair_of) := by
  intro cdv A outer s H E hG hr hcv
  have S := S_stair_of
  exact (jss_cons (js_set S.nd rfl (by first | exact .inl rfl | exact .inr rfl) (je_lstM ja_nil))
  (jss_cons (js_for (vs := [2, 3]) (passes_of rfl) rfl (ji_seq (je_sortK rfl B.sorted_ lays_fz (unitsOf hr) (je_var 0 (pv 0)) (keyD D_order_of hG (hr.mono (by decide)) rfl))) (jg_tup rfl (jgs_cons (jg_name 2 (pg_name S.nd rfl (by first | exact .inl rfl | exact .inr rfl)) (by decide)) (jgs_cons (jg_name 3 (pg_name S.nd rfl (by first | exact .inl rfl | exact .inr rfl)) (by decide)) jgs_nil)))
  (jss_one (js_if (jt_w (jw_or (jt_cmp (oEq (unitsOf64 hr)) (je_var 1 (pv 1)) (je_lst ja_nil) (nomark _)) (jw_or1 (jt_not (jt_tru (je_callD D_is_worse hG (hr.mono (by decide)) rfl (ja_cons (je_var 3 (pv 3)) (ja_cons (je_ix (je_ix (je_var 1 (pv 1)) (je_un uNeg je_int)) je_int) ja_nil))))))))
  (jss_one (js_expr (je_append (je_var 1 (pv 1)) (ja_cons (je_tup (ja_cons (je_var 2 (pv 2)) (ja_cons (je_var 3 (pv 3)) ja_nil))) ja_nil))))
  jss_nil)))
  (jss_one (js_ret (je_callT cTup rfl B.tuple_ boot_tuple (ja_cons (je_var 1 (pv 1)) ja_nil))))))
theorem D_stair_of {fd : FuncData} (F : FunD K "stair_of" "stair_of" (defArgs (top 7)) (defBody (top 7)) (defScope (top 7)) [] [] (He.ga K "stair_of") fd) (hg : mg "stair_of" = some (.ref (He.ga K "stair_of"))) (B : Bf mg) (D_order_of : DefK P w K mg base 1 "order_of" (top 8) ["offer"] g_order_of) (D_is_worse : DefK P w K mg base 1 "is_worse" (top 4) ["loss", "other"] g_is_worse) : DefK P w K mg base 4 "stair_of" (top 7) ["offers"] (g_stair_of) :=
  defM F hg (fun _ _ _ _ _ _ us hl => match us, hl with | [_], _ => rfl) S_stair_of 4 rfl (t_stair_of B D_order_of D_is_worse)
/-! _law_need -/
def m__law_need : MS := (mSeq (mSet 2 (mFin fzT (mLc [3, 4] (mItS (mVar 0)) (gTp 2 (gsCons (gNm 3) (gsCons (gNm 4) gsNil))) mYes (mIf (mTst (mOp gIs (mVar 4) (mC .non))) (mVar 3) (mCl gMax (mCons (mVar 3) (mCons (mOp (gAdd fzT) (mVar 1) (mVar 4)) mNil)))))))
  (mRet (mIf (mTst (mOp gNe (mVar 2) (mCl gLst mNil))) (mCl gMin (mCons (mVar 2) mNil)) (mC .non))))
def g__law_need : GL := arO 2 (fnM 5 (m__law_need))
theorem S__law_need : FnScope ["stair", "due", "some", "need", "loss"] ["stair", "due"] (defScope (top 23)) := ⟨rfl, rfl, rfl, by decide +kernel, rfl, by decide +kernel, by decide +kernel⟩
theorem t__law_need (B : Bf mg) : BodyD P w K mg base ["stair", "due", "some", "need", "loss"] 0 "_law_need" (top 23) (m__law_need) := by
  intro cdv A outer s H E hG hr hcv
  have S := S__law_need
  exact (jss_cons (js_setLc keeps_fz rfl S.nd rfl rfl (sw_true rfl rfl rfl rfl) (ji_seq (je_var 0 (pv 0))) (blkOk_by (own := [("need", 3), ("loss", 4)]) (by kernel_rfl)) rfl (fun s H C cl fp => (jg_tup rfl (jgs_cons (jg_name 3 (pg_name S.nd rfl (by first | exact .inl rfl | exact .inr rfl)) (by decide)) (jgs_cons (jg_name 4 (pg_name S.nd rfl (by first | exact .inl rfl | exact .inr rfl)) (by decide)) jgs_nil)))) (fun s H C cl fp => jts_nil) (fun s H C cl fp => (je_if (jt_cmp oIs (je_var 4 (pv 4)) je_non (nomark _)) (je_var 3 (pv 3)) (je_callB (cMax rfl) rfl B.max_ boot_max (ja_cons (je_var 3 (pv 3)) (ja_cons (je_op (oAdd lays_fz) (je_var 1 (pv 1)) (je_var 4 (pv 4))) ja_nil))))))
  (jss_one (js_ret (je_if (jt_cmp (oNe (unitsOf64 hr)) (je_var 2 (pv 2)) (je_lst ja_nil) (nomark _)) (je_callB (cMin rfl) rfl B.min_ boot_min (ja_cons (je_var 2 (pv 2)) ja_nil)) je_non))))
theorem D__law_need {fd : FuncData} (F : FunD K "_law_need" "_law_need" (defArgs (top 23)) (defBody (top 23)) (defScope (top 23)) [] [] (He.ga K "_law_need") fd) (hg : mg "_law_need" = some (.ref (He.ga K "_law_need"))) (B : Bf mg) : DefK P w K mg base 1 "_law_need" (top 23) ["stair", "due"] (g__law_need) :=
  defM F hg (fun _ _ _ _ _ _ us hl => match us, hl with | [_, _], _ => rfl) S__law_need 5 rfl (t__law_need B)
/-! _law_values -/
def m__law_values : MS := (mRet (mFin fzT (mLc [1] (mIt (mCons (mC (.int 41)) mNil) itR1) (gNm 1) mYes (mCall g__law_need [] (mCons (mVar 0) (mCons (mVar 1) mNil))))))
def g__law_values : GL := arO 1 (fnM 2 (m__law_values))
theorem S__law_values : FnScope ["stair", "due"] ["stair"] (defScope (top 26)) := ⟨rfl, rfl, rfl, by decide +kernel, rfl, by decide +kernel, by decide +kernel⟩
theorem t__law_values (B : Bf mg) (D__law_need : DefK P w K mg base 1 "_law_need" (top 23) ["stair", "due"] g__law_need) : BodyD P w K mg base ["stair", "due"] 1 "_law_values" (top 26) (m__law_values) := by
  intro cdv A outer s H E hG hr hcv
  have S := S__law_values
  exact (jss_one (js_ret (je_lc keeps_fz rfl S.nd (ji_range1 rfl B.range_ (ja_cons je_int ja_nil)) (blkOk_by (own := [("due", 1)]) (by kernel_rfl)) rfl (fun s H C cl fp => (jg_name 1 (pg_name S.nd rfl (by first | exact .inl rfl | exact .inr rfl)) (by decide))) (fun s H C cl fp => jts_nil) (fun s H C cl fp => (je_callD D__law_need hG (hr.mono (by decide)) rfl (ja_cons (je_var 0 (pv 0)) (ja_cons (je_var 1 (pv 1)) ja_nil)))))))
theorem D__law_values {fd : FuncData} (F : FunD K "_law_values" "_law_values" (defArgs (top 26)) (defBody (top 26)) (defScope (top 26)) [] [] (He.ga K "_law_values") fd) (hg : mg "_law_values" = some (.ref (He.ga K "_law_values"))) (B : Bf mg) (D__law_need : DefK P w K mg base 1 "_law_need" (top 23) ["stair", "due"] g__law_need) : DefK P w K mg base 2 "_law_values" (top 26) ["stair"] (g__law_values) :=
  defM F hg (fun _ _ _ _ _ _ us hl => match us, hl with | [_], _ => rfl) S__law_values 2 rfl (t__law_values B D__law_need)
/-! _law_loss_let -/
def m__law_loss_let : MS := (mRet (mOrV (mOp gIs (mVar 0) (mC .non)) (mAndV (mOp gIsNot (mVar 1) (mC .non)) (mOp gGe (mVar 1) (mVar 0)))))
def g__law_loss_let : GL := arO 2 (fnM 2 (m__law_loss_let))
theorem S__law_loss_let : FnScope ["loss", "told"] ["loss", "told"] (defScope (top 25)) := ⟨rfl, rfl, rfl, by decide +kernel, rfl, by decide +kernel, by decide +kernel⟩
theorem t__law_loss_let (B : Bf mg) : BodyD P w K mg base ["loss", "told"] 0 "_law_loss_let" (top 25) (m__law_loss_let) := by
  intro cdv A outer s H E hG hr hcv
  have S := S__law_loss_let
  exact (jss_one (js_ret (je_or (je_cmp oIs (je_var 0 (pv 0)) je_non (nomark _)) (je_one (je_and (je_cmp oIsNot (je_var 1 (pv 1)) je_non (nomark _)) (je_one (je_cmp oGe (je_var 1 (pv 1)) (je_var 0 (pv 0)) (nomark _))))))))
theorem D__law_loss_let {fd : FuncData} (F : FunD K "_law_loss_let" "_law_loss_let" (defArgs (top 25)) (defBody (top 25)) (defScope (top 25)) [] [] (He.ga K "_law_loss_let") fd) (hg : mg "_law_loss_let" = some (.ref (He.ga K "_law_loss_let"))) (B : Bf mg) : DefK P w K mg base 1 "_law_loss_let" (top 25) ["loss", "told"] (g__law_loss_let) :=
  defM F hg (fun _ _ _ _ _ _ us hl => match us, hl with | [_, _], _ => rfl) S__law_loss_let 2 rfl (t__law_loss_let B)
/-! either -/
def m_either : MS := (mRet (mCall g_stair_of [] (mCons (mFin fzT (mLc2 [1, 2] (mItS (mVar 0)) (gNm 1) mYes (mItS (mVar 1)) [2] (gNm 2) mYes (mVar 2))) mNil)))
def g_either : GL := arO 1 (fnM 3 (m_either))
theorem S_either : FnScope ["stairs", "stair", "offer"] ["stairs"] (defScope (top 10)) := ⟨rfl, rfl, rfl, by decide +kernel, rfl, by decide +kernel, by decide +kernel⟩
theorem t_either (B : Bf mg) (D_stair_of : DefK P w K mg base 4 "stair_of" (top 7) ["offers"] g_stair_of) : BodyD P w K mg base ["stairs", "stair", "offer"] 4 "either" (top 10) (m_either) := by
  intro cdv A outer s H E hG hr hcv
  have S := S_either
  exact (jss_one (js_ret (je_callD D_stair_of hG (hr.mono (by decide)) rfl (ja_cons (je_lc2 (vs1 := [2]) keeps_fz rfl S.nd (ji_seq (je_var 0 (pv 0))) (blkOk_by (own := [("stair", 1), ("offer", 2)]) (by kernel_rfl)) rfl (by decide) (fun s H C cl fp => (jg_name 1 (pg_name S.nd rfl (by first | exact .inl rfl | exact .inr rfl)) (by decide))) (fun s H C cl fp => jts_nil) (fun s H C cl fp => (ji_seq (je_var 1 (pv 1)))) (fun s H C cl fp => (jg_name 2 (pg_name S.nd rfl (by first | exact .inl rfl | exact .inr rfl)) (by decide))) (fun s H C cl fp => jts_nil) (fun s H C cl fp => (je_var 2 (pv 2)))) ja_nil))))
theorem D_either {fd : FuncData} (F : FunD K "either" "either" (defArgs (top 10)) (defBody (top 10)) (defScope (top 10)) [] [] (He.ga K "either") fd) (hg : mg "either" = some (.ref (He.ga K "either"))) (B : Bf mg) (D_stair_of : DefK P w K mg base 4 "stair_of" (top 7) ["offers"] g_stair_of) : DefK P w K mg base 5 "either" (top 10) ["stairs"] (g_either) :=
  defM F hg (fun _ _ _ _ _ _ us hl => match us, hl with | [_], _ => rfl) S_either 3 rfl (t_either B D_stair_of)
/-! _law_least -/
def m__law_least : MS := (mRet (mIf (mTst (mOp gIs (mVar 1) (mC .non))) (mVar 0) (mIf (mTst (mOp gIs (mVar 0) (mC .non))) (mVar 1) (mCl gMin (mCons (mVar 0) (mCons (mVar 1) mNil))))))
def g__law_least : GL := arO 2 (fnM 2 (m__law_least))
theorem S__law_least : FnScope ["one", "other"] ["one", "other"] (defScope (top 27)) := ⟨rfl, rfl, rfl, by decide +kernel, rfl, by decide +kernel, by decide +kernel⟩
theorem t__law_least (B : Bf mg) : BodyD P w K mg base ["one", "other"] 0 "_law_least" (top 27) (m__law_least) := by
  intro cdv A outer s H E hG hr hcv
  have S := S__law_least
  exact (jss_one (js_ret (je_if (jt_cmp oIs (je_var 1 (pv 1)) je_non (nomark _)) (je_var 0 (pv 0)) (je_if (jt_cmp oIs (je_var 0 (pv 0)) je_non (nomark _)) (je_var 1 (pv 1)) (je_callB (cMin rfl) rfl B.min_ boot_min (ja_cons (je_var 0 (pv 0)) (ja_cons (je_var 1 (pv 1)) ja_nil)))))))
theorem D__law_least {fd : FuncData} (F : FunD K "_law_least" "_law_least" (defArgs (top 27)) (defBody (top 27)) (defScope (top 27)) [] [] (He.ga K "_law_least") fd) (hg : mg "_law_least" = some (.ref (He.ga K "_law_least"))) (B : Bf mg) : DefK P w K mg base 1 "_law_least" (top 27) ["one", "other"] (g__law_least) :=
  defM F hg (fun _ _ _ _ _ _ us hl => match us, hl with | [_, _], _ => rfl) S__law_least 2 rfl (t__law_least B)
/-! needed_by -/
def m_needed_by : MS := (mSeq (mSet 2 (mFin fzT (mLc [3, 4] (mItS (mVar 0)) (gTp 2 (gsCons (gNm 3) (gsCons (gNm 4) gsNil))) mYes (mIf (mTst (mOp gIs (mVar 4) (mC .non))) (mVar 3) (mCl gMax (mCons (mVar 3) (mCons (mOp (gAdd fzT) (mVar 1) (mVar 4)) mNil)))))))
  (mRet (mIf (mTst (mOp gNe (mVar 2) (mCl gLst mNil))) (mCl gMin (mCons (mVar 2) mNil)) (mC .non))))
def g_needed_by : GL := arO 2 (fnM 5 (m_needed_by))
theorem S_needed_by : FnScope ["stair", "due", "found", "need", "loss"] ["stair", "due"] (defScope (top 9)) := ⟨rfl, rfl, rfl, by decide +kernel, rfl, by decide +kernel, by decide +kernel⟩
theorem t_needed_by (B : Bf mg) : BodyD P w K mg base ["stair", "due", "found", "need", "loss"] 0 "needed_by" (top 9) (m_needed_by) := by
  intro cdv A outer s H E hG hr hcv
  have S := S_needed_by
  exact (jss_cons (js_setLc keeps_fz rfl S.nd rfl rfl (sw_true rfl rfl rfl rfl) (ji_seq (je_var 0 (pv 0))) (blkOk_by (own := [("need", 3), ("loss", 4)]) (by kernel_rfl)) rfl (fun s H C cl fp => (jg_tup rfl (jgs_cons (jg_name 3 (pg_name S.nd rfl (by first | exact .inl rfl | exact .inr rfl)) (by decide)) (jgs_cons (jg_name 4 (pg_name S.nd rfl (by first | exact .inl rfl | exact .inr rfl)) (by decide)) jgs_nil)))) (fun s H C cl fp => jts_nil) (fun s H C cl fp => (je_if (jt_cmp oIs (je_var 4 (pv 4)) je_non (nomark _)) (je_var 3 (pv 3)) (je_callB (cMax rfl) rfl B.max_ boot_max (ja_cons (je_var 3 (pv 3)) (ja_cons (je_op (oAdd lays_fz) (je_var 1 (pv 1)) (je_var 4 (pv 4))) ja_nil))))))
  (jss_one (js_ret (je_if (jt_cmp (oNe (unitsOf64 hr)) (je_var 2 (pv 2)) (je_lst ja_nil) (nomark _)) (je_callB (cMin rfl) rfl B.min_ boot_min (ja_cons (je_var 2 (pv 2)) ja_nil)) je_non))))
theorem D_needed_by {fd : FuncData} (F : FunD K "needed_by" "needed_by" (defArgs (top 9)) (defBody (top 9)) (defScope (top 9)) [] [] (He.ga K "needed_by") fd) (hg : mg "needed_by" = some (.ref (He.ga K "needed_by"))) (B : Bf mg) : DefK P w K mg base 1 "needed_by" (top 9) ["stair", "due"] (g_needed_by) :=
  defM F hg (fun _ _ _ _ _ _ us hl => match us, hl with | [_, _], _ => rfl) S_needed_by 5 rfl (t_needed_by B)
/-! worse -/
def m_worse : MS := (mRet (mIf (mTru (mCall g_is_worse [] (mCons (mVar 0) (mCons (mVar 1) mNil)))) (mVar 0) (mVar 1)))
def g_worse : GL := arO 2 (fnM 2 (m_worse))
theorem S_worse : FnScope ["loss", "other"] ["loss", "other"] (defScope (top 5)) := ⟨rfl, rfl, rfl, by decide +kernel, rfl, by decide +kernel, by decide +kernel⟩
theorem t_worse (B : Bf mg) (D_is_worse : DefK P w K mg base 1 "is_worse" (top 4) ["loss", "other"] g_is_worse) : BodyD P w K mg base ["loss", "other"] 1 "worse" (top 5) (m_worse) := by
  intro cdv A outer s H E hG hr hcv
  have S := S_worse
  exact (jss_one (js_ret (je_if (jt_tru (je_callD D_is_worse hG (hr.mono (by decide)) rfl (ja_cons (je_var 0 (pv 0)) (ja_cons (je_var 1 (pv 1)) ja_nil)))) (je_var 0 (pv 0)) (je_var 1 (pv 1)))))
theorem D_worse {fd : FuncData} (F : FunD K "worse" "worse" (defArgs (top 5)) (defBody (top 5)) (defScope (top 5)) [] [] (He.ga K "worse") fd) (hg : mg "worse" = some (.ref (He.ga K "worse"))) (B : Bf mg) (D_is_worse : DefK P w K mg base 1 "is_worse" (top 4) ["loss", "other"] g_is_worse) : DefK P w K mg base 2 "worse" (top 5) ["loss", "other"] (g_worse) :=
  defM F hg (fun _ _ _ _ _ _ us hl => match us, hl with | [_, _], _ => rfl) S_worse 2 rfl (t_worse B D_is_worse)
/-! both -/
def m_both : MS := (mRet (mCall g_stair_of [] (mCons (mFin fzT (mLc2 [2, 3, 4, 5] (mItS (mVar 0)) (gTp 2 (gsCons (gNm 2) (gsCons (gNm 3) gsNil))) mYes (mItS (mVar 1)) [4, 5] (gTp 2 (gsCons (gNm 4) (gsCons (gNm 5) gsNil))) mYes (mCl gTup (mCons (mCl gMax (mCons (mVar 2) (mCons (mVar 4) mNil))) (mCons (mCall g_worse [] (mCons (mVar 3) (mCons (mVar 5) mNil))) mNil))))) mNil)))
def g_both : GL := arO 2 (fnM 6 (m_both))
theorem S_both : FnScope ["one", "other", "need", "loss", "more", "its"] ["one", "other"] (defScope (top 11)) := ⟨rfl, rfl, rfl, by decide +kernel, rfl, by decide +kernel, by decide +kernel⟩
theorem t_both (B : Bf mg) (D_stair_of : DefK P w K mg base 4 "stair_of" (top 7) ["offers"] g_stair_of) (D_worse : DefK P w K mg base 2 "worse" (top 5) ["loss", "other"] g_worse) : BodyD P w K mg base ["one", "other", "need", "loss", "more", "its"] 4 "both" (top 11) (m_both) := by
  intro cdv A outer s H E hG hr hcv
  have S := S_both
  exact (jss_one (js_ret (je_callD D_stair_of hG (hr.mono (by decide)) rfl (ja_cons (je_lc2 (vs1 := [4, 5]) keeps_fz rfl S.nd (ji_seq (je_var 0 (pv 0))) (blkOk_by (own := [("need", 2), ("loss", 3), ("more", 4), ("its", 5)]) (by kernel_rfl)) rfl (by decide) (fun s H C cl fp => (jg_tup rfl (jgs_cons (jg_name 2 (pg_name S.nd rfl (by first | exact .inl rfl | exact .inr rfl)) (by decide)) (jgs_cons (jg_name 3 (pg_name S.nd rfl (by first | exact .inl rfl | exact .inr rfl)) (by decide)) jgs_nil)))) (fun s H C cl fp => jts_nil) (fun s H C cl fp => (ji_seq (je_var 1 (pv 1)))) (fun s H C cl fp => (jg_tup rfl (jgs_cons (jg_name 4 (pg_name S.nd rfl (by first | exact .inl rfl | exact .inr rfl)) (by decide)) (jgs_cons (jg_name 5 (pg_name S.nd rfl (by first | exact .inl rfl | exact .inr rfl)) (by decide)) jgs_nil)))) (fun s H C cl fp => jts_nil) (fun s H C cl fp => (je_tup (ja_cons (je_callB (cMax rfl) rfl B.max_ boot_max (ja_cons (je_var 2 (pv 2)) (ja_cons (je_var 4 (pv 4)) ja_nil))) (ja_cons (je_callD D_worse hG (hr.mono (by decide)) rfl (ja_cons (je_var 3 (pv 3)) (ja_cons (je_var 5 (pv 5)) ja_nil))) ja_nil))))) ja_nil))))
theorem D_both {fd : FuncData} (F : FunD K "both" "both" (defArgs (top 11)) (defBody (top 11)) (defScope (top 11)) [] [] (He.ga K "both") fd) (hg : mg "both" = some (.ref (He.ga K "both"))) (B : Bf mg) (D_stair_of : DefK P w K mg base 4 "stair_of" (top 7) ["offers"] g_stair_of) (D_worse : DefK P w K mg base 2 "worse" (top 5) ["loss", "other"] g_worse) : DefK P w K mg base 5 "both" (top 11) ["one", "other"] (g_both) :=
  defM F hg (fun _ _ _ _ _ _ us hl => match us, hl with | [_, _], _ => rfl) S_both 6 rfl (t_both B D_stair_of D_worse)
/-! entered_with -/
def m_entered_with : MS := (mRet (mCall g_stair_of [] (mCons (mFin fzT (mLc [2, 3] (mItS (mVar 0)) (gTp 2 (gsCons (gNm 2) (gsCons (gNm 3) gsNil))) mYes (mCl gTup (mCons (mCl gMax (mCons (mC (.int 0)) (mCons (mOp gSub (mVar 2) (mVar 1)) mNil))) (mCons (mIf (mTst (mOp gIs (mVar 3) (mC .non))) (mC .non) (mOp gSub (mVar 3) (mVar 1))) mNil))))) mNil)))
def g_entered_with : GL := arO 2 (fnM 4 (m_entered_with))
theorem S_entered_with : FnScope ["stair", "pay", "need", "loss"] ["stair", "pay"] (defScope (top 14)) := ⟨rfl, rfl, rfl, by decide +kernel, rfl, by decide +kernel, by decide +kernel⟩
theorem t_entered_with (B : Bf mg) (D_stair_of : DefK P w K mg base 4 "stair_of" (top 7) ["offers"] g_stair_of) : BodyD P w K mg base ["stair", "pay", "need", "loss"] 4 "entered_with" (top 14) (m_entered_with) := by
  intro cdv A outer s H E hG hr hcv
  have S := S_entered_with
  exact (jss_one (js_ret (je_callD D_stair_of hG (hr.mono (by decide)) rfl (ja_cons (je_lc keeps_fz rfl S.nd (ji_seq (je_var 0 (pv 0))) (blkOk_by (own := [("need", 2), ("loss", 3)]) (by kernel_rfl)) rfl (fun s H C cl fp => (jg_tup rfl (jgs_cons (jg_name 2 (pg_name S.nd rfl (by first | exact .inl rfl | exact .inr rfl)) (by decide)) (jgs_cons (jg_name 3 (pg_name S.nd rfl (by first | exact .inl rfl | exact .inr rfl)) (by decide)) jgs_nil)))) (fun s H C cl fp => jts_nil) (fun s H C cl fp => (je_tup (ja_cons (je_callB (cMax rfl) rfl B.max_ boot_max (ja_cons je_int (ja_cons (je_op oSub (je_var 2 (pv 2)) (je_var 1 (pv 1))) ja_nil))) (ja_cons (je_if (jt_cmp oIs (je_var 3 (pv 3)) je_non (nomark _)) je_non (je_op oSub (je_var 3 (pv 3)) (je_var 1 (pv 1)))) ja_nil))))) ja_nil))))
theorem D_entered_with {fd : FuncData} (F : FunD K "entered_with" "entered_with" (defArgs (top 14)) (defBody (top 14)) (defScope (top 14)) [] [] (He.ga K "entered_with") fd) (hg : mg "entered_with" = some (.ref (He.ga K "entered_with"))) (B : Bf mg) (D_stair_of : DefK P w K mg base 4 "stair_of" (top 7) ["offers"] g_stair_of) : DefK P w K mg base 5 "entered_with" (top 14) ["stair", "pay"] (g_entered_with) :=
  defM F hg (fun _ _ _ _ _ _ us hl => match us, hl with | [_, _], _ => rfl) S_entered_with 4 rfl (t_entered_with B D_stair_of)
/-! paid -/
def m_paid : MS := (mSeq (mSet 3 (mCl gLstM mNil))
  (mSeq (mFor (mItS (mVar 0)) (gTp 2 (gsCons (gNm 4) (gsCons (gNm 5) gsNil)))
  (mDrop (mLm gApp (mVar 3) (mCons (mCl gTup (mCons (mCl gMax (mCons (mVar 1) (mCons (mOp (gAdd fzT) (mOp gSub (mVar 1) (mVar 2)) (mVar 4)) mNil))) (mCons (mIf (mTst (mOp gIs (mVar 5) (mC .non))) (mC .non) (mOp (gAdd fzT) (mOp gSub (mVar 1) (mVar 2)) (mVar 5))) mNil))) mNil))))
  (mRet (mCall g_stair_of [] (mCons (mVar 3) mNil)))))
def g_paid : GL := arO 3 (fnM 6 (m_paid))
theorem S_paid : FnScope ["stair", "cost", "pay", "found", "need", "loss"] ["stair", "cost", "pay"] (defScope (top 12)) := ⟨rfl, rfl, rfl, by decide +kernel, rfl, by decide +kernel, by decide +kernel⟩
theorem t_paid (B : Bf mg) (D_stair_of : DefK P w K mg base 4 "stair_of" (top 7) ["offers"] g_stair_of) : BodyD P w K mg base ["stair", "cost", "pay", "found", "need", "loss"] 4 "paid" (top 12) (m_paid) := by
  intro cdv A outer s H E hG hr hcv
  have S := S_paid
  exact (jss_cons (js_set S.nd rfl (by first | exact .inl rfl | exact .inr rfl) (je_lstM ja_nil))
  (jss_cons (js_for (vs := [4, 5]) (passes_of rfl) rfl (ji_seq (je_var 0 (pv 0))) (jg_tup rfl (jgs_cons (jg_name 4 (pg_name S.nd rfl (by first | exact .inl rfl | exact .inr rfl)) (by decide)) (jgs_cons (jg_name 5 (pg_name S.nd rfl (by first | exact .inl rfl | exact .inr rfl)) (by decide)) jgs_nil)))
  (jss_one (js_expr (je_append (je_var 3 (pv 3)) (ja_cons (je_tup (ja_cons (je_callB (cMax rfl) rfl B.max_ boot_max (ja_cons (je_var 1 (pv 1)) (ja_cons (je_op (oAdd lays_fz) (je_op oSub (je_var 1 (pv 1)) (je_var 2 (pv 2))) (je_var 4 (pv 4))) ja_nil))) (ja_cons (je_if (jt_cmp oIs (je_var 5 (pv 5)) je_non (nomark _)) je_non (je_op (oAdd lays_fz) (je_op oSub (je_var 1 (pv 1)) (je_var 2 (pv 2))) (je_var 5 (pv 5)))) ja_nil))) ja_nil)))))
  (jss_one (js_ret (je_callD D_stair_of hG (hr.mono (by decide)) rfl (ja_cons (je_var 3 (pv 3)) ja_nil))))))
theorem D_paid {fd : FuncData} (F : FunD K "paid" "paid" (defArgs (top 12)) (defBody (top 12)) (defScope (top 12)) [] [] (He.ga K "paid") fd) (hg : mg "paid" = some (.ref (He.ga K "paid"))) (B : Bf mg) (D_stair_of : DefK P w K mg base 4 "stair_of" (top 7) ["offers"] g_stair_of) : DefK P w K mg base 5 "paid" (top 12) ["stair", "cost", "pay"] (g_paid) :=
  defM F hg (fun _ _ _ _ _ _ us hl => match us, hl with | [_, _, _], _ => rfl) S_paid 6 rfl (t_paid B D_stair_of)
/-! summed -/
def m_summed : MS := (mRet (mIf (mOr (mTst (mOp gIs (mVar 0) (mC .non))) (mTst (mOp gIs (mVar 1) (mC .non)))) (mC .non) (mOp (gAdd fzT) (mVar 0) (mVar 1))))
def g_summed : GL := arO 2 (fnM 2 (m_summed))
theorem S_summed : FnScope ["loss", "other"] ["loss", "other"] (defScope (top 6)) := ⟨rfl, rfl, rfl, by decide +kernel, rfl, by decide +kernel, by decide +kernel⟩
theorem t_summed (B : Bf mg) : BodyD P w K mg base ["loss", "other"] 0 "summed" (top 6) (m_summed) := by
  intro cdv A outer s H E hG hr hcv
  have S := S_summed
  exact (jss_one (js_ret (je_if (jt_w (jw_or (jt_cmp oIs (je_var 0 (pv 0)) je_non (nomark _)) (jw_or1 (jt_cmp oIs (je_var 1 (pv 1)) je_non (nomark _))))) je_non (je_op (oAdd lays_fz) (je_var 0 (pv 0)) (je_var 1 (pv 1))))))
theorem D_summed {fd : FuncData} (F : FunD K "summed" "summed" (defArgs (top 6)) (defBody (top 6)) (defScope (top 6)) [] [] (He.ga K "summed") fd) (hg : mg "summed" = some (.ref (He.ga K "summed"))) (B : Bf mg) : DefK P w K mg base 1 "summed" (top 6) ["loss", "other"] (g_summed) :=
  defM F hg (fun _ _ _ _ _ _ us hl => match us, hl with | [_, _], _ => rfl) S_summed 2 rfl (t_summed B)
/-! through -/
def m_through : MS := (mSeq (mSet 2 (mCl gLstM mNil))
  (mSeq (mFor (mItS (mVar 0)) (gTp 2 (gsCons (gNm 3) (gsCons (gNm 4) gsNil)))
  (mIfS (mTst (mOp gIs (mVar 4) (mC .non)))
  (mDrop (mLm gApp (mVar 2) (mCons (mCl gTup (mCons (mVar 3) (mCons (mC .non) mNil))) mNil)))
  (mDrop (mLm gExt (mVar 2) (mCons (mFin fzT (mLc [5, 6] (mItS (mVar 1)) (gTp 2 (gsCons (gNm 5) (gsCons (gNm 6) gsNil))) mYes (mCl gTup (mCons (mCl gMax (mCons (mVar 3) (mCons (mOp (gAdd fzT) (mVar 4) (mVar 5)) mNil))) (mCons (mCall g_summed [] (mCons (mVar 4) (mCons (mVar 6) mNil))) mNil))))) mNil)))))
  (mRet (mCall g_stair_of [] (mCons (mVar 2) mNil)))))
def g_through : GL := arO 2 (fnM 7 (m_through))
theorem S_through : FnScope ["one", "other", "found", "need", "loss", "more", "its"] ["one", "other"] (defScope (top 13)) := ⟨rfl, rfl, rfl, by decide +kernel, rfl, by decide +kernel, by decide +kernel⟩
theorem t_through (B : Bf mg) (D_summed : DefK P w K mg base 1 "summed" (top 6) ["loss", "other"] g_summed) (D_stair_of : DefK P w K mg base 4 "stair_of" (top 7) ["offers"] g_stair_of) : BodyD P w K mg base ["one", "other", "found", "need", "loss", "more", "its"] 4 "through" (top 13) (m_through) := by
  intro cdv A outer s H E hG hr hcv
  have S := S_through
  exact (jss_cons (js_set S.nd rfl (by first | exact .inl rfl | exact .inr rfl) (je_lstM ja_nil))
  (jss_cons (js_for (vs := [3, 4]) (passes_of rfl) rfl (ji_seq (je_var 0 (pv 0))) (jg_tup rfl (jgs_cons (jg_name 3 (pg_name S.nd rfl (by first | exact .inl rfl | exact .inr rfl)) (by decide)) (jgs_cons (jg_name 4 (pg_name S.nd rfl (by first | exact .inl rfl | exact .inr rfl)) (by decide)) jgs_nil)))
  (jss_one (js_if (jt_cmp oIs (je_var 4 (pv 4)) je_non (nomark _))
  (jss_one (js_expr (je_append (je_var 2 (pv 2)) (ja_cons (je_tup (ja_cons (je_var 3 (pv 3)) (ja_cons je_non ja_nil))) ja_nil))))
  (jss_one (js_expr (je_extend (je_var 2 (pv 2)) (ja_cons (je_lc keeps_fz rfl S.nd (ji_seq (je_var 1 (pv 1))) (blkOk_by (own := [("more", 5), ("its", 6)]) (by kernel_rfl)) rfl (fun s H C cl fp => (jg_tup rfl (jgs_cons (jg_name 5 (pg_name S.nd rfl (by first | exact .inl rfl | exact .inr rfl)) (by decide)) (jgs_cons (jg_name 6 (pg_name S.nd rfl (by first | exact .inl rfl | exact .inr rfl)) (by decide)) jgs_nil)))) (fun s H C cl fp => jts_nil) (fun s H C cl fp => (je_tup (ja_cons (je_callB (cMax rfl) rfl B.max_ boot_max (ja_cons (je_var 3 (pv 3)) (ja_cons (je_op (oAdd lays_fz) (je_var 4 (pv 4)) (je_var 5 (pv 5))) ja_nil))) (ja_cons (je_callD D_summed hG (hr.mono (by decide)) rfl (ja_cons (je_var 4 (pv 4)) (ja_cons (je_var 6 (pv 6)) ja_nil))) ja_nil))))) ja_nil)))))))
  (jss_one (js_ret (je_callD D_stair_of hG (hr.mono (by decide)) rfl (ja_cons (je_var 2 (pv 2)) ja_nil))))))
theorem D_through {fd : FuncData} (F : FunD K "through" "through" (defArgs (top 13)) (defBody (top 13)) (defScope (top 13)) [] [] (He.ga K "through") fd) (hg : mg "through" = some (.ref (He.ga K "through"))) (B : Bf mg) (D_summed : DefK P w K mg base 1 "summed" (top 6) ["loss", "other"] g_summed) (D_stair_of : DefK P w K mg base 4 "stair_of" (top 7) ["offers"] g_stair_of) : DefK P w K mg base 5 "through" (top 13) ["one", "other"] (g_through) :=
  defM F hg (fun _ _ _ _ _ _ us hl => match us, hl with | [_, _], _ => rfl) S_through 7 rfl (t_through B D_summed D_stair_of)
/-! is_below -/
def m_is_below : MS := (mSeq (mFor (mItS (mVar 1)) (gTp 2 (gsCons (gNm 2) (gsCons (gNm 3) gsNil)))
  (mIfS (mNot (mTru (mCl gAny (mCons (mFin fzT (mLc [4, 5] (mItS (mVar 0)) (gTp 2 (gsCons (gNm 4) (gsCons (gNm 5) gsNil))) mYes (mAndV (mOp gLe (mVar 4) (mVar 2)) (mCall g_is_worse [] (mCons (mVar 3) (mCons (mVar 5) mNil)))))) mNil))))
  (mRet (mC (.bl false)))
  mNext))
  (mRet (mC (.bl true))))
def g_is_below : GL := arO 2 (fnM 6 (m_is_below))
theorem S_is_below : FnScope ["one", "other", "need", "loss", "more", "its"] ["one", "other"] (defScope (top 18)) := ⟨rfl, rfl, rfl, by decide +kernel, rfl, by decide +kernel, by decide +kernel⟩
theorem t_is_below (B : Bf mg) (D_is_worse : DefK P w K mg base 1 "is_worse" (top 4) ["loss", "other"] g_is_worse) : BodyD P w K mg base ["one", "other", "need", "loss", "more", "its"] 1 "is_below" (top 18) (m_is_below) := by
  intro cdv A outer s H E hG hr hcv
  have S := S_is_below
  exact (jss_cons (js_for (vs := [2, 3]) (passes_of rfl) rfl (ji_seq (je_var 1 (pv 1))) (jg_tup rfl (jgs_cons (jg_name 2 (pg_name S.nd rfl (by first | exact .inl rfl | exact .inr rfl)) (by decide)) (jgs_cons (jg_name 3 (pg_name S.nd rfl (by first | exact .inl rfl | exact .inr rfl)) (by decide)) jgs_nil)))
  (jss_one (js_if (jt_not (jt_tru (je_callB (cAny rfl) rfl B.any_ boot_any (ja_cons (je_lc keeps_fz rfl S.nd (ji_seq (je_var 0 (pv 0))) (blkOk_by (own := [("more", 4), ("its", 5)]) (by kernel_rfl)) rfl (fun s H C cl fp => (jg_tup rfl (jgs_cons (jg_name 4 (pg_name S.nd rfl (by first | exact .inl rfl | exact .inr rfl)) (by decide)) (jgs_cons (jg_name 5 (pg_name S.nd rfl (by first | exact .inl rfl | exact .inr rfl)) (by decide)) jgs_nil)))) (fun s H C cl fp => jts_nil) (fun s H C cl fp => (je_and (je_cmp oLe (je_var 4 (pv 4)) (je_var 2 (pv 2)) (nomark _)) (je_one (je_callD D_is_worse hG (hr.mono (by decide)) rfl (ja_cons (je_var 3 (pv 3)) (ja_cons (je_var 5 (pv 5)) ja_nil))))))) ja_nil))))
  (jss_one (js_ret je_bl))
  jss_nil)))
  (jss_one (js_ret je_bl)))
theorem D_is_below {fd : FuncData} (F : FunD K "is_below" "is_below" (defArgs (top 18)) (defBody (top 18)) (defScope (top 18)) [] [] (He.ga K "is_below") fd) (hg : mg "is_below" = some (.ref (He.ga K "is_below"))) (B : Bf mg) (D_is_worse : DefK P w K mg base 1 "is_worse" (top 4) ["loss", "other"] g_is_worse) : DefK P w K mg base 2 "is_below" (top 18) ["one", "other"] (g_is_below) :=
  defM F hg (fun _ _ _ _ _ _ us hl => match us, hl with | [_, _], _ => rfl) S_is_below 6 rfl (t_is_below B D_is_worse)
/-! _law_above -/
def m__law_above : MS := (mRet (mAndV (mOp gIsNot (mVar 1) (mC .non)) (mOrV (mOp gIs (mVar 0) (mC .non)) (mOp gGt (mVar 0) (mVar 1)))))
def g__law_above : GL := arO 2 (fnM 2 (m__law_above))
theorem S__law_above : FnScope ["one", "other"] ["one", "other"] (defScope (top 28)) := ⟨rfl, rfl, rfl, by decide +kernel, rfl, by decide +kernel, by decide +kernel⟩
theorem t__law_above (B : Bf mg) : BodyD P w K mg base ["one", "other"] 0 "_law_above" (top 28) (m__law_above) := by
  intro cdv A outer s H E hG hr hcv
  have S := S__law_above
  exact (jss_one (js_ret (je_and (je_cmp oIsNot (je_var 1 (pv 1)) je_non (nomark _)) (je_one (je_or (je_cmp oIs (je_var 0 (pv 0)) je_non (nomark _)) (je_one (je_cmp oGt (je_var 0 (pv 0)) (je_var 1 (pv 1)) (nomark _))))))))
theorem D__law_above {fd : FuncData} (F : FunD K "_law_above" "_law_above" (defArgs (top 28)) (defBody (top 28)) (defScope (top 28)) [] [] (He.ga K "_law_above") fd) (hg : mg "_law_above" = some (.ref (He.ga K "_law_above"))) (B : Bf mg) : DefK P w K mg base 1 "_law_above" (top 28) ["one", "other"] (g__law_above) :=
  defM F hg (fun _ _ _ _ _ _ us hl => match us, hl with | [_, _], _ => rfl) S__law_above 2 rfl (t__law_above B)
/-! cut -/
def m_cut : MS := (mSeq (mSet 2 (mCl gLstM mNil))
  (mSeq (mFor (mItS (mVar 0)) (gTp 2 (gsCons (gNm 3) (gsCons (gNm 4) gsNil)))
  (mIfS (mTst (mOp gLe (mVar 3) (mVar 1)))
  (mDrop (mLm gApp (mVar 2) (mCons (mCl gTup (mCons (mVar 3) (mCons (mIf (mTst (mOp gIs (mVar 4) (mC .non))) (mC .non) (mCl gMax (mCons (mVar 4) (mCons (mOp gSub (mC (.int 0)) (mVar 1)) mNil)))) mNil))) mNil)))
  mNext))
  (mRet (mCall g_stair_of [] (mCons (mVar 2) mNil)))))
def g_cut : GL := arO 2 (fnM 5 (m_cut))
theorem S_cut : FnScope ["stair", "most", "found", "need", "loss"] ["stair", "most"] (defScope (top 15)) := ⟨rfl, rfl, rfl, by decide +kernel, rfl, by decide +kernel, by decide +kernel⟩
theorem t_cut (B : Bf mg) (D_stair_of : DefK P w K mg base 4 "stair_of" (top 7) ["offers"] g_stair_of) : BodyD P w K mg base ["stair", "most", "found", "need", "loss"] 4 "cut" (top 15) (m_cut) := by
  intro cdv A outer s H E hG hr hcv
  have S := S_cut
  exact (jss_cons (js_set S.nd rfl (by first | exact .inl rfl | exact .inr rfl) (je_lstM ja_nil))
  (jss_cons (js_for (vs := [3, 4]) (passes_of rfl) rfl (ji_seq (je_var 0 (pv 0))) (jg_tup rfl (jgs_cons (jg_name 3 (pg_name S.nd rfl (by first | exact .inl rfl | exact .inr rfl)) (by decide)) (jgs_cons (jg_name 4 (pg_name S.nd rfl (by first | exact .inl rfl | exact .inr rfl)) (by decide)) jgs_nil)))
  (jss_one (js_if (jt_cmp oLe (je_var 3 (pv 3)) (je_var 1 (pv 1)) (nomark _))
  (jss_one (js_expr (je_append (je_var 2 (pv 2)) (ja_cons (je_tup (ja_cons (je_var 3 (pv 3)) (ja_cons (je_if (jt_cmp oIs (je_var 4 (pv 4)) je_non (nomark _)) je_non (je_callB (cMax rfl) rfl B.max_ boot_max (ja_cons (je_var 4 (pv 4)) (ja_cons (je_op oSub je_int (je_var 1 (pv 1))) ja_nil)))) ja_nil))) ja_nil))))
  jss_nil)))
  (jss_one (js_ret (je_callD D_stair_of hG (hr.mono (by decide)) rfl (ja_cons (je_var 2 (pv 2)) ja_nil))))))
theorem D_cut {fd : FuncData} (F : FunD K "cut" "cut" (defArgs (top 15)) (defBody (top 15)) (defScope (top 15)) [] [] (He.ga K "cut") fd) (hg : mg "cut" = some (.ref (He.ga K "cut"))) (B : Bf mg) (D_stair_of : DefK P w K mg base 4 "stair_of" (top 7) ["offers"] g_stair_of) : DefK P w K mg base 5 "cut" (top 15) ["stair", "most"] (g_cut) :=
  defM F hg (fun _ _ _ _ _ _ us hl => match us, hl with | [_, _], _ => rfl) S_cut 5 rfl (t_cut B D_stair_of)
/-! is_integer -/
def m_is_integer : MS := (mRet (mAndV (mCl gIsi (mCons (mVar 0) (mCons (mC (.ty "int")) mNil))) (mNotV (mCl gIsi (mCons (mVar 0) (mCons (mC (.ty "bool")) mNil))))))
def g_is_integer : GL := arO 1 (fnM 1 (m_is_integer))
theorem S_is_integer : FnScope ["value"] ["value"] (defScope (top 1)) := ⟨rfl, rfl, rfl, by decide +kernel, rfl, by decide +kernel, by decide +kernel⟩
theorem t_is_integer (B : Bf mg) : BodyD P w K mg base ["value"] 0 "is_integer" (top 1) (m_is_integer) := by
  intro cdv A outer s H E hG hr hcv
  have S := S_is_integer
  exact (jss_one (js_ret (je_and (je_callB cIsi rfl B.isinstance_ boot_isinstance (ja_cons (je_var 0 (pv 0)) (ja_cons (je_ty (Ty := "int") rfl B.int_ boot_int) ja_nil))) (je_one (je_not (je_callB cIsi rfl B.isinstance_ boot_isinstance (ja_cons (je_var 0 (pv 0)) (ja_cons (je_ty (Ty := "bool") rfl B.bool_ boot_bool) ja_nil))))))))
theorem D_is_integer {fd : FuncData} (F : FunD K "is_integer" "is_integer" (defArgs (top 1)) (defBody (top 1)) (defScope (top 1)) [] [] (He.ga K "is_integer") fd) (hg : mg "is_integer" = some (.ref (He.ga K "is_integer"))) (B : Bf mg) : DefK P w K mg base 1 "is_integer" (top 1) ["value"] (g_is_integer) :=
  defM F hg (fun _ _ _ _ _ _ us hl => match us, hl with | [_], _ => rfl) S_is_integer 1 rfl (t_is_integer B)
/-! is_listed -/
def m_is_listed : MS := (mRet (mCl gIsi (mCons (mVar 0) (mCons (mCl gTup (mCons (mC (.ty "list")) (mCons (mC (.ty "tuple")) mNil))) mNil))))
def g_is_listed : GL := arO 1 (fnM 1 (m_is_listed))
theorem S_is_listed : FnScope ["value"] ["value"] (defScope (top 2)) := ⟨rfl, rfl, rfl, by decide +kernel, rfl, by decide +kernel, by decide +kernel⟩
theorem t_is_listed (B : Bf mg) : BodyD P w K mg base ["value"] 0 "is_listed" (top 2) (m_is_listed) := by
  intro cdv A outer s H E hG hr hcv
  have S := S_is_listed
  exact (jss_one (js_ret (je_callB cIsi rfl B.isinstance_ boot_isinstance (ja_cons (je_var 0 (pv 0)) (ja_cons (je_tup (ja_cons (je_ty (Ty := "list") rfl B.list_ boot_list) (ja_cons (je_ty (Ty := "tuple") rfl B.tuple_ boot_tuple) ja_nil))) ja_nil)))))
theorem D_is_listed {fd : FuncData} (F : FunD K "is_listed" "is_listed" (defArgs (top 2)) (defBody (top 2)) (defScope (top 2)) [] [] (He.ga K "is_listed") fd) (hg : mg "is_listed" = some (.ref (He.ga K "is_listed"))) (B : Bf mg) : DefK P w K mg base 1 "is_listed" (top 2) ["value"] (g_is_listed) :=
  defM F hg (fun _ _ _ _ _ _ us hl => match us, hl with | [_], _ => rfl) S_is_listed 1 rfl (t_is_listed B)
/-! is_offer -/
def m_is_offer : MS := (mSeq (mIfS (mOr (mNot (mTru (mCall g_is_listed [] (mCons (mVar 0) mNil)))) (mOr (mTst (mOp gNe (mCl gLen (mCons (mVar 0) mNil)) (mC (.int 2)))) (mOr (mNot (mTru (mCall g_is_integer [] (mCons (mOp gIx (mVar 0) (mC (.int 0))) mNil)))) (mTst (mOp gLt (mOp gIx (mVar 0) (mC (.int 0))) (mC (.int 0)))))))
  (mRet (mC (.bl false)))
  mNext)
  (mRet (mOrV (mOp gIs (mOp gIx (mVar 0) (mC (.int 1))) (mC .non)) (mAndV (mCall g_is_integer [] (mCons (mOp gIx (mVar 0) (mC (.int 1))) mNil)) (mOp gLe (mOp gIx (mVar 0) (mC (.int 1))) (mOp gIx (mVar 0) (mC (.int 0))))))))
def g_is_offer : GL := arO 1 (fnM 1 (m_is_offer))
theorem S_is_offer : FnScope ["value"] ["value"] (defScope (top 16)) := ⟨rfl, rfl, rfl, by decide +kernel, rfl, by decide +kernel, by decide +kernel⟩
theorem t_is_offer (B : Bf mg) (D_is_integer : DefK P w K mg base 1 "is_integer" (top 1) ["value"] g_is_integer) (D_is_listed : DefK P w K mg base 1 "is_listed" (top 2) ["value"] g_is_listed) : BodyD P w K mg base ["value"] 1 "is_offer" (top 16) (m_is_offer) := by
  intro cdv A outer s H E hG hr hcv
  have S := S_is_offer
  exact (jss_cons (js_if (jt_w (jw_or (jt_not (jt_tru (je_callD D_is_listed hG (hr.mono (by decide)) rfl (ja_cons (je_var 0 (pv 0)) ja_nil)))) (jw_or (jt_cmp (oNe (unitsOf64 hr)) (je_callB cLen rfl B.len_ boot_len (ja_cons (je_var 0 (pv 0)) ja_nil)) je_int (nomark _)) (jw_or (jt_not (jt_tru (je_callD D_is_integer hG (hr.mono (by decide)) rfl (ja_cons (je_ix (je_var 0 (pv 0)) je_int) ja_nil)))) (jw_or1 (jt_cmp oLt (je_ix (je_var 0 (pv 0)) je_int) je_int (nomark _)))))))
  (jss_one (js_ret je_bl))
  jss_nil)
  (jss_one (js_ret (je_or (je_cmp oIs (je_ix (je_var 0 (pv 0)) je_int) je_non (nomark _)) (je_one (je_and (je_callD D_is_integer hG (hr.mono (by decide)) rfl (ja_cons (je_ix (je_var 0 (pv 0)) je_int) ja_nil)) (je_one (je_cmp oLe (je_ix (je_var 0 (pv 0)) je_int) (je_ix (je_var 0 (pv 0)) je_int) (nomark _)))))))))
theorem D_is_offer {fd : FuncData} (F : FunD K "is_offer" "is_offer" (defArgs (top 16)) (defBody (top 16)) (defScope (top 16)) [] [] (He.ga K "is_offer") fd) (hg : mg "is_offer" = some (.ref (He.ga K "is_offer"))) (B : Bf mg) (D_is_integer : DefK P w K mg base 1 "is_integer" (top 1) ["value"] g_is_integer) (D_is_listed : DefK P w K mg base 1 "is_listed" (top 2) ["value"] g_is_listed) : DefK P w K mg base 2 "is_offer" (top 16) ["value"] (g_is_offer) :=
  defM F hg (fun _ _ _ _ _ _ us hl => match us, hl with | [_], _ => rfl) S_is_offer 1 rfl (t_is_offer B D_is_integer D_is_listed)
/-! is_stair -/
def m_is_stair : MS := (mSeq (mIfS (mOr (mNot (mTru (mCall g_is_listed [] (mCons (mVar 0) mNil)))) (mNot (mTru (mCl gAll (mCons (mFin fzT (mLc [1] (mItS (mVar 0)) (gNm 1) mYes (mCall g_is_offer [] (mCons (mVar 1) mNil)))) mNil)))))
  (mRet (mC (.bl false)))
  mNext)
  (mRet (mOp gEq (mCall g_stair_of [] (mCons (mFin fzT (mLc [1] (mItS (mVar 0)) (gNm 1) mYes (mCl gTupOf (mCons (mVar 1) mNil)))) mNil)) (mCl gTupOf (mCons (mFin fzT (mLc [1] (mItS (mVar 0)) (gNm 1) mYes (mCl gTupOf (mCons (mVar 1) mNil)))) mNil)))))
def g_is_stair : GL := arO 1 (fnM 2 (m_is_stair))
theorem S_is_stair : FnScope ["value", "offer"] ["value"] (defScope (top 17)) := ⟨rfl, rfl, rfl, by decide +kernel, rfl, by decide +kernel, by decide +kernel⟩
theorem t_is_stair (B : Bf mg) (D_is_offer : DefK P w K mg base 2 "is_offer" (top 16) ["value"] g_is_offer) (D_is_listed : DefK P w K mg base 1 "is_listed" (top 2) ["value"] g_is_listed) (D_stair_of : DefK P w K mg base 4 "stair_of" (top 7) ["offers"] g_stair_of) : BodyD P w K mg base ["value", "offer"] 4 "is_stair" (top 17) (m_is_stair) := by
  intro cdv A outer s H E hG hr hcv
  have S := S_is_stair
  exact (jss_cons (js_if (jt_w (jw_or (jt_not (jt_tru (je_callD D_is_listed hG (hr.mono (by decide)) rfl (ja_cons (je_var 0 (pv 0)) ja_nil)))) (jw_or1 (jt_not (jt_tru (je_callB (cAll rfl) rfl B.all_ boot_all (ja_cons (je_lc keeps_fz rfl S.nd (ji_seq (je_var 0 (pv 0))) (blkOk_by (own := [("offer", 1)]) (by kernel_rfl)) rfl (fun s H C cl fp => (jg_name 1 (pg_name S.nd rfl (by first | exact .inl rfl | exact .inr rfl)) (by decide))) (fun s H C cl fp => jts_nil) (fun s H C cl fp => (je_callD D_is_offer hG (hr.mono (by decide)) rfl (ja_cons (je_var 1 (pv 1)) ja_nil)))) ja_nil)))))))
  (jss_one (js_ret je_bl))
  jss_nil)
  (jss_one (js_ret (je_cmp (oEq (unitsOf64 hr)) (je_callD D_stair_of hG (hr.mono (by decide)) rfl (ja_cons (je_lc keeps_fz rfl S.nd (ji_seq (je_var 0 (pv 0))) (blkOk_by (own := [("offer", 1)]) (by kernel_rfl)) rfl (fun s H C cl fp => (jg_name 1 (pg_name S.nd rfl (by first | exact .inl rfl | exact .inr rfl)) (by decide))) (fun s H C cl fp => jts_nil) (fun s H C cl fp => (je_callT cTup rfl B.tuple_ boot_tuple (ja_cons (je_var 1 (pv 1)) ja_nil)))) ja_nil)) (je_callT cTup rfl B.tuple_ boot_tuple (ja_cons (je_lc keeps_fz rfl S.nd (ji_seq (je_var 0 (pv 0))) (blkOk_by (own := [("offer", 1)]) (by kernel_rfl)) rfl (fun s H C cl fp => (jg_name 1 (pg_name S.nd rfl (by first | exact .inl rfl | exact .inr rfl)) (by decide))) (fun s H C cl fp => jts_nil) (fun s H C cl fp => (je_callT cTup rfl B.tuple_ boot_tuple (ja_cons (je_var 1 (pv 1)) ja_nil)))) ja_nil)) (nomark _)))))
theorem D_is_stair {fd : FuncData} (F : FunD K "is_stair" "is_stair" (defArgs (top 17)) (defBody (top 17)) (defScope (top 17)) [] [] (He.ga K "is_stair") fd) (hg : mg "is_stair" = some (.ref (He.ga K "is_stair"))) (B : Bf mg) (D_is_offer : DefK P w K mg base 2 "is_offer" (top 16) ["value"] g_is_offer) (D_is_listed : DefK P w K mg base 1 "is_listed" (top 2) ["value"] g_is_listed) (D_stair_of : DefK P w K mg base 4 "stair_of" (top 7) ["offers"] g_stair_of) : DefK P w K mg base 5 "is_stair" (top 17) ["value"] (g_is_stair) :=
  defM F hg (fun _ _ _ _ _ _ us hl => match us, hl with | [_], _ => rfl) S_is_stair 2 rfl (t_is_stair B D_is_offer D_is_listed D_stair_of)
/-! law -/
def q_law_1 (Pt : Addr) : MS := (mAsg (mCl gTup (mCons (mCall g__law_offers [] (mCons (mVar 1) (mCons (mCall g__law_draw [] (mCons (mVar 1) (mCons (mC (.int 5)) mNil))) mNil))) (mCons (mCall g__law_offers [] (mCons (mVar 1) (mCons (mCall g__law_draw [] (mCons (mVar 1) (mCons (mC (.int 5)) mNil))) mNil))) mNil))) (gTp 2 (gsCons (gNm 3) (gsCons (gNm 4) gsNil))))
def q_law_2 (Pt : Addr) : MS := (mSet 3 (mFin fzT (mLc [5] (mIt (mCons (mOp (gAdd fzT) (mC (.int 13)) (mCall g__law_draw [] (mCons (mVar 1) (mCons (mC (.int 18)) mNil)))) mNil) itR1) (gNm 5) mYes (mCl gTup (mCons (mOp (gAdd fzT) (mC (.int 10)) (mVar 5)) (mCons (mOp gSub (mC (.int 10)) (mOp (gMul fzT) (mVar 5) (mOp (gAdd fzT) (mC (.int 1)) (mCall g__law_draw [] (mCons (mVar 1) (mCons (mC (.int 2)) mNil)))))) mNil))))))
def q_law_3 (Pt : Addr) : MS := (mIfS (mTst (mOp gEq (mOp gMod (mCl gInt (mCons (mVar 2) mNil)) (mC (.int 4))) (mC (.int 3))))
  (q_law_2 Pt)
  mNext)
def q_law_4 (Pt : Addr) : MS := (mAsg (mCl gTup (mCons (mCall g_stair_of [] (mCons (mVar 3) mNil)) (mCons (mCallK 0 1 [0] g_stair_of mNil (mCons (mCl gTupOf (mCons (mVar 4) mNil)) mNil)) mNil))) (gTp 2 (gsCons (gNm 6) (gsCons (gNm 7) gsNil))))
def q_law_5 (Pt : Addr) : MS := (mIfS (mOr (mTst (mOp gNe (mCall g__law_values [] (mCons (mVar 6) mNil)) (mCall g__law_values [] (mCons (mVar 3) mNil)))) (mOr (mTst (mOp gNe (mCl (gLstOf fzT) (mCons (mVar 6) mNil)) (mSortK (lamM 1 (mOp gIx (mVar 0) (mC (.int 0)))) (hasTab 0 Pt (lamQ "law")) fzT (mVar 6)))) (mOr (mTst (mOp gNe (mCall g_stair_of [] (mCons (mVar 6) mNil)) (mVar 6))) (mTst (mOp gNe (mCall g_stair_of [] (mCons (mUn (gRev fzT) (mVar 3)) mNil)) (mVar 6))))))
  (mRet (mC (.bl false)))
  mNext)
def q_law_6 (Pt : Addr) : MS := (mIfS (mTst (mOp gNe (mFin fzT (mLc [8] (mItS (mVar 6)) (gNm 8) (mTst (mOp gNe (mFin fzT (mLc [9] (mItS (mVar 6)) (gNm 9) (mAnd (mTst (mOp gNe (mVar 9) (mVar 8))) (mAnd (mTst (mOp gLe (mOp gIx (mVar 9) (mC (.int 0))) (mOp gIx (mVar 8) (mC (.int 0))))) (mTru (mCall g__law_loss_let [] (mCons (mOp gIx (mVar 9) (mC (.int 1))) (mCons (mOp gIx (mVar 8) (mC (.int 1))) mNil)))))) (mVar 9))) (mCl gLst mNil))) (mVar 8))) (mCl gLst mNil)))
  (mRet (mC (.bl false)))
  mNext)
def q_law_7 (Pt : Addr) : MS := (mAsg (mCl gTup (mCons (mCall g__law_draw [] (mCons (mVar 1) (mCons (mC (.int 30)) mNil))) (mCons (mCall g__law_draw [] (mCons (mVar 1) (mCons (mC (.int 6)) mNil))) (mCons (mCall g__law_draw [] (mCons (mVar 1) (mCons (mC (.int 9)) mNil))) mNil)))) (gTp 3 (gsCons (gNm 10) (gsCons (gNm 11) (gsCons (gNm 12) gsNil)))))
def q_law_8 (Pt : Addr) : MS := (mIfS (mOr (mTst (mOp gNe (mCl gRepr (mCons (mCl gLst (mCons (mCall g_needed_by [] (mCons (mVar 6) (mCons (mVar 10) mNil))) (mCons (mCallK 0 2 [1, 0] g_needed_by mNil (mCons (mVar 10) (mCons (mVar 6) mNil))) mNil))) mNil)) (mCl gRepr (mCons (mOp (gMul fzT) (mCl gLst (mCons (mCall g__law_need [] (mCons (mVar 3) (mCons (mVar 10) mNil))) mNil)) (mC (.int 2))) mNil)))) (mTst (mOp gNe (mCall g__law_values [] (mCons (mCall g_either [] (mCons (mCl gLst (mCons (mVar 6) (mCons (mVar 7) mNil))) mNil)) mNil)) (mFin fzT (mLc [13, 14] (mIt (mCons (mCall g__law_values [] (mCons (mVar 6) mNil)) (mCons (mCall g__law_values [] (mCons (mVar 7) mNil)) mNil)) itZ) (gTp 2 (gsCons (gNm 13) (gsCons (gNm 14) gsNil))) mYes (mCall g__law_least [] (mCons (mVar 13) (mCons (mVar 14) mNil))))))))
  (mRet (mC (.bl false)))
  mNext)
def q_law_9 (Pt : Addr) : MS := (mSet 15 (mFin fzT (mLc [13, 14] (mIt (mCons (mCall g__law_values [] (mCons (mVar 6) mNil)) (mCons (mCall g__law_values [] (mCons (mVar 7) mNil)) mNil)) itZ) (gTp 2 (gsCons (gNm 13) (gsCons (gNm 14) gsNil))) mYes (mIf (mOr (mTst (mOp gIs (mVar 13) (mC .non))) (mTst (mOp gIs (mVar 14) (mC .non)))) (mC .non) (mCl gMax (mCons (mVar 13) (mCons (mVar 14) mNil)))))))
def q_law_10 (Pt : Addr) : MS := (mIfS (mOr (mTst (mOp gNe (mCall g__law_values [] (mCons (mCall g_both [] (mCons (mVar 6) (mCons (mVar 7) mNil))) mNil)) (mVar 15))) (mTst (mOp gNe (mCall g__law_values [] (mCons (mCallK 0 2 [1, 0] g_both mNil (mCons (mVar 6) (mCons (mVar 7) mNil))) mNil)) (mVar 15))))
  (mRet (mC (.bl false)))
  mNext)
def q_law_11 (Pt : Addr) : MS := (mIfS (mOr (mTst (mOp gNe (mCall g__law_values [] (mCons (mCall g_paid [] (mCons (mVar 6) (mCons (mVar 11) (mCons (mVar 12) mNil)))) mNil)) (mFin fzT (mLc [16] (mItS (mCall g__law_values [] (mCons (mVar 6) mNil))) (gNm 16) mYes (mIf (mTst (mOp gIs (mVar 16) (mC .non))) (mC .non) (mCl gMax (mCons (mVar 11) (mCons (mOp (gAdd fzT) (mOp gSub (mVar 11) (mVar 12)) (mVar 16)) mNil)))))))) (mTst (mOp gNe (mCall g__law_values [] (mCons (mCall g_entered_with [] (mCons (mVar 6) (mCons (mVar 12) mNil))) mNil)) (mFin fzT (mLc [16] (mItS (mCall g__law_values [] (mCons (mVar 6) mNil))) (gNm 16) mYes (mIf (mTst (mOp gIs (mVar 16) (mC .non))) (mC .non) (mCl gMax (mCons (mC (.int 0)) (mCons (mOp gSub (mVar 16) (mVar 12)) mNil)))))))))
  (mRet (mC (.bl false)))
  mNext)
def q_law_12 (Pt : Addr) : MS := (mSet 17 (mFin fzT (mLc [10] (mIt (mCons (mC (.int 41)) mNil) itR1) (gNm 10) mYes (mCall g__law_need [] (mCons (mVar 4) (mCons (mVar 10) mNil))))))
def q_law_13 (Pt : Addr) : MS := (mSet 18 (mFin fzT (mLc [16, 19] (mItS (mVar 3)) (gTp 2 (gsCons (gNm 16) (gsCons (gNm 19) gsNil))) (mTst (mOp gIs (mVar 19) (mC .non))) (mVar 16))))
def q_law_14 (Pt : Addr) : MS := (mSet 20 (mFin fzT (mLc [21] (mItS (mVar 17)) (gNm 21) mYes (mCall g__law_least [] (mCons (mIf (mTst (mOp gNe (mVar 18) (mCl gLst mNil))) (mCl gMin (mCons (mVar 18) mNil)) (mC .non)) (mCons (mIf (mTst (mOp gIs (mVar 21) (mC .non))) (mC .non) (mCall g__law_need [] (mCons (mVar 3) (mCons (mVar 21) mNil)))) mNil))))))
def q_law_15 (Pt : Addr) : MS := (mIfS (mTst (mOp gNe (mCall g__law_values [] (mCons (mCall g_through [] (mCons (mVar 6) (mCons (mVar 7) mNil))) mNil)) (mVar 20)))
  (mRet (mC (.bl false)))
  mNext)
def q_law_16 (Pt : Addr) : MS := (mSet 22 (mFin fzT (mLc [16, 19] (mItS (mVar 3)) (gTp 2 (gsCons (gNm 16) (gsCons (gNm 19) gsNil))) (mTst (mOp gLe (mVar 16) (mC (.int 5)))) (mCl gTup (mCons (mVar 16) (mCons (mIf (mTst (mOp gIs (mVar 19) (mC .non))) (mVar 19) (mCl gMax (mCons (mVar 19) (mCons (mOp gSub (mC (.int 0)) (mC (.int 5))) mNil)))) mNil))))))
def q_law_17 (Pt : Addr) : MS := (mIfS (mOr (mTst (mOp gNe (mCall g__law_values [] (mCons (mCall g_cut [] (mCons (mVar 6) (mCons (mC (.int 5)) mNil))) mNil)) (mCall g__law_values [] (mCons (mVar 22) mNil)))) (mTst (mOp gNe (mCl gRepr (mCons (mCall g_is_below [] (mCons (mVar 6) (mCons (mVar 7) mNil))) mNil)) (mCl gRepr (mCons (mOp gEq (mFin fzT (mLc [5] (mIt (mCons (mC (.int 120)) mNil) itR1) (gNm 5) (mTru (mCall g__law_above [] (mCons (mCall g__law_need [] (mCons (mVar 6) (mCons (mVar 5) mNil))) (mCons (mCall g__law_need [] (mCons (mVar 7) (mCons (mVar 5) mNil))) mNil)))) (mC (.int 1)))) (mCl gLst mNil)) mNil)))))
  (mRet (mC (.bl false)))
  mNext)
def q_law_18 (Pt : Addr) : MS := (mIfS (mOr (mTst (mOp gNe (mCall g_stair_of [] (mCons (mVar 23) mNil)) (mVar 23))) (mTst (mOp gIsNot (mCall g_is_stair [] (mCons (mVar 23) mNil)) (mC (.bl true)))))
  (mRet (mC (.bl false)))
  mNext)
def q_law_19 (Pt : Addr) : MS := (mFor (mItS (mCl gTup (mCons (mCall g_either [] (mCons (mCl gLst (mCons (mVar 6) (mCons (mVar 7) mNil))) mNil)) (mCons (mCall g_both [] (mCons (mVar 6) (mCons (mVar 7) mNil))) (mCons (mCall g_through [] (mCons (mVar 6) (mCons (mVar 7) mNil))) (mCons (mCall g_paid [] (mCons (mVar 6) (mCons (mVar 11) (mCons (mVar 12) mNil)))) (mCons (mCall g_entered_with [] (mCons (mVar 6) (mCons (mVar 12) mNil))) mNil))))))) (gNm 23)
  (q_law_18 Pt))
def q_law_20 (Pt : Addr) : MS := (mSet 24 (mCall g__law_pick [] (mCons (mVar 1) (mCons (mCl gLst (mCons (mC .non) (mCons (mC (.int 5)) (mCons (mCl gTup (mCons (mC (.int 1)) mNil)) (mCons (mCl gTup (mCons (mC (.int 1)) (mCons (mC (.int 2)) (mCons (mC (.int 3)) mNil)))) (mCons (mCl gTup (mCons (mUn gNeg (mC (.int 1))) (mCons (mC .non) mNil))) (mCons (mCl gTup (mCons (mC (.bl true)) (mCons (mC (.int 0)) mNil))) (mCons (mCl gTup (mCons (mC (.int 1)) (mCons (mC (.bl true)) mNil))) (mCons (mCl gTup (mCons (mC (.int 1)) (mCons (mC (.str [48])) mNil))) (mCons (mCl gTup (mCons (mC (.int 1)) (mCons (mC (.int 2)) mNil))) (mCons mDic0 (mCons (mC (.str [49, 48])) mNil)))))))))))) mNil))))
def q_law_21 (Pt : Addr) : MS := (mIfS (mOr (mTst (mOp gIsNot (mCall g_is_offer [] (mCons (mVar 24) mNil)) (mC (.bl false)))) (mOr (mTst (mOp gIsNot (mCall g_is_stair [] (mCons (mCl gLst (mCons (mVar 24) mNil)) mNil)) (mC (.bl false)))) (mOr (mTst (mOp gIsNot (mCall g_is_stair [] (mCons (mVar 24) mNil)) (mC (.bl false)))) (mOr (mTst (mOp gIsNot (mCall g_is_stair [] (mCons (mCl gLst (mCons (mCl gTup (mCons (mC (.int 3)) (mCons (mC (.int 1)) mNil))) (mCons (mCl gTup (mCons (mC (.int 3)) (mCons (mC (.int 1)) mNil))) mNil))) mNil)) (mC (.bl false)))) (mTst (mOp gIsNot (mCall g_is_stair [] (mCons (mCl gLst (mCons (mCl gTup (mCons (mC (.int 3)) (mCons (mC (.int 1)) mNil))) (mCons (mCl gTup (mCons (mC (.int 2)) (mCons (mC (.int 0)) mNil))) mNil))) mNil)) (mC (.bl false))))))))
  (mRet (mC (.bl false)))
  mNext)
def q_law_22 (Pt : Addr) : MS := (mFor (mIt (mCons (mC (.int 12)) mNil) itR1) (gNm 2)
  (mSeq (q_law_1 Pt)
  (mSeq (q_law_3 Pt)
  (mSeq (q_law_4 Pt)
  (mSeq (q_law_5 Pt)
  (mSeq (q_law_6 Pt)
  (mSeq (q_law_7 Pt)
  (mSeq (q_law_8 Pt)
  (mSeq (q_law_9 Pt)
  (mSeq (q_law_10 Pt)
  (mSeq (q_law_11 Pt)
  (mSeq (q_law_12 Pt)
  (mSeq (q_law_13 Pt)
  (mSeq (q_law_14 Pt)
  (mSeq (q_law_15 Pt)
  (mSeq (q_law_16 Pt)
  (mSeq (q_law_17 Pt)
  (mSeq (q_law_19 Pt)
  (mSeq (q_law_20 Pt)
  (q_law_21 Pt))))))))))))))))))))
def q_law_23 (Pt : Addr) : MS := (mRet (mAndV (mOp gIs (mCall g_is_offer [] (mCons (mCl gLst (mCons (mC (.int 3)) (mCons (mC (.int 3)) mNil))) mNil)) (mC (.bl true))) (mAndV (mOp gIs (mCall g_is_offer [] (mCons (mCl gTup (mCons (mC (.int 0)) (mCons (mC .non) mNil))) mNil)) (mC (.bl true))) (mAndV (mOp gIs (mCall g_is_stair [] (mCons (mCl gTup mNil) mNil)) (mC (.bl true))) (mOp gIs (mCall g_is_stair [] (mCons (mCl gLst (mCons (mCl gLst (mCons (mC (.int 5)) (mCons (mC (.int 2)) mNil))) (mCons (mCl gTup (mCons (mC (.int 6)) (mCons (mC (.int 1)) mNil))) (mCons (mCl gLst (mCons (mC (.int 7)) (mCons (mC .non) mNil))) mNil)))) mNil)) (mC (.bl true)))))))
def m_law (Pt : Addr) : MS := (mSeq (mSet 1 (mCall g__law_pen [] (mCons (mVar 0) mNil)))
  (mSeq (q_law_22 Pt)
  (q_law_23 Pt)))
def g_law (Pt : Addr) : GL := arO 1 (fnM 25 (m_law Pt))
theorem S_law : FnScope ["script", "pen", "turn", "first", "second", "at", "one", "other", "offer", "row", "due", "cost", "pay", "a", "b", "twice", "need", "behind", "never", "loss", "done", "its", "low", "found", "odd"] ["script"] (defScope (top 29)) := ⟨rfl, rfl, rfl, by decide +kernel, rfl, by decide +kernel, by decide +kernel⟩
theorem t_law {Pt : Addr} (B : Bf mg) (TB : LamX.TabB base mg (He.codeOf K ("law", none)) Pt) (D__law_pen : DefK P w K mg base 1 "_law_pen" (top 20) ["script"] g__law_pen) (D__law_offers : DefK P w K mg base 3 "_law_offers" (top 24) ["pen", "many"] g__law_offers) (D__law_draw : DefK P w K mg base 1 "_law_draw" (top 21) ["pen", "many"] g__law_draw) (D_stair_of : DefK P w K mg base 4 "stair_of" (top 7) ["offers"] g_stair_of) (D__law_values : DefK P w K mg base 2 "_law_values" (top 26) ["stair"] g__law_values) (D__law_loss_let : DefK P w K mg base 1 "_law_loss_let" (top 25) ["loss", "told"] g__law_loss_let) (D_either : DefK P w K mg base 5 "either" (top 10) ["stairs"] g_either) (D__law_least : DefK P w K mg base 1 "_law_least" (top 27) ["one", "other"] g__law_least) (D_needed_by : DefK P w K mg base 1 "needed_by" (top 9) ["stair", "due"] g_needed_by) (D__law_need : DefK P w K mg base 1 "_law_need" (top 23) ["stair", "due"] g__law_need) (D_both : DefK P w K mg base 5 "both" (top 11) ["one", "other"] g_both) (D_entered_with : DefK P w K mg base 5 "entered_with" (top 14) ["stair", "pay"] g_entered_with) (D_paid : DefK P w K mg base 5 "paid" (top 12) ["stair", "cost", "pay"] g_paid) (D_through : DefK P w K mg base 5 "through" (top 13) ["one", "other"] g_through) (D_is_below : DefK P w K mg base 2 "is_below" (top 18) ["one", "other"] g_is_below) (D__law_above : DefK P w K mg base 1 "_law_above" (top 28) ["one", "other"] g__law_above) (D_cut : DefK P w K mg base 5 "cut" (top 15) ["stair", "most"] g_cut) (D_is_stair : DefK P w K mg base 5 "is_stair" (top 17) ["value"] g_is_stair) (D__law_pick : DefK P w K mg base 2 "_law_pick" (top 22) ["pen", "some"] g__law_pick) (D_is_offer : DefK P w K mg base 2 "is_offer" (top 16) ["value"] g_is_offer) : BodyD P w K mg base ["script", "pen", "turn", "first", "second", "at", "one", "other", "offer", "row", "due", "cost", "pay", "a", "b", "twice", "need", "behind", "never", "loss", "done", "its", "low", "found", "odd"] 5 "law" (top 29) (m_law Pt) := by
  intro cdv A outer s H E hG hr hcv
  have S := S_law
  exact (jss_cons (js_set S.nd rfl (by first | exact .inl rfl | exact .inr rfl) (je_callD D__law_pen hG (hr.mono (by decide)) rfl (ja_cons (je_var 0 (pv 0)) ja_nil)))
  (jss_cons (js_for (vs := [2]) (passes_of rfl) rfl (ji_range1 rfl B.range_ (ja_cons je_int ja_nil)) (jg_name 2 (pg_name S.nd rfl (by first | exact .inl rfl | exact .inr rfl)) (by decide))
  (jss_cons (js_asg (vs := [3, 4]) (je_tup (ja_cons (je_callD D__law_offers hG (hr.mono (by decide)) rfl (ja_cons (je_var 1 (pv 1)) (ja_cons (je_callD D__law_draw hG (hr.mono (by decide)) rfl (ja_cons (je_var 1 (pv 1)) (ja_cons je_int ja_nil))) ja_nil))) (ja_cons (je_callD D__law_offers hG (hr.mono (by decide)) rfl (ja_cons (je_var 1 (pv 1)) (ja_cons (je_callD D__law_draw hG (hr.mono (by decide)) rfl (ja_cons (je_var 1 (pv 1)) (ja_cons je_int ja_nil))) ja_nil))) ja_nil))) (jg_tup rfl (jgs_cons (jg_name 3 (pg_name S.nd rfl (by first | exact .inl rfl | exact .inr rfl)) (by decide)) (jgs_cons (jg_name 4 (pg_name S.nd rfl (by first | exact .inl rfl | exact .inr rfl)) (by decide)) jgs_nil))))
  (jss_cons (js_if (jt_cmp (oEq (unitsOf64 hr)) (je_op oMod (je_callT cInt rfl B.int_ boot_int (ja_cons (je_var 2 (pv 2)) ja_nil)) je_int) je_int (nomark _))
  (jss_one (js_set S.nd rfl (.inr rfl) (je_lc keeps_fz rfl S.nd (ji_range1 rfl B.range_ (ja_cons (je_op (oAdd lays_fz) je_int (je_callD D__law_draw hG (hr.mono (by decide)) rfl (ja_cons (je_var 1 (pv 1)) (ja_cons je_int ja_nil)))) ja_nil)) (blkOk_by (own := [("at", 5)]) (by kernel_rfl)) rfl (fun s H C cl fp => (jg_name 5 (pg_name S.nd rfl (by first | exact .inl rfl | exact .inr rfl)) (by decide))) (fun s H C cl fp => jts_nil) (fun s H C cl fp => (je_tup (ja_cons (je_op (oAdd lays_fz) je_int (je_var 5 (pv 5))) (ja_cons (je_op oSub je_int (je_op (oMul lays_fz) (je_var 5 (pv 5)) (je_op (oAdd lays_fz) je_int (je_callD D__law_draw hG (hr.mono (by decide)) rfl (ja_cons (je_var 1 (pv 1)) (ja_cons je_int ja_nil)))))) ja_nil))))) (hs := sw_cell rfl rfl)))
  jss_nil)
  (jss_cons (js_asg (vs := [6, 7]) (je_tup (ja_cons (je_callD D_stair_of hG (hr.mono (by decide)) rfl (ja_cons (je_var 3 (pv 3)) ja_nil)) (ja_cons (je_callDK0 (ks := ["offers"]) (ix := [0]) D_stair_of hG (hr.mono (by decide)) rfl (fun _ _ _ _ _ _ us ws hl hw => match us, ws, hl, hw with | [], [_], _, _ => rfl) (jk_cons (je_callT cTup rfl B.tuple_ boot_tuple (ja_cons (je_var 4 (pv 4)) ja_nil)) jk_nil)) ja_nil))) (jg_tup rfl (jgs_cons (jg_name 6 (pg_name S.nd rfl (by first | exact .inl rfl | exact .inr rfl)) (by decide)) (jgs_cons (jg_name 7 (pg_name S.nd rfl (by first | exact .inl rfl | exact .inr rfl)) (by decide)) jgs_nil))))
  (jss_cons (js_if (jt_w (jw_or (jt_cmp (oNe (unitsOf64 hr)) (je_callD D__law_values hG (hr.mono (by decide)) rfl (ja_cons (je_var 6 (pv 6)) ja_nil)) (je_callD D__law_values hG (hr.mono (by decide)) rfl (ja_cons (je_var 3 (pv 3)) ja_nil)) (nomark _)) (jw_or (jt_cmp (oNe (unitsOf64 hr)) (je_callT (cLst lays_fz) rfl B.list_ boot_list (ja_cons (je_var 6 (pv 6)) ja_nil)) (je_sortK rfl B.sorted_ lays_fz (unitsOf hr) (je_var 6 (pv 6)) (key_lam (i := 0) (N := ["offer"]) (x := "offer") TB hcv ⟨rfl, rfl, rfl, by decide +kernel, rfl, by decide +kernel, by decide +kernel⟩ hG (j := 0) (hr.mono (by decide)) rfl (by decide +kernel) (fun _ _ _ _ => rfl) rfl (fun f c A outer s H hG hr => (je_ix (je_var 0 (pv 0)) je_int)))) (nomark _)) (jw_or (jt_cmp (oNe (unitsOf64 hr)) (je_callD D_stair_of hG (hr.mono (by decide)) rfl (ja_cons (je_var 6 (pv 6)) ja_nil)) (je_var 6 (pv 6)) (nomark _)) (jw_or1 (jt_cmp (oNe (unitsOf64 hr)) (je_callD D_stair_of hG (hr.mono (by decide)) rfl (ja_cons (je_rev lays_fz (je_var 3 (pv 3))) ja_nil)) (je_var 6 (pv 6)) (nomark _)))))))
  (jss_one (js_ret je_bl))
  jss_nil)
  (jss_cons (js_if (jt_cmp (oNe (unitsOf64 hr)) (je_lc keeps_fz rfl S.nd (ji_seq (je_var 6 (pv 6))) (blkOk_by (own := [("offer", 8)]) (by kernel_rfl)) rfl (fun s H C cl fp => (jg_name 8 (pg_name S.nd rfl (by first | exact .inl rfl | exact .inr rfl)) (by decide))) (fun s H C cl fp => (jts_one (jt_cmp (oNe (unitsOf64 hr)) (je_lc keeps_fz rfl S.nd (ji_seq (je_var 6 (pv 6))) (blkOk_by (own := [("row", 9)]) (by kernel_rfl)) rfl (fun s H C cl fp => (jg_name 9 (pg_name S.nd rfl (by first | exact .inl rfl | exact .inr rfl)) (by decide))) (fun s H C cl fp => (jts_one (jt_w (jw_and (jt_cmp (oNe (unitsOf64 hr)) (je_var 9 (pv 9)) (je_var 8 (pv 8)) (nomark _)) (jw_and (jt_cmp oLe (je_ix (je_var 9 (pv 9)) je_int) (je_ix (je_var 8 (pv 8)) je_int) (nomark _)) (jw_and1 (jt_tru (je_callD D__law_loss_let hG (hr.mono (by decide)) rfl (ja_cons (je_ix (je_var 9 (pv 9)) je_int) (ja_cons (je_ix (je_var 8 (pv 8)) je_int) ja_nil)))))))))) (fun s H C cl fp => (je_var 9 (pv 9)))) (je_lst ja_nil) (nomark _)))) (fun s H C cl fp => (je_var 8 (pv 8)))) (je_lst ja_nil) (nomark _))
  (jss_one (js_ret je_bl))
  jss_nil)
  (jss_cons (js_asg (vs := [10, 11, 12]) (je_tup (ja_cons (je_callD D__law_draw hG (hr.mono (by decide)) rfl (ja_cons (je_var 1 (pv 1)) (ja_cons je_int ja_nil))) (ja_cons (je_callD D__law_draw hG (hr.mono (by decide)) rfl (ja_cons (je_var 1 (pv 1)) (ja_cons je_int ja_nil))) (ja_cons (je_callD D__law_draw hG (hr.mono (by decide)) rfl (ja_cons (je_var 1 (pv 1)) (ja_cons je_int ja_nil))) ja_nil)))) (jg_tup rfl (jgs_cons (jg_name 10 (pg_name S.nd rfl (by first | exact .inl rfl | exact .inr rfl)) (by decide)) (jgs_cons (jg_name 11 (pg_name S.nd rfl (by first | exact .inl rfl | exact .inr rfl)) (by decide)) (jgs_cons (jg_name 12 (pg_name S.nd rfl (by first | exact .inl rfl | exact .inr rfl)) (by decide)) jgs_nil)))))
  (jss_cons (js_if (jt_w (jw_or (jt_cmp (oNe (unitsOf64 hr)) (je_callB (cRepr hG (unitsOf hr)) rfl B.repr_ boot_repr (ja_cons (je_lst (ja_cons (je_callD D_needed_by hG (hr.mono (by decide)) rfl (ja_cons (je_var 6 (pv 6)) (ja_cons (je_var 10 (pv 10)) ja_nil))) (ja_cons (je_callDK0 (ks := ["due", "stair"]) (ix := [1, 0]) D_needed_by hG (hr.mono (by decide)) rfl (fun _ _ _ _ _ _ us ws hl hw => match us, ws, hl, hw with | [], [_, _], _, _ => rfl) (jk_cons (je_var 10 (pv 10)) (jk_cons (je_var 6 (pv 6)) jk_nil))) ja_nil))) ja_nil)) (je_callB (cRepr hG (unitsOf hr)) rfl B.repr_ boot_repr (ja_cons (je_op (oMul lays_fz) (je_lst (ja_cons (je_callD D__law_need hG (hr.mono (by decide)) rfl (ja_cons (je_var 3 (pv 3)) (ja_cons (je_var 10 (pv 10)) ja_nil))) ja_nil)) je_int) ja_nil)) (nomark _)) (jw_or1 (jt_cmp (oNe (unitsOf64 hr)) (je_callD D__law_values hG (hr.mono (by decide)) rfl (ja_cons (je_callD D_either hG (hr.mono (by decide)) rfl (ja_cons (je_lst (ja_cons (je_var 6 (pv 6)) (ja_cons (je_var 7 (pv 7)) ja_nil))) ja_nil)) ja_nil)) (je_lc keeps_fz rfl S.nd (ji_zip rfl B.zip_ (ja_cons (je_callD D__law_values hG (hr.mono (by decide)) rfl (ja_cons (je_var 6 (pv 6)) ja_nil)) (ja_cons (je_callD D__law_values hG (hr.mono (by decide)) rfl (ja_cons (je_var 7 (pv 7)) ja_nil)) ja_nil))) (blkOk_by (own := [("a", 13), ("b", 14)]) (by kernel_rfl)) rfl (fun s H C cl fp => (jg_tup rfl (jgs_cons (jg_name 13 (pg_name S.nd rfl (by first | exact .inl rfl | exact .inr rfl)) (by decide)) (jgs_cons (jg_name 14 (pg_name S.nd rfl (by first | exact .inl rfl | exact .inr rfl)) (by decide)) jgs_nil)))) (fun s H C cl fp => jts_nil) (fun s H C cl fp => (je_callD D__law_least hG (hr.mono (by decide)) rfl (ja_cons (je_var 13 (pv 13)) (ja_cons (je_var 14 (pv 14)) ja_nil))))) (nomark _)))))
  (jss_one (js_ret je_bl))
  jss_nil)
  (jss_cons (js_setLc keeps_fz rfl S.nd rfl rfl (sw_true rfl rfl rfl rfl) (ji_zip rfl B.zip_ (ja_cons (je_callD D__law_values hG (hr.mono (by decide)) rfl (ja_cons (je_var 6 (pv 6)) ja_nil)) (ja_cons (je_callD D__law_values hG (hr.mono (by decide)) rfl (ja_cons (je_var 7 (pv 7)) ja_nil)) ja_nil))) (blkOk_by (own := [("a", 13), ("b", 14)]) (by kernel_rfl)) rfl (fun s H C cl fp => (jg_tup rfl (jgs_cons (jg_name 13 (pg_name S.nd rfl (by first | exact .inl rfl | exact .inr rfl)) (by decide)) (jgs_cons (jg_name 14 (pg_name S.nd rfl (by first | exact .inl rfl | exact .inr rfl)) (by decide)) jgs_nil)))) (fun s H C cl fp => jts_nil) (fun s H C cl fp => (je_if (jt_w (jw_or (jt_cmp oIs (je_var 13 (pv 13)) je_non (nomark _)) (jw_or1 (jt_cmp oIs (je_var 14 (pv 14)) je_non (nomark _))))) je_non (je_callB (cMax rfl) rfl B.max_ boot_max (ja_cons (je_var 13 (pv 13)) (ja_cons (je_var 14 (pv 14)) ja_nil))))))
  (jss_cons (js_if (jt_w (jw_or (jt_cmp (oNe (unitsOf64 hr)) (je_callD D__law_values hG (hr.mono (by decide)) rfl (ja_cons (je_callD D_both hG (hr.mono (by decide)) rfl (ja_cons (je_var 6 (pv 6)) (ja_cons (je_var 7 (pv 7)) ja_nil))) ja_nil)) (je_var 15 (pv 15)) (nomark _)) (jw_or1 (jt_cmp (oNe (unitsOf64 hr)) (je_callD D__law_values hG (hr.mono (by decide)) rfl (ja_cons (je_callDK0 (ks := ["other", "one"]) (ix := [1, 0]) D_both hG (hr.mono (by decide)) rfl (fun _ _ _ _ _ _ us ws hl hw => match us, ws, hl, hw with | [], [_, _], _, _ => rfl) (jk_cons (je_var 6 (pv 6)) (jk_cons (je_var 7 (pv 7)) jk_nil))) ja_nil)) (je_var 15 (pv 15)) (nomark _)))))
  (jss_one (js_ret je_bl))
  jss_nil)
  (jss_cons (js_if (jt_w (jw_or (jt_cmp (oNe (unitsOf64 hr)) (je_callD D__law_values hG (hr.mono (by decide)) rfl (ja_cons (je_callD D_paid hG (hr.mono (by decide)) rfl (ja_cons (je_var 6 (pv 6)) (ja_cons (je_var 11 (pv 11)) (ja_cons (je_var 12 (pv 12)) ja_nil)))) ja_nil)) (je_lc keeps_fz rfl S.nd (ji_seq (je_callD D__law_values hG (hr.mono (by decide)) rfl (ja_cons (je_var 6 (pv 6)) ja_nil))) (blkOk_by (own := [("need", 16)]) (by kernel_rfl)) rfl (fun s H C cl fp => (jg_name 16 (pg_name S.nd rfl (by first | exact .inl rfl | exact .inr rfl)) (by decide))) (fun s H C cl fp => jts_nil) (fun s H C cl fp => (je_if (jt_cmp oIs (je_var 16 (pv 16)) je_non (nomark _)) je_non (je_callB (cMax rfl) rfl B.max_ boot_max (ja_cons (je_var 11 (pv 11)) (ja_cons (je_op (oAdd lays_fz) (je_op oSub (je_var 11 (pv 11)) (je_var 12 (pv 12))) (je_var 16 (pv 16))) ja_nil)))))) (nomark _)) (jw_or1 (jt_cmp (oNe (unitsOf64 hr)) (je_callD D__law_values hG (hr.mono (by decide)) rfl (ja_cons (je_callD D_entered_with hG (hr.mono (by decide)) rfl (ja_cons (je_var 6 (pv 6)) (ja_cons (je_var 12 (pv 12)) ja_nil))) ja_nil)) (je_lc keeps_fz rfl S.nd (ji_seq (je_callD D__law_values hG (hr.mono (by decide)) rfl (ja_cons (je_var 6 (pv 6)) ja_nil))) (blkOk_by (own := [("need", 16)]) (by kernel_rfl)) rfl (fun s H C cl fp => (jg_name 16 (pg_name S.nd rfl (by first | exact .inl rfl | exact .inr rfl)) (by decide))) (fun s H C cl fp => jts_nil) (fun s H C cl fp => (je_if (jt_cmp oIs (je_var 16 (pv 16)) je_non (nomark _)) je_non (je_callB (cMax rfl) rfl B.max_ boot_max (ja_cons je_int (ja_cons (je_op oSub (je_var 16 (pv 16)) (je_var 12 (pv 12))) ja_nil)))))) (nomark _)))))
  (jss_one (js_ret je_bl))
  jss_nil)
  (jss_cons (js_setLc keeps_fz rfl S.nd rfl rfl (sw_true rfl rfl rfl rfl) (ji_range1 rfl B.range_ (ja_cons je_int ja_nil)) (blkOk_by (own := [("due", 10)]) (by kernel_rfl)) rfl (fun s H C cl fp => (jg_name 10 (pg_name S.nd rfl (by first | exact .inl rfl | exact .inr rfl)) (by decide))) (fun s H C cl fp => jts_nil) (fun s H C cl fp => (je_callD D__law_need hG (hr.mono (by decide)) rfl (ja_cons (je_var 4 (pv 4)) (ja_cons (je_var 10 (pv 10)) ja_nil)))))
  (jss_cons (js_set S.nd rfl (.inr rfl) (je_lc keeps_fz rfl S.nd (ji_seq (je_var 3 (pv 3))) (blkOk_by (own := [("need", 16), ("loss", 19)]) (by kernel_rfl)) rfl (fun s H C cl fp => (jg_tup rfl (jgs_cons (jg_name 16 (pg_name S.nd rfl (by first | exact .inl rfl | exact .inr rfl)) (by decide)) (jgs_cons (jg_name 19 (pg_name S.nd rfl (by first | exact .inl rfl | exact .inr rfl)) (by decide)) jgs_nil)))) (fun s H C cl fp => (jts_one (jt_cmp oIs (je_var 19 (pv 19)) je_non (nomark _)))) (fun s H C cl fp => (je_var 16 (pv 16)))) (hs := sw_cell rfl rfl))
  (jss_cons (js_setLc keeps_fz rfl S.nd rfl rfl (sw_true rfl rfl rfl rfl) (ji_seq (je_var 17 (pv 17))) (blkOk_by (own := [("its", 21)]) (by kernel_rfl)) rfl (fun s H C cl fp => (jg_name 21 (pg_name S.nd rfl (by first | exact .inl rfl | exact .inr rfl)) (by decide))) (fun s H C cl fp => jts_nil) (fun s H C cl fp => (je_callD D__law_least hG (hr.mono (by decide)) rfl (ja_cons (je_if (jt_cmp (oNe (unitsOf64 hr)) (je_var 18 (pv 18)) (je_lst ja_nil) (nomark _)) (je_callB (cMin rfl) rfl B.min_ boot_min (ja_cons (je_var 18 (pv 18)) ja_nil)) je_non) (ja_cons (je_if (jt_cmp oIs (je_var 21 (pv 21)) je_non (nomark _)) je_non (je_callD D__law_need hG (hr.mono (by decide)) rfl (ja_cons (je_var 3 (pv 3)) (ja_cons (je_var 21 (pv 21)) ja_nil)))) ja_nil)))))
  (jss_cons (js_if (jt_cmp (oNe (unitsOf64 hr)) (je_callD D__law_values hG (hr.mono (by decide)) rfl (ja_cons (je_callD D_through hG (hr.mono (by decide)) rfl (ja_cons (je_var 6 (pv 6)) (ja_cons (je_var 7 (pv 7)) ja_nil))) ja_nil)) (je_var 20 (pv 20)) (nomark _))
  (jss_one (js_ret je_bl))
  jss_nil)
  (jss_cons (js_setLc keeps_fz rfl S.nd rfl rfl (sw_true rfl rfl rfl rfl) (ji_seq (je_var 3 (pv 3))) (blkOk_by (own := [("need", 16), ("loss", 19)]) (by kernel_rfl)) rfl (fun s H C cl fp => (jg_tup rfl (jgs_cons (jg_name 16 (pg_name S.nd rfl (by first | exact .inl rfl | exact .inr rfl)) (by decide)) (jgs_cons (jg_name 19 (pg_name S.nd rfl (by first | exact .inl rfl | exact .inr rfl)) (by decide)) jgs_nil)))) (fun s H C cl fp => (jts_one (jt_cmp oLe (je_var 16 (pv 16)) je_int (nomark _)))) (fun s H C cl fp => (je_tup (ja_cons (je_var 16 (pv 16)) (ja_cons (je_if (jt_cmp oIs (je_var 19 (pv 19)) je_non (nomark _)) (je_var 19 (pv 19)) (je_callB (cMax rfl) rfl B.max_ boot_max (ja_cons (je_var 19 (pv 19)) (ja_cons (je_op oSub je_int je_int) ja_nil)))) ja_nil)))))
  (jss_cons (js_if (jt_w (jw_or (jt_cmp (oNe (unitsOf64 hr)) (je_callD D__law_values hG (hr.mono (by decide)) rfl (ja_cons (je_callD D_cut hG (hr.mono (by decide)) rfl (ja_cons (je_var 6 (pv 6)) (ja_cons je_int ja_nil))) ja_nil)) (je_callD D__law_values hG (hr.mono (by decide)) rfl (ja_cons (je_var 22 (pv 22)) ja_nil)) (nomark _)) (jw_or1 (jt_cmp (oNe (unitsOf64 hr)) (je_callB (cRepr hG (unitsOf hr)) rfl B.repr_ boot_repr (ja_cons (je_callD D_is_below hG (hr.mono (by decide)) rfl (ja_cons (je_var 6 (pv 6)) (ja_cons (je_var 7 (pv 7)) ja_nil))) ja_nil)) (je_callB (cRepr hG (unitsOf hr)) rfl B.repr_ boot_repr (ja_cons (je_cmp (oEq (unitsOf64 hr)) (je_lc keeps_fz rfl S.nd (ji_range1 rfl B.range_ (ja_cons je_int ja_nil)) (blkOk_by (own := [("at", 5)]) (by kernel_rfl)) rfl (fun s H C cl fp => (jg_name 5 (pg_name S.nd rfl (by first | exact .inl rfl | exact .inr rfl)) (by decide))) (fun s H C cl fp => (jts_one (jt_tru (je_callD D__law_above hG (hr.mono (by decide)) rfl (ja_cons (je_callD D__law_need hG (hr.mono (by decide)) rfl (ja_cons (je_var 6 (pv 6)) (ja_cons (je_var 5 (pv 5)) ja_nil))) (ja_cons (je_callD D__law_need hG (hr.mono (by decide)) rfl (ja_cons (je_var 7 (pv 7)) (ja_cons (je_var 5 (pv 5)) ja_nil))) ja_nil)))))) (fun s H C cl fp => je_int)) (je_lst ja_nil) (nomark _)) ja_nil)) (nomark _)))))
  (jss_one (js_ret je_bl))
  jss_nil)
  (jss_cons (js_for (vs := [23]) (passes_of rfl) rfl (ji_seq (je_tup (ja_cons (je_callD D_either hG (hr.mono (by decide)) rfl (ja_cons (je_lst (ja_cons (je_var 6 (pv 6)) (ja_cons (je_var 7 (pv 7)) ja_nil))) ja_nil)) (ja_cons (je_callD D_both hG (hr.mono (by decide)) rfl (ja_cons (je_var 6 (pv 6)) (ja_cons (je_var 7 (pv 7)) ja_nil))) (ja_cons (je_callD D_through hG (hr.mono (by decide)) rfl (ja_cons (je_var 6 (pv 6)) (ja_cons (je_var 7 (pv 7)) ja_nil))) (ja_cons (je_callD D_paid hG (hr.mono (by decide)) rfl (ja_cons (je_var 6 (pv 6)) (ja_cons (je_var 11 (pv 11)) (ja_cons (je_var 12 (pv 12)) ja_nil)))) (ja_cons (je_callD D_entered_with hG (hr.mono (by decide)) rfl (ja_cons (je_var 6 (pv 6)) (ja_cons (je_var 12 (pv 12)) ja_nil))) ja_nil))))))) (jg_name 23 (pg_name S.nd rfl (by first | exact .inl rfl | exact .inr rfl)) (by decide))
  (jss_one (js_if (jt_w (jw_or (jt_cmp (oNe (unitsOf64 hr)) (je_callD D_stair_of hG (hr.mono (by decide)) rfl (ja_cons (je_var 23 (pv 23)) ja_nil)) (je_var 23 (pv 23)) (nomark _)) (jw_or1 (jt_cmp oIsNot (je_callD D_is_stair hG (hr.mono (by decide)) rfl (ja_cons (je_var 23 (pv 23)) ja_nil)) je_bl (nomark _)))))
  (jss_one (js_ret je_bl))
  jss_nil)))
  (jss_cons (js_set S.nd rfl (by first | exact .inl rfl | exact .inr rfl) (je_callD D__law_pick hG (hr.mono (by decide)) rfl (ja_cons (je_var 1 (pv 1)) (ja_cons (je_lst (ja_cons je_non (ja_cons je_int (ja_cons (je_tup (ja_cons je_int ja_nil)) (ja_cons (je_tup (ja_cons je_int (ja_cons je_int (ja_cons je_int ja_nil)))) (ja_cons (je_tup (ja_cons (je_un uNeg je_int) (ja_cons je_non ja_nil))) (ja_cons (je_tup (ja_cons je_bl (ja_cons je_int ja_nil))) (ja_cons (je_tup (ja_cons je_int (ja_cons je_bl ja_nil))) (ja_cons (je_tup (ja_cons je_int (ja_cons (je_str [48]) ja_nil))) (ja_cons (je_tup (ja_cons je_int (ja_cons je_int ja_nil))) (ja_cons je_dic0 (ja_cons (je_str [49, 48]) ja_nil)))))))))))) ja_nil))))
  (jss_one (js_if (jt_w (jw_or (jt_cmp oIsNot (je_callD D_is_offer hG (hr.mono (by decide)) rfl (ja_cons (je_var 24 (pv 24)) ja_nil)) je_bl (nomark _)) (jw_or (jt_cmp oIsNot (je_callD D_is_stair hG (hr.mono (by decide)) rfl (ja_cons (je_lst (ja_cons (je_var 24 (pv 24)) ja_nil)) ja_nil)) je_bl (nomark _)) (jw_or (jt_cmp oIsNot (je_callD D_is_stair hG (hr.mono (by decide)) rfl (ja_cons (je_var 24 (pv 24)) ja_nil)) je_bl (nomark _)) (jw_or (jt_cmp oIsNot (je_callD D_is_stair hG (hr.mono (by decide)) rfl (ja_cons (je_lst (ja_cons (je_tup (ja_cons je_int (ja_cons je_int ja_nil))) (ja_cons (je_tup (ja_cons je_int (ja_cons je_int ja_nil))) ja_nil))) ja_nil)) je_bl (nomark _)) (jw_or1 (jt_cmp oIsNot (je_callD D_is_stair hG (hr.mono (by decide)) rfl (ja_cons (je_lst (ja_cons (je_tup (ja_cons je_int (ja_cons je_int ja_nil))) (ja_cons (je_tup (ja_cons je_int (ja_cons je_int ja_nil))) ja_nil))) ja_nil)) je_bl (nomark _))))))))
  (jss_one (js_ret je_bl))
  jss_nil)))))))))))))))))))))
  (jss_one (js_ret (je_and (je_cmp oIs (je_callD D_is_offer hG (hr.mono (by decide)) rfl (ja_cons (je_lst (ja_cons je_int (ja_cons je_int ja_nil))) ja_nil)) je_bl (nomark _)) (je_and (je_cmp oIs (je_callD D_is_offer hG (hr.mono (by decide)) rfl (ja_cons (je_tup (ja_cons je_int (ja_cons je_non ja_nil))) ja_nil)) je_bl (nomark _)) (je_and (je_cmp oIs (je_callD D_is_stair hG (hr.mono (by decide)) rfl (ja_cons (je_tup ja_nil) ja_nil)) je_bl (nomark _)) (je_one (je_cmp oIs (je_callD D_is_stair hG (hr.mono (by decide)) rfl (ja_cons (je_lst (ja_cons (je_lst (ja_cons je_int (ja_cons je_int ja_nil))) (ja_cons (je_tup (ja_cons je_int (ja_cons je_int ja_nil))) (ja_cons (je_lst (ja_cons je_int (ja_cons je_non ja_nil))) ja_nil)))) ja_nil)) je_bl (nomark _))))))))))
theorem D_law {Pt : Addr} {fd : FuncData} (F : FunD K "law" "law" (defArgs (top 29)) (defBody (top 29)) (defScope (top 29)) [] [] (He.ga K "law") fd) (hg : mg "law" = some (.ref (He.ga K "law"))) (B : Bf mg) (TB : LamX.TabB base mg (He.codeOf K ("law", none)) Pt) (D__law_pen : DefK P w K mg base 1 "_law_pen" (top 20) ["script"] g__law_pen) (D__law_offers : DefK P w K mg base 3 "_law_offers" (top 24) ["pen", "many"] g__law_offers) (D__law_draw : DefK P w K mg base 1 "_law_draw" (top 21) ["pen", "many"] g__law_draw) (D_stair_of : DefK P w K mg base 4 "stair_of" (top 7) ["offers"] g_stair_of) (D__law_values : DefK P w K mg base 2 "_law_values" (top 26) ["stair"] g__law_values) (D__law_loss_let : DefK P w K mg base 1 "_law_loss_let" (top 25) ["loss", "told"] g__law_loss_let) (D_either : DefK P w K mg base 5 "either" (top 10) ["stairs"] g_either) (D__law_least : DefK P w K mg base 1 "_law_least" (top 27) ["one", "other"] g__law_least) (D_needed_by : DefK P w K mg base 1 "needed_by" (top 9) ["stair", "due"] g_needed_by) (D__law_need : DefK P w K mg base 1 "_law_need" (top 23) ["stair", "due"] g__law_need) (D_both : DefK P w K mg base 5 "both" (top 11) ["one", "other"] g_both) (D_entered_with : DefK P w K mg base 5 "entered_with" (top 14) ["stair", "pay"] g_entered_with) (D_paid : DefK P w K mg base 5 "paid" (top 12) ["stair", "cost", "pay"] g_paid) (D_through : DefK P w K mg base 5 "through" (top 13) ["one", "other"] g_through) (D_is_below : DefK P w K mg base 2 "is_below" (top 18) ["one", "other"] g_is_below) (D__law_above : DefK P w K mg base 1 "_law_above" (top 28) ["one", "other"] g__law_above) (D_cut : DefK P w K mg base 5 "cut" (top 15) ["stair", "most"] g_cut) (D_is_stair : DefK P w K mg base 5 "is_stair" (top 17) ["value"] g_is_stair) (D__law_pick : DefK P w K mg base 2 "_law_pick" (top 22) ["pen", "some"] g__law_pick) (D_is_offer : DefK P w K mg base 2 "is_offer" (top 16) ["value"] g_is_offer) : DefK P w K mg base 6 "law" (top 29) ["script"] (g_law Pt) :=
  defM F hg (fun _ _ _ _ _ _ us hl => match us, hl with | [_], _ => rfl) S_law 25 rfl (t_law B TB D__law_pen D__law_offers D__law_draw D_stair_of D__law_values D__law_loss_let D_either D__law_least D_needed_by D__law_need D_both D_entered_with D_paid D_through D_is_below D__law_above D_cut D_is_stair D__law_pick D_is_offer)
/-! the head: facts by names -/
def d0 : He.DefD := ⟨("_law_pen", none), "_law_pen", "_law_pen", defArgs (top 20), defBody (top 20), defScope (top 20), [], []⟩
def d1 : He.DefD := ⟨("_law_draw", none), "_law_draw", "_law_draw", defArgs (top 21), defBody (top 21), defScope (top 21), [], []⟩
def d2 : He.DefD := ⟨("_law_pick", none), "_law_pick", "_law_pick", defArgs (top 22), defBody (top 22), defScope (top 22), [], []⟩
def d3 : He.DefD := ⟨("_law_offers", none), "_law_offers", "_law_offers", defArgs (top 24), defBody (top 24), defScope (top 24), [], []⟩
def d4 : He.DefD := ⟨("order_of", none), "order_of", "order_of", defArgs (top 8), defBody (top 8), defScope (top 8), [], []⟩
def d5 : He.DefD := ⟨("is_worse", none), "is_worse", "is_worse", defArgs (top 4), defBody (top 4), defScope (top 4), [], []⟩
def d6 : He.DefD := ⟨("stair_of", none), "stair_of", "stair_of", defArgs (top 7), defBody (top 7), defScope (top 7), [], []⟩
def d7 : He.DefD := ⟨("_law_need", none), "_law_need", "_law_need", defArgs (top 23), defBody (top 23), defScope (top 23), [], []⟩
def d8 : He.DefD := ⟨("_law_values", none), "_law_values", "_law_values", defArgs (top 26), defBody (top 26), defScope (top 26), [], []⟩
def d9 : He.DefD := ⟨("_law_loss_let", none), "_law_loss_let", "_law_loss_let", defArgs (top 25), defBody (top 25), defScope (top 25), [], []⟩
def d10 : He.DefD := ⟨("either", none), "either", "either", defArgs (top 10), defBody (top 10), defScope (top 10), [], []⟩
def d11 : He.DefD := ⟨("_law_least", none), "_law_least", "_law_least", defArgs (top 27), defBody (top 27), defScope (top 27), [], []⟩
def d12 : He.DefD := ⟨("needed_by", none), "needed_by", "needed_by", defArgs (top 9), defBody (top 9), defScope (top 9), [], []⟩
def d13 : He.DefD := ⟨("worse", none), "worse", "worse", defArgs (top 5), defBody (top 5), defScope (top 5), [], []⟩
def d14 : He.DefD := ⟨("both", none), "both", "both", defArgs (top 11), defBody (top 11), defScope (top 11), [], []⟩
def d15 : He.DefD := ⟨("entered_with", none), "entered_with", "entered_with", defArgs (top 14), defBody (top 14), defScope (top 14), [], []⟩
def d16 : He.DefD := ⟨("paid", none), "paid", "paid", defArgs (top 12), defBody (top 12), defScope (top 12), [], []⟩
def d17 : He.DefD := ⟨("summed", none), "summed", "summed", defArgs (top 6), defBody (top 6), defScope (top 6), [], []⟩
def d18 : He.DefD := ⟨("through", none), "through", "through", defArgs (top 13), defBody (top 13), defScope (top 13), [], []⟩
def d19 : He.DefD := ⟨("is_below", none), "is_below", "is_below", defArgs (top 18), defBody (top 18), defScope (top 18), [], []⟩
def d20 : He.DefD := ⟨("_law_above", none), "_law_above", "_law_above", defArgs (top 28), defBody (top 28), defScope (top 28), [], []⟩
def d21 : He.DefD := ⟨("cut", none), "cut", "cut", defArgs (top 15), defBody (top 15), defScope (top 15), [], []⟩
def d22 : He.DefD := ⟨("is_integer", none), "is_integer", "is_integer", defArgs (top 1), defBody (top 1), defScope (top 1), [], []⟩
def d23 : He.DefD := ⟨("is_listed", none), "is_listed", "is_listed", defArgs (top 2), defBody (top 2), defScope (top 2), [], []⟩
def d24 : He.DefD := ⟨("is_offer", none), "is_offer", "is_offer", defArgs (top 16), defBody (top 16), defScope (top 16), [], []⟩
def d25 : He.DefD := ⟨("is_stair", none), "is_stair", "is_stair", defArgs (top 17), defBody (top 17), defScope (top 17), [], []⟩
def d26 : He.DefD := ⟨("law", none), "law", "law", defArgs (top 29), defBody (top 29), defScope (top 29), [], []⟩
def fn : List He.DefD := [d0, d1, d2, d3, d4, d5, d6, d7, d8, d9, d10, d11, d12, d13, d14, d15, d16, d17, d18, d19, d20, d21, d22, d23, d24, d25, d26]
def fa : List He.Fa := [.glo "_law_pen", .glo "_law_draw", .glo "_law_pick", .glo "_law_offers", .glo "order_of", .glo "is_worse", .glo "stair_of", .glo "_law_need", .glo "_law_values", .glo "_law_loss_let", .glo "either", .glo "_law_least", .glo "needed_by", .glo "worse", .glo "both", .glo "entered_with", .glo "paid", .glo "summed", .glo "through", .glo "is_below", .glo "_law_above", .glo "cut", .glo "is_integer", .glo "is_listed", .glo "is_offer", .glo "is_stair", .glo "law", .free "abs", .free "all", .free "any", .free "bool", .free "int", .free "isinstance", .free "len", .free "list", .free "max", .free "min", .free "range", .free "repr", .free "sorted", .free "tuple", .free "zip"]
def tf : List He.Defn := [("law", none)]
def ex : PySem.W.Frag → Bool := fun _ => true
theorem allDefs {h : Heap} (X : K.In h) (G : h.Ns mainGlobals mg) (c : He.SaysD fa fn K) {Pt : Addr} : ∃ fd, FunD K "law" "law" (defArgs (top 29)) (defBody (top 29)) (defScope (top 29)) [] [] (He.ga K "law") fd ∧ ∀ base : Heap, LamX.TabB base mg (He.codeOf K ("law", none)) Pt → DefM P w K mg base 6 (He.ga K "law") fd ["script"] (g_law Pt) := by
  have B : Bf mg := ⟨He.free_ok X G (c.fact 27 (f := .free "abs") rfl), He.free_ok X G (c.fact 28 (f := .free "all") rfl), He.free_ok X G (c.fact 29 (f := .free "any") rfl), He.free_ok X G (c.fact 30 (f := .free "bool") rfl), He.free_ok X G (c.fact 31 (f := .free "int") rfl), He.free_ok X G (c.fact 32 (f := .free "isinstance") rfl), He.free_ok X G (c.fact 33 (f := .free "len") rfl), He.free_ok X G (c.fact 34 (f := .free "list") rfl), He.free_ok X G (c.fact 35 (f := .free "max") rfl), He.free_ok X G (c.fact 36 (f := .free "min") rfl), He.free_ok X G (c.fact 37 (f := .free "range") rfl), He.free_ok X G (c.fact 38 (f := .free "repr") rfl), He.free_ok X G (c.fact 39 (f := .free "sorted") rfl), He.free_ok X G (c.fact 40 (f := .free "tuple") rfl), He.free_ok X G (c.fact 41 (f := .free "zip") rfl)⟩
  obtain ⟨fd, F⟩ := c.def_ 26 (d := d26) rfl
  refine ⟨fd, F, fun base TB => ?_⟩
  obtain ⟨fd0, F0⟩ := c.def_ 0 (d := d0) rfl
  have D__law_pen := D__law_pen (P := P) (w := w) (base := base) F0 (He.glo_ok X G (c.fact 0 (f := .glo "_law_pen") rfl)) B
  obtain ⟨fd1, F1⟩ := c.def_ 1 (d := d1) rfl
  have D__law_draw := D__law_draw (P := P) (w := w) (base := base) F1 (He.glo_ok X G (c.fact 1 (f := .glo "_law_draw") rfl)) B
  obtain ⟨fd2, F2⟩ := c.def_ 2 (d := d2) rfl
  have D__law_pick := D__law_pick (P := P) (w := w) (base := base) F2 (He.glo_ok X G (c.fact 2 (f := .glo "_law_pick") rfl)) B D__law_draw
  obtain ⟨fd3, F3⟩ := c.def_ 3 (d := d3) rfl
  have D__law_offers := D__law_offers (P := P) (w := w) (base := base) F3 (He.glo_ok X G (c.fact 3 (f := .glo "_law_offers") rfl)) B D__law_draw D__law_pick
  obtain ⟨fd4, F4⟩ := c.def_ 4 (d := d4) rfl
  have D_order_of := D_order_of (P := P) (w := w) (base := base) F4 (He.glo_ok X G (c.fact 4 (f := .glo "order_of") rfl)) B
  obtain ⟨fd5, F5⟩ := c.def_ 5 (d := d5) rfl
  have D_is_worse := D_is_worse (P := P) (w := w) (base := base) F5 (He.glo_ok X G (c.fact 5 (f := .glo "is_worse") rfl)) B
  obtain ⟨fd6, F6⟩ := c.def_ 6 (d := d6) rfl
  have D_stair_of := D_stair_of (P := P) (w := w) (base := base) F6 (He.glo_ok X G (c.fact 6 (f := .glo "stair_of") rfl)) B D_order_of D_is_worse
  obtain ⟨fd7, F7⟩ := c.def_ 7 (d := d7) rfl
  have D__law_need := D__law_need (P := P) (w := w) (base := base) F7 (He.glo_ok X G (c.fact 7 (f := .glo "_law_need") rfl)) B
  obtain ⟨fd8, F8⟩ := c.def_ 8 (d := d8) rfl
  have D__law_values := D__law_values (P := P) (w := w) (base := base) F8 (He.glo_ok X G (c.fact 8 (f := .glo "_law_values") rfl)) B D__law_need
  obtain ⟨fd9, F9⟩ := c.def_ 9 (d := d9) rfl
  have D__law_loss_let := D__law_loss_let (P := P) (w := w) (base := base) F9 (He.glo_ok X G (c.fact 9 (f := .glo "_law_loss_let") rfl)) B
  obtain ⟨fd10, F10⟩ := c.def_ 10 (d := d10) rfl
  have D_either := D_either (P := P) (w := w) (base := base) F10 (He.glo_ok X G (c.fact 10 (f := .glo "either") rfl)) B D_stair_of
  obtain ⟨fd11, F11⟩ := c.def_ 11 (d := d11) rfl
  have D__law_least := D__law_least (P := P) (w := w) (base := base) F11 (He.glo_ok X G (c.fact 11 (f := .glo "_law_least") rfl)) B
  obtain ⟨fd12, F12⟩ := c.def_ 12 (d := d12) rfl
  have D_needed_by := D_needed_by (P := P) (w := w) (base := base) F12 (He.glo_ok X G (c.fact 12 (f := .glo "needed_by") rfl)) B
  obtain ⟨fd13, F13⟩ := c.def_ 13 (d := d13) rfl
  have D_worse := D_worse (P := P) (w := w) (base := base) F13 (He.glo_ok X G (c.fact 13 (f := .glo "worse") rfl)) B D_is_worse
  obtain ⟨fd14, F14⟩ := c.def_ 14 (d := d14) rfl
  have D_both := D_both (P := P) (w := w) (base := base) F14 (He.glo_ok X G (c.fact 14 (f := .glo "both") rfl)) B D_stair_of D_worse
  obtain ⟨fd15, F15⟩ := c.def_ 15 (d := d15) rfl
  have D_entered_with := D_entered_with (P := P) (w := w) (base := base) F15 (He.glo_ok X G (c.fact 15 (f := .glo "entered_with") rfl)) B D_stair_of
  obtain ⟨fd16, F16⟩ := c.def_ 16 (d := d16) rfl
  have D_paid := D_paid (P := P) (w := w) (base := base) F16 (He.glo_ok X G (c.fact 16 (f := .glo "paid") rfl)) B D_stair_of
  obtain ⟨fd17, F17⟩ := c.def_ 17 (d := d17) rfl
  have D_summed := D_summed (P := P) (w := w) (base := base) F17 (He.glo_ok X G (c.fact 17 (f := .glo "summed") rfl)) B
  obtain ⟨fd18, F18⟩ := c.def_ 18 (d := d18) rfl
  have D_through := D_through (P := P) (w := w) (base := base) F18 (He.glo_ok X G (c.fact 18 (f := .glo "through") rfl)) B D_summed D_stair_of
  obtain ⟨fd19, F19⟩ := c.def_ 19 (d := d19) rfl
  have D_is_below := D_is_below (P := P) (w := w) (base := base) F19 (He.glo_ok X G (c.fact 19 (f := .glo "is_below") rfl)) B D_is_worse
  obtain ⟨fd20, F20⟩ := c.def_ 20 (d := d20) rfl
  have D__law_above := D__law_above (P := P) (w := w) (base := base) F20 (He.glo_ok X G (c.fact 20 (f := .glo "_law_above") rfl)) B
  obtain ⟨fd21, F21⟩ := c.def_ 21 (d := d21) rfl
  have D_cut := D_cut (P := P) (w := w) (base := base) F21 (He.glo_ok X G (c.fact 21 (f := .glo "cut") rfl)) B D_stair_of
  obtain ⟨fd22, F22⟩ := c.def_ 22 (d := d22) rfl
  have D_is_integer := D_is_integer (P := P) (w := w) (base := base) F22 (He.glo_ok X G (c.fact 22 (f := .glo "is_integer") rfl)) B
  obtain ⟨fd23, F23⟩ := c.def_ 23 (d := d23) rfl
  have D_is_listed := D_is_listed (P := P) (w := w) (base := base) F23 (He.glo_ok X G (c.fact 23 (f := .glo "is_listed") rfl)) B
  obtain ⟨fd24, F24⟩ := c.def_ 24 (d := d24) rfl
  have D_is_offer := D_is_offer (P := P) (w := w) (base := base) F24 (He.glo_ok X G (c.fact 24 (f := .glo "is_offer") rfl)) B D_is_integer D_is_listed
  obtain ⟨fd25, F25⟩ := c.def_ 25 (d := d25) rfl
  have D_is_stair := D_is_stair (P := P) (w := w) (base := base) F25 (He.glo_ok X G (c.fact 25 (f := .glo "is_stair") rfl)) B D_is_offer D_is_listed D_stair_of
  exact defMf F S_law 25 rfl (t_law B TB D__law_pen D__law_offers D__law_draw D_stair_of D__law_values D__law_loss_let D_either D__law_least D_needed_by D__law_need D_both D_entered_with D_paid D_through D_is_below D__law_above D_cut D_is_stair D__law_pick D_is_offer)
end
end Mr

namespace Mr
open PySem PySem.Spec PyProof.Rows L2
abbrev R : PySem.W.OpenRow := PySem.W.OpenLaw.row PySem.Challenge.rw_anydepth_k05_stairs_by_trying_dues
abbrev hk : PySem.W.Hook := He.hookX 4 fa fn [] tf ex
def ob (s : PySem.W.SharedT) : He.AlX := He.obsX 4 fa fn [] tf ex (HandSHeadRun.getT s)
theorem ob_eq (s : PySem.W.SharedT) : ob s = hk.obs s.abs := He.obsX_eq (HandSHeadRun.getT_eq s)
def loose : List PySem.Str := ["is_integer", "is_listed", "is_worse", "worse", "summed", "stair_of", "order_of", "needed_by", "either", "both", "paid", "through", "entered_with", "cut", "is_offer", "is_stair", "is_below", "_law_pen", "_law_draw", "_law_pick", "_law_need", "_law_offers", "_law_loss_let", "_law_values", "_law_least", "_law_above"]
theorem run (w : World) : HandSHeadRun.RunEq R (PySem.W.view R.prog [29]) hk ob 3800 loose w := by
  intro os
  kernel_rfl
/-- what the plain law has to say -/
abbrev PlainLaw : Prop := ∀ (Pt : Addr) (ns : List Int), ns.length ≤ 63 → (∀ z ∈ ns, Builtin.Int.intBits z ≤ 1048576) → ∃ μ, g_law Pt [.kls (ns.map T.int)] [.tab Pt (lamQ "law")] = .ok (.bl true) μ
theorem holdsOf (plain : PlainLaw) : PySem.Challenge.rw_anydepth_k05_stairs_by_trying_dues.Holds := by
  open PySem.W PySem.Calls in
  w_on; o_law
  refine HandSHeadRun.head_any (r := OpenLaw.row PySem.Challenge.rw_anydepth_k05_stairs_by_trying_dues) (q := view (OpenLaw.row PySem.Challenge.rw_anydepth_k05_stairs_by_trying_dues).prog [29]) (H := hk) (ob := ob) (M := 3800) (loose := loose) (d := HandSHeadRun.topDef (OpenLaw.row PySem.Challenge.rw_anydepth_k05_stairs_by_trying_dues).prog 29) (kwd := []) ob_eq
    (by kernel_rfl) (fun s => by kernel_rfl) run (by kernel_rfl) (by kernel_rfl) (by kernel_rfl) (by rfl) (by first | assumption | decide +kernel) (by decide +kernel) ⟨rfl, rfl, rfl, rfl, rfl, by decide +kernel⟩ ?hw ?hc
  case hw => w_witness2
  case hc =>
    refine walkM (l := PySem.Challenge.rw_anydepth_k05_stairs_by_trying_dues) (n := 63) (k := 6) (x := "script") rfl (by decide) (by kernel_rfl) ⟨rfl, by decide, by decide⟩ ?F
    intro w mg fa0 h Y G hmg0
    obtain ⟨K, KX, c⟩ := Y
    have hmg : mg ("law" : PySem.Str) = some (.ref fa0) := by
      have e : (HandSHeadRun.topDef (OpenLaw.row PySem.Challenge.rw_anydepth_k05_stairs_by_trying_dues).prog 29).name = ("law" : PySem.Str) := by kernel_rfl
      rw [← e]
      exact hmg0
    obtain ⟨fd, F, all⟩ := allDefs (Pt := (He.cT K ("law", none)).2) (P := (PySem.Challenge.rw_anydepth_k05_stairs_by_trying_dues).prog) (w := w) KX G c.t.d
    have e := hmg.symm.trans (He.glo_ok KX G (c.t.d.fact 26 (f := .glo "law") rfl))
    cases e
    have mem : (("law", none) : He.Defn) ∈ tf := by decide +kernel
    have one : ∀ p ∈ [He.cT K ("law", none)], p = He.cT K ("law", none) := fun p hp => List.mem_singleton.mp hp
    exact ⟨K, fd, [He.cT K ("law", none)], g_law (He.cT K ("law", none)).2, fun _ => lamQ "law", KX, fun p hp => by rw [one p hp]; exact c.empty _ mem, fun p hp => by rw [one p hp]; exact c.out _ mem, fun p hp => by rw [one p hp]; exact PySem.W.codeHd_of_K KX (c.hd _ mem),
      List.pairwise_singleton _ _, fun s u => FunD.bindsA (ps := ["script"]) F (fun _ _ _ _ _ _ us hl => match us, hl with | [_], _ => rfl) s [u] rfl, fun ns h1 h2 => plain _ ns h1 h2, fun base _ _ TB => all base (TB _ (List.mem_singleton.mpr rfl))⟩
end Mr

namespace Mr
open PySem PySem.Spec PyProof.Rows L2

/-! ### offers as data -/
abbrev Off := Int × Option Int
def eL : Option Int → T
  | none => .non
  | some l => .int l
def eO (o : Off) : T := .tup [.int o.1, eL o.2]
@[simp] theorem eO_mk (n : Int) (l : Option Int) : eO (n, l) = .tup [.int n, eL l] := rfl
/-- l is no better than o -/
def isWorse (l o : Option Int) : Bool := match o with
  | none => true
  | some b => match l with
    | none => false
    | some a => decide (b ≤ a)
theorem s_is_worse (l o : Option Int) (μ : Mu) : g_is_worse [eL l, eL o] μ = .ok (.bl (isWorse l o)) μ := by
  refine fn_same' rfl ?_
  cases o with
  | none => rfl
  | some b =>
    cases l with
    | none => rfl
    | some a => rfl
def worseL (l o : Option Int) : Option Int := if isWorse l o = true then l else o
theorem s_worse (l o : Option Int) (μ : Mu) : g_worse [eL l, eL o] μ = .ok (eL (worseL l o)) μ := by
  refine fn_same' rfl ?_
  simp only [m_worse, startR, r_ret, r_if, r_tru, r_call, r_cons, r_var, r_nil]
  simp [s_is_worse, tru, truT, worseL]
  cases isWorse l o <;> simp [endO]
def summedL : Option Int → Option Int → Option Int
  | some a, some b => some (a + b)
  | _, _ => none
theorem s_summed (l o : Option Int) (μ : Mu) : g_summed [eL l, eL o] μ = .ok (eL (summedL l o)) μ := by
  refine fn_same' rfl ?_
  cases l <;> cases o <;> rfl
def keyT (o : Off) : T := match o.2 with
  | none => .tup [.int o.1, .int 0, .int 0]
  | some l => .tup [.int o.1, .int 1, .int l]
def keyP (o : Off) : PyData := match o.2 with
  | none => .tuple [.int o.1, .int 0, .int 0]
  | some l => .tuple [.int o.1, .int 1, .int l]
theorem s_order_of (o : Off) (μ : Mu) : g_order_of [eO o] μ = .ok (keyT o) μ := by
  refine fn_same' rfl ?_
  obtain ⟨n, l⟩ := o
  cases l <;> rfl
theorem keyT_py (o : Off) (μ : Mu) : pyT μ 60 (keyT o) = some (keyP o) := by
  obtain ⟨n, l⟩ := o
  cases l <;> rfl
theorem keysM_of (os : List Off) (μ : Mu) : keysM g_order_of (os.map eO) μ = .ok (os.map keyT) μ := by
  induction os with
  | nil => rfl
  | cons o os ih =>
    rw [List.map_cons, List.map_cons]
    unfold keysM
    rw [s_order_of]
    simp only [Out.bind_ok]
    rw [ih] <;> rfl
theorem mapO_key (os : List Off) (μ : Mu) : mapO (pyT μ 60) (os.map keyT) = some (os.map keyP) := by
  induction os with
  | nil => rfl
  | cons o os ih =>
    rw [List.map_cons, List.map_cons]
    unfold mapO
    rw [keyT_py, ih] <;> rfl
theorem key_alike (a b : Off) : PySem.W.alike (keyP a) (keyP b) = true := by
  obtain ⟨n, l⟩ := a
  obtain ⟨m, k⟩ := b
  cases l <;> cases k <;> simp [keyP, PySem.W.alike, PySem.W.alikeAll]
theorem keys_ok (os : List Off) : (alikeB (os.map keyP) && sortableB (os.map keyP) && shallowB (os.map keyP)) = true := by
  rw [Bool.and_eq_true, Bool.and_eq_true]
  refine ⟨⟨?_, ?_⟩, ?_⟩
  · unfold alikeB
    rw [List.all_map, List.all_eq_true]
    intro a _
    show (os.map keyP).all _ = true
    rw [List.all_map, List.all_eq_true]
    intro b _
    exact key_alike a b
  · unfold sortableB
    rw [Bool.or_eq_true]
    left
    rw [List.all_map, List.all_eq_true]
    rintro ⟨n, l⟩ _
    cases l <;> rfl
  · unfold shallowB
    rw [List.all_map, List.all_eq_true]
    rintro ⟨n, l⟩ _
    cases l <;> simp [keyP, PyData.depth, PyData.depthAll]
/-- the order of the keys -/
def leO (a b : Off) : Bool := !PySem.W.dataLt (keyP b) (keyP a)
def sortOff (os : List Off) : List Off := os.mergeSort leO
theorem sortBy_of (os : List Off) : sortBy (os.map keyP) (os.map eO) = (sortOff os).map eO := by
  unfold sortBy sortOff
  have hz : (os.map eO).zip (os.map keyP) = os.map fun o => (eO o, keyP o) := by
    induction os with
    | nil => rfl
    | cons o os ih => rw [List.map_cons, List.map_cons, List.map_cons, List.zip_cons_cons, ih]
  rw [hz, ← List.map_mergeSort (r := leO) (fun a _ b _ => ?_), List.map_map]
  · rfl
  · show leO a b = PySem.W.dataLe false Prod.snd (eO a, keyP a) (eO b, keyP b)
    rw [PySem.W.dataLe_eq] <;> rfl
theorem s_sort (os : List Off) (μ : Mu) (h : os.length ≤ 1000000) : sortO g_order_of fzT (os.map eO) μ = .ok (.lst ((sortOff os).map eO)) μ := by
  unfold sortO
  rw [if_pos (few_map h), keysM_of]
  simp only [Out.bind_ok]
  rw [mapO_key]
  simp only [keys_ok, if_true]
  rw [sortBy_of] <;> rfl
end Mr

namespace Mr
open PySem PySem.Spec PyProof.Rows L2

/-! ### the order of losses (none: below all), of offers -/
def Lle : Option Int → Option Int → Prop
  | none, _ => True
  | some _, none => False
  | some x, some y => x ≤ y
theorem isWorse_iff {l o : Option Int} : isWorse l o = true ↔ Lle o l := by
  cases o <;> cases l <;> simp [isWorse, Lle]
theorem Lle.refl (a : Option Int) : Lle a a := by cases a <;> simp [Lle]
theorem Lle.trans {a b c : Option Int} (h : Lle a b) (h' : Lle b c) : Lle a c := by
  cases a <;> cases b <;> cases c <;> simp [Lle] at * <;> omega
theorem Lle.antisymm {a b : Option Int} (h : Lle a b) (h' : Lle b a) : a = b := by
  cases a <;> cases b <;> simp [Lle] at * <;> omega
theorem Lle.total (a b : Option Int) : Lle a b ∨ Lle b a := by
  cases a <;> cases b <;> simp [Lle] <;> omega
theorem Lle.not {a b : Option Int} (h : ¬ Lle a b) : Lle b a := (Lle.total a b).resolve_left h
/-- a is as good as b -/
def Ole (a b : Off) : Prop := a.1 ≤ b.1 ∧ Lle a.2 b.2
theorem Ole.refl (a : Off) : Ole a a := ⟨Int.le_refl _, Lle.refl _⟩
theorem Ole.trans {a b c : Off} (h : Ole a b) (h' : Ole b c) : Ole a c := ⟨Int.le_trans h.1 h'.1, h.2.trans h'.2⟩
theorem Ole.antisymm {a b : Off} (h : Ole a b) (h' : Ole b a) : a = b := Prod.ext (Int.le_antisymm h.1 h'.1) (h.2.antisymm h'.2)
/-- for each of B one of A is as good -/
def Dom (A B : List Off) : Prop := ∀ b ∈ B, ∃ a ∈ A, Ole a b
theorem Dom.refl (A : List Off) : Dom A A := fun b hb => ⟨b, hb, Ole.refl b⟩
theorem Dom.trans {A B C : List Off} (h : Dom A B) (h' : Dom B C) : Dom A C := fun c hc => by
  obtain ⟨b, hb, h1⟩ := h' c hc
  obtain ⟨a, ha, h2⟩ := h b hb
  exact ⟨a, ha, h2.trans h1⟩
theorem Dom.of_sub {A B : List Off} (h : ∀ b ∈ B, b ∈ A) : Dom A B := fun b hb => ⟨b, h b hb, Ole.refl b⟩
/-! ### sorting -/
theorem leO_iff (a b : Off) : leO a b = true ↔ a.1 < b.1 ∨ (a.1 = b.1 ∧ Lle a.2 b.2) := by
  have tri : ∀ x y z x' y' z' : Int, PySem.W.dataLt (.tuple [.int x, .int y, .int z]) (.tuple [.int x', .int y', .int z']) = decide (x < x' ∨ (x = x' ∧ (y < y' ∨ (y = y' ∧ z < z')))) := by
    intro x y z x' y' z'
    rw [PySem.W.dataLt_tuple, PySem.W.dataLt_cons (by simp [PySem.W.alike]), PySem.W.dataLt_cons (by simp [PySem.W.alike]), PySem.W.dataLt_cons (by simp [PySem.W.alike]), PySem.W.dataLt_int, PySem.W.dataLt_int, PySem.W.dataLt_int]
    have e : PyProof.Rows.lexLt PyProof.Rows.itemOrd (PySem.W.keyToksAll []) (PySem.W.keyToksAll []) = false := PyProof.Rows.lex_irrefl _
    rw [e]
    simp only [PyData.eqv, beq_iff_eq]
    by_cases h1 : x = x' <;> by_cases h2 : y = y' <;> by_cases h3 : z = z' <;> simp [h1, h2, h3]
  obtain ⟨n, l⟩ := a
  obtain ⟨m, k⟩ := b
  unfold leO
  cases l <;> cases k <;> simp only [keyP, tri] <;> simp [Lle] <;> omega
theorem leO_trans (a b c : Off) (h : leO a b = true) (h' : leO b c = true) : leO a c = true := by
  rw [leO_iff] at *
  rcases h with h | ⟨h, h2⟩
  · rcases h' with h' | ⟨h', _⟩ <;> exact .inl (by omega)
  · rcases h' with h' | ⟨h', h3⟩
    · exact .inl (by omega)
    · exact .inr ⟨by omega, h2.trans h3⟩
theorem leO_total (a b : Off) : (leO a b || leO b a) = true := by
  rw [Bool.or_eq_true, leO_iff, leO_iff]
  by_cases h : a.1 = b.1
  · rcases Lle.total a.2 b.2 with z | z
    · exact .inl (.inr ⟨h, z⟩)
    · exact .inr (.inr ⟨h.symm, z⟩)
  · by_cases h2 : a.1 < b.1
    · exact .inl (.inl h2)
    · exact .inr (.inl (by omega))
theorem sortOff_perm (os : List Off) : (sortOff os).Perm os := List.mergeSort_perm _ _
theorem sortOff_sorted (os : List Off) : (sortOff os).Pairwise fun a b => leO a b = true := List.pairwise_mergeSort (le := leO) leO_trans leO_total os
/-! ### the stair -/
def keepO : Option Off → List Off → List Off
  | _, [] => []
  | none, o :: os => o :: keepO (some o) os
  | some p, o :: os => if isWorse o.2 p.2 = true then keepO (some p) os else o :: keepO (some o) os
def stairOf (os : List Off) : List Off := keepO none (sortOff os)
def Strict (A : List Off) : Prop := A.Pairwise fun a b => a.1 < b.1 ∧ ¬ Lle a.2 b.2
theorem keepO_sub : ∀ (p : Option Off) (os : List Off), ∀ x ∈ keepO p os, x ∈ os
  | none, [], x, h => h
  | some _, [], x, h => h
  | none, o :: os, x, h => by
    rcases List.mem_cons.mp h with h | h
    · rw [h]; exact List.mem_cons_self
    · exact List.mem_cons_of_mem _ (keepO_sub _ os x h)
  | some p, o :: os, x, h => by
    unfold keepO at h
    split at h
    · exact List.mem_cons_of_mem _ (keepO_sub _ os x h)
    · rcases List.mem_cons.mp h with h | h
      · rw [h]; exact List.mem_cons_self
      · exact List.mem_cons_of_mem _ (keepO_sub _ os x h)
theorem keepO_some : ∀ (p : Off) (os : List Off), (p :: os).Pairwise (fun a b => leO a b = true) → Strict (p :: keepO (some p) os) ∧ Dom (p :: keepO (some p) os) (p :: os)
  | p, [], _ => ⟨List.pairwise_singleton _ _, Dom.refl _⟩
  | p, o :: os, h => by
    have hpo : leO p o = true := (List.pairwise_cons.mp h).1 o List.mem_cons_self
    have hrest : (o :: os).Pairwise (fun a b => leO a b = true) := (List.pairwise_cons.mp h).2
    have hskip : (p :: os).Pairwise (fun a b => leO a b = true) := List.pairwise_cons.mpr ⟨fun x hx => (List.pairwise_cons.mp h).1 x (List.mem_cons_of_mem _ hx), (List.pairwise_cons.mp hrest).2⟩
    unfold keepO
    split
    · rename_i hw
      obtain ⟨h1, h2⟩ := keepO_some p os hskip
      refine ⟨h1, fun x hx => ?_⟩
      rcases List.mem_cons.mp hx with rfl | hx
      · exact h2 x List.mem_cons_self
      · rcases List.mem_cons.mp hx with rfl | hx
        · refine ⟨p, List.mem_cons_self, ?_, isWorse_iff.mp hw⟩
          rcases (leO_iff _ _).mp hpo with z | ⟨z, _⟩ <;> omega
        · exact h2 x (List.mem_cons_of_mem _ hx)
    · rename_i hw
      obtain ⟨h1, h2⟩ := keepO_some o os hrest
      have nl : ¬ Lle p.2 o.2 := fun z => hw (isWorse_iff.mpr z)
      have lt : p.1 < o.1 := by
        rcases (leO_iff _ _).mp hpo with z | ⟨_, z⟩
        · exact z
        · exact absurd z nl
      refine ⟨List.pairwise_cons.mpr ⟨fun x hx => ?_, h1⟩, fun x hx => ?_⟩
      · rcases List.mem_cons.mp hx with rfl | hx
        · exact ⟨lt, nl⟩
        · obtain ⟨z1, z2⟩ := (List.pairwise_cons.mp h1).1 x hx
          exact ⟨by omega, fun z => z2 ((Lle.not nl).trans z)⟩
      · rcases List.mem_cons.mp hx with rfl | hx
        · exact ⟨x, List.mem_cons_self, Ole.refl _⟩
        · obtain ⟨a, ha, hle⟩ := h2 x hx
          exact ⟨a, List.mem_cons_of_mem _ ha, hle⟩
theorem stair_strict (os : List Off) : Strict (stairOf os) := by
  unfold stairOf
  have hs := sortOff_sorted os
  cases h : sortOff os with
  | nil => exact List.Pairwise.nil
  | cons o r =>
    rw [h] at hs
    exact (keepO_some o r hs).1
theorem stair_sub (os : List Off) : ∀ x ∈ stairOf os, x ∈ os := fun x hx => (sortOff_perm os).mem_iff.mp (keepO_sub _ _ x hx)
theorem stair_dom (os : List Off) : Dom (stairOf os) os := by
  have key : Dom (stairOf os) (sortOff os) := by
    unfold stairOf
    have hs := sortOff_sorted os
    cases h : sortOff os with
    | nil => exact fun b hb => nomatch hb
    | cons o r =>
      rw [h] at hs
      exact (keepO_some o r hs).2
  exact fun b hb => key b ((sortOff_perm os).mem_iff.mpr hb)
theorem dom_stair (os : List Off) : Dom os (stairOf os) := Dom.of_sub (stair_sub os)
theorem strict_anti {A : List Off} (h : Strict A) {a b : Off} (ha : a ∈ A) (hb : b ∈ A) (hle : Ole a b) : a = b := by
  induction A with
  | nil => cases ha
  | cons x xs ih =>
    obtain ⟨h1, h2⟩ := List.pairwise_cons.mp h
    rcases List.mem_cons.mp ha with e | ha'
    · rcases List.mem_cons.mp hb with e2 | hb'
      · rw [e, e2]
      · rw [e] at hle
        exact absurd hle.2 (h1 b hb').2
    · rcases List.mem_cons.mp hb with e2 | hb'
      · rw [e2] at hle
        have := (h1 a ha').1
        have := hle.1
        omega
      · exact ih h2 ha' hb'
theorem strict_eq : ∀ {A B : List Off}, Strict A → Strict B → (∀ x, x ∈ A ↔ x ∈ B) → A = B
  | [], [], _, _, _ => rfl
  | [], b :: _, _, _, h => absurd ((h b).mpr List.mem_cons_self) (List.not_mem_nil)
  | a :: _, [], _, _, h => absurd ((h a).mp List.mem_cons_self) (List.not_mem_nil)
  | a :: A, b :: B, hA, hB, h => by
    obtain ⟨a1, a2⟩ := List.pairwise_cons.mp hA
    obtain ⟨b1, b2⟩ := List.pairwise_cons.mp hB
    have hab : a = b := by
      rcases List.mem_cons.mp ((h a).mp List.mem_cons_self) with e | e
      · exact e
      · rcases List.mem_cons.mp ((h b).mpr List.mem_cons_self) with e2 | e2
        · exact e2.symm
        · have := (b1 a e).1
          have := (a1 b e2).1
          omega
    subst hab
    rw [strict_eq a2 b2 fun x => ⟨fun hx => ?_, fun hx => ?_⟩]
    · rcases List.mem_cons.mp ((h x).mp (List.mem_cons_of_mem _ hx)) with e | e
      · subst e
        have := (a1 x hx).1
        omega
      · exact e
    · rcases List.mem_cons.mp ((h x).mpr (List.mem_cons_of_mem _ hx)) with e | e
      · subst e
        have := (b1 x hx).1
        omega
      · exact e
theorem dom_mem {A B : List Off} (hA : Strict A) (h : Dom A B) (h' : Dom B A) : ∀ x ∈ A, x ∈ B := fun x hx => by
  obtain ⟨b, hb, h1⟩ := h' x hx
  obtain ⟨a, ha, h2⟩ := h b hb
  have e := strict_anti hA ha hx (h2.trans h1)
  subst e
  rw [Ole.antisymm h2 h1]
  exact hb
theorem dom_eq {A B : List Off} (hA : Strict A) (hB : Strict B) (h : Dom A B) (h' : Dom B A) : A = B :=
  strict_eq hA hB fun x => ⟨dom_mem hA h h' x, dom_mem hB h' h x⟩
/-- stairs of lists that are as good as one another are the same -/
theorem stair_congr {A B : List Off} (h : Dom A B) (h' : Dom B A) : stairOf A = stairOf B :=
  dom_eq (stair_strict A) (stair_strict B) ((stair_dom A).trans (h.trans (dom_stair B))) ((stair_dom B).trans (h'.trans (dom_stair A)))
theorem stair_of_strict {A : List Off} (h : Strict A) : stairOf A = A := dom_eq (stair_strict A) h (stair_dom A) (dom_stair A)
theorem stair_stair (A : List Off) : stairOf (stairOf A) = stairOf A := stair_of_strict (stair_strict A)
/-! ### what is needed at a due -/
def cost (d : Int) (o : Off) : Int := match o.2 with
  | none => o.1
  | some l => maxI o.1 (d + l)
def minL : List Int → Option Int
  | [] => none
  | i :: is => some (is.foldl minI i)
def val (os : List Off) (d : Int) : Option Int := minL (os.map (cost d))
/-- none: above all -/
def vle : Option Int → Option Int → Prop
  | _, none => True
  | none, some _ => False
  | some a, some b => a ≤ b
theorem vle.antisymm {a b : Option Int} (h : vle a b) (h' : vle b a) : a = b := by
  cases a <;> cases b <;> simp [vle] at * <;> omega
theorem minL_le {is : List Int} {i : Int} (h : i ∈ is) : ∃ m, minL is = some m ∧ m ≤ i := by
  cases is with
  | nil => cases h
  | cons j js => exact ⟨_, rfl, (foldl_minI js j).1 i h⟩
theorem minL_mem {is : List Int} {m : Int} (h : minL is = some m) : m ∈ is := by
  cases is with
  | nil => cases h
  | cons j js =>
    cases h
    exact (foldl_minI js j).2
theorem minL_vle {is js : List Int} (h : ∀ j ∈ js, ∃ i ∈ is, i ≤ j) : vle (minL is) (minL js) := by
  cases hj : minL js with
  | none => cases minL is <;> trivial
  | some m =>
    obtain ⟨i, hi, h1⟩ := h m (minL_mem hj)
    obtain ⟨n, h2, h3⟩ := minL_le hi
    rw [h2]
    show n ≤ m
    omega
theorem minL_eq {is js : List Int} (h : ∀ j ∈ js, ∃ i ∈ is, i ≤ j) (h' : ∀ i ∈ is, ∃ j ∈ js, j ≤ i) : minL is = minL js := (minL_vle h).antisymm (minL_vle h')
theorem maxI_eq (a b : Int) : maxI a b = max a b := by unfold maxI; split <;> omega
theorem minI_eq (a b : Int) : minI a b = min a b := by unfold minI; split <;> omega
theorem cost_mono {a b : Off} (d : Int) (h : Ole a b) : cost d a ≤ cost d b := by
  obtain ⟨n, l⟩ := a
  obtain ⟨m, k⟩ := b
  have h1 : n ≤ m := h.1
  have h2 : Lle l k := h.2
  cases l <;> cases k <;> simp [cost, maxI_eq, Lle] at * <;> omega
theorem val_vle {A B : List Off} (h : Dom A B) (d : Int) : vle (val A d) (val B d) := minL_vle fun j hj => by
  obtain ⟨b, hb, rfl⟩ := List.mem_map.mp hj
  obtain ⟨a, ha, hle⟩ := h b hb
  exact ⟨_, List.mem_map_of_mem ha, cost_mono d hle⟩
theorem val_eq {A B : List Off} (h : Dom A B) (h' : Dom B A) (d : Int) : val A d = val B d := (val_vle h d).antisymm (val_vle h' d)
theorem val_stair (A : List Off) (d : Int) : val (stairOf A) d = val A d := val_eq (stair_dom A) (dom_stair A) d
end Mr

namespace Mr
open PySem PySem.Spec PyProof.Rows L2

/-! ### == of rows of offers -/
def lD : Option Int → PyData
  | none => .none
  | some l => .int l
def offD (o : Off) : PyData := .tuple [.int o.1, lD o.2]
theorem py_L (l : Option Int) (μ : Mu) (n : Nat) : pyT μ (n + 1) (eL l) = some (lD l) := by cases l <;> rfl
theorem py_off (o : Off) (μ : Mu) (n : Nat) : pyT μ (n + 2) (eO o) = some (offD o) := by
  obtain ⟨m, l⟩ := o
  cases l <;> rfl
theorem mapO_map {α β γ : Type} {f : β → Option γ} {e : α → β} {d : α → γ} (h : ∀ a, f (e a) = some (d a)) : ∀ as : List α, mapO f (as.map e) = some (as.map d)
  | [] => rfl
  | a :: as => by
    rw [List.map_cons, List.map_cons]
    unfold mapO
    rw [h a, mapO_map h as] <;> rfl
theorem beq_dec (a b : Int) : (a == b) = decide (a = b) := by
  by_cases h : a = b <;> simp [h]
theorem eqv_L (a b : Option Int) : PyData.eqv (lD a) (lD b) = decide (a = b) := by
  cases a <;> cases b <;> simp [lD, PyData.eqv, beq_dec]
theorem eqv_off (a b : Off) : PyData.eqv (offD a) (offD b) = decide (a = b) := by
  obtain ⟨n, l⟩ := a
  obtain ⟨m, k⟩ := b
  simp [offD, PyData.eqv, PyData.eqvAll, eqv_L, beq_dec]
theorem eqv_offs : ∀ A B : List Off, PyData.eqvAll (A.map offD) (B.map offD) = decide (A = B)
  | [], [] => by simp [PyData.eqvAll]
  | [], b :: B => by simp [PyData.eqvAll]
  | a :: A, [] => by simp [PyData.eqvAll]
  | a :: A, b :: B => by
    simp only [List.map_cons, PyData.eqvAll]
    rw [eqv_off, eqv_offs A B]
    simp
theorem lay_L (l : Option Int) : (lD l).canLay0 = true ∧ (lD l).depth = 0 := by cases l <;> simp [lD, PyData.canLay0, PyData.depth]
theorem lay_off (o : Off) : (offD o).canLay0 = true ∧ (offD o).depth ≤ 1 := by
  have h := lay_L o.2
  constructor
  · simp [offD, PyData.canLay0, PyData.canLayAll0, h.1]
  · simp [offD, PyData.depth, PyData.depthAll, h.2]
theorem layAll_off : ∀ A : List Off, PyData.canLayAll0 (A.map offD) = true ∧ PyData.depthAll (A.map offD) ≤ 2
  | [] => by simp [PyData.canLayAll0, PyData.depthAll]
  | a :: A => by
    obtain ⟨h1, h2⟩ := layAll_off A
    have h3 := lay_off a
    simp only [List.map_cons, PyData.canLayAll0, PyData.depthAll, h1, h3.1, Bool.and_self, true_and]
    omega
theorem shaped_tupA (A : List Off) : SeqAt.shaped (.tuple (A.map offD)) = true := by
  obtain ⟨h1, h2⟩ := layAll_off A
  unfold SeqAt.shaped
  rw [Bool.and_eq_true]
  refine ⟨by simpa [PyData.canLay0] using h1, decide_eq_true ?_⟩
  simp only [PyData.depth]
  omega
theorem shaped_lstA (A : List Off) : SeqAt.shaped (.list (A.map offD)) = true := by
  obtain ⟨h1, h2⟩ := layAll_off A
  unfold SeqAt.shaped
  rw [Bool.and_eq_true]
  refine ⟨by simpa [PyData.canLay0] using h1, decide_eq_true ?_⟩
  simp only [PyData.depth]
  omega
theorem py_tupA (A : List Off) (μ : Mu) : pyT μ 60 (.tup (A.map eO)) = some (.tuple (A.map offD)) := by
  show (mapO (pyT μ 59) (A.map eO)).map PyData.tuple = _
  rw [mapO_map (d := offD) fun o => py_off o μ 57] <;> rfl
theorem py_lstA (A : List Off) (μ : Mu) : pyT μ 60 (.lst (A.map eO)) = some (.list (A.map offD)) := by
  show (mapO (pyT μ 59) (A.map eO)).map PyData.list = _
  rw [mapO_map (d := offD) fun o => py_off o μ 57] <;> rfl
theorem py_mrA {A : List Off} {μ : Mu} {i : Nat} (h : μ[i]? = some (.lst (A.map eO))) : pyT μ 60 (.mr i) = some (.list (A.map offD)) := by
  show (match μ[i]? with
    | some (.lst ts) => (mapO (pyT μ 59) ts).map PyData.list
    | _ => none) = _
  rw [h]
  show (mapO (pyT μ 59) (A.map eO)).map PyData.list = _
  rw [mapO_map (d := offD) fun o => py_off o μ 57] <;> rfl
theorem eq_lst {μ : Mu} {x y : T} {A B : List Off} (hx : pyT μ 60 x = some (.list (A.map offD))) (hy : pyT μ 60 y = some (.list (B.map offD))) : eqM μ x y = some (decide (A = B)) := by
  unfold eqM
  rw [hx, hy]
  simp only [shaped_lstA, Bool.and_self, if_true]
  simp only [PyData.eqv, eqv_offs]
theorem eq_tup {μ : Mu} {x y : T} {A B : List Off} (hx : pyT μ 60 x = some (.tuple (A.map offD))) (hy : pyT μ 60 y = some (.tuple (B.map offD))) : eqM μ x y = some (decide (A = B)) := by
  unfold eqM
  rw [hx, hy]
  simp only [shaped_tupA, Bool.and_self, if_true]
  simp only [PyData.eqv, eqv_offs]
/-! ### the store with one more object -/
@[simp] theorem push_get (μ : Mu) (o : MO) : (μ ++ [o])[μ.length]? = some o := by
  rw [List.getElem?_append_right (Nat.le_refl _), Nat.sub_self] <;> rfl
@[simp] theorem push_set (μ : Mu) (o p : MO) : (μ ++ [o]).set μ.length p = μ ++ [p] := by
  rw [List.set_append_right _ _ (Nat.le_refl _), Nat.sub_self] <;> rfl
/-! ### stair_of -/
theorem gIx_seq {μ : Mu} {x u : T} {ts : List T} {i : Int} (hx : asSeq μ x = some ts) (e : atI ts i = some u) : gIx x (.int i) μ = .ok u μ := by
  cases x with
  | str cs => cases hx
  | _ => simp only [gIx, hx, e]
theorem last_ix {μ : Mu} {acc : List Off} {o : Off} {x : T} (hx : asSeq μ x = some ((acc ++ [o]).map eO)) : gIx x (.int (-1)) μ = .ok (eO o) μ := by
  have e : atI ((acc ++ [o]).map eO) (-1) = some (eO o) := by
    rw [List.map_append, List.map_cons, List.map_nil]
    exact atI_last _ _
  exact gIx_seq hx e
theorem ix1_off (o : Off) (μ : Mu) : gIx (eO o) (.int 1) μ = .ok (eL o.2) μ := rfl
theorem ix0_off (o : Off) (μ : Mu) : gIx (eO o) (.int 0) μ = .ok (.int o.1) μ := rfl
theorem calm_push {μ ν : Mu} {A : List Off} : frzT (μ ++ ν) μ.length 64 (.tup (A.map eO)) = some (.tup (A.map eO)) := by
  have h : mapO (frzT (μ ++ ν) μ.length 63) (A.map eO) = some (A.map eO) := mapO_map (d := eO) (fun o => by obtain ⟨n, l⟩ := o; cases l <;> rfl) A
  show (match mapO (frzT (μ ++ ν) μ.length 63) (A.map eO) with
    | some us => some (T.tup us)
    | none => none) = _
  rw [h]
/-- a row of offers, as a list or a tuple -/
def IsA (t : T) (A : List Off) : Prop := t = .lst (A.map eO) ∨ t = .tup (A.map eO)
theorem IsA.seq {t : T} {A : List Off} (h : IsA t A) (μ : Mu) : asSeq μ t = some (A.map eO) := by
  rcases h with rfl | rfl <;> rfl
theorem IsA.it {t : T} {A : List Off} (h : IsA t A) (μ : Mu) : itS t μ = .ok (A.map eO) μ := by
  rcases h with rfl | rfl <;> rfl
def stBody : MS := mIfS (mOr (mTst (mOp gEq (mVar 1) (mCl gLst mNil))) (mNot (mTru (mCall g_is_worse [] (mCons (mVar 3) (mCons (mOp gIx (mOp gIx (mVar 1) (mUn gNeg (mC (.int 1)))) (mC (.int 1))) mNil))))))
  (mDrop (mLm gApp (mVar 1) (mCons (mCl gTup (mCons (mVar 2) (mCons (mVar 3) mNil))) mNil)))
  mNext
theorem st_body (t : T) (μ : Mu) (acc : List Off) (o : Off) (hl : acc.length < 1000000) :
    stBody [some t, some (.mr μ.length), some (.int o.1), some (eL o.2)] (μ ++ [.lst (acc.map eO)]) = .ok (.nx [some t, some (.mr μ.length), some (.int o.1), some (eL o.2)]) (μ ++ [.lst ((match acc.getLast? with
      | none => acc ++ [o]
      | some p => if isWorse o.2 p.2 = true then acc else acc ++ [o]).map eO)]) := by
  have happ : few (T.tup [.int o.1, eL o.2] :: acc.map eO) = true := few_of (by rw [List.length_cons, List.length_map]; omega)
  have app : mLm gApp (mVar 1) (mCons (mCl gTup (mCons (mVar 2) (mCons (mVar 3) mNil))) mNil) [some t, some (.mr μ.length), some (.int o.1), some (eL o.2)] (μ ++ [.lst (acc.map eO)]) = .ok .non (μ ++ [.lst ((acc ++ [o]).map eO)]) := by
    unfold mLm
    simp [isStL, gApp, few, happ]
    have h1 : Nat.ble (acc.length + 1) 1000000 = true := Nat.ble_eq_true_of_le (by omega)
    simp [h1, eO]
    omega
  have hp := py_mrA (μ := μ ++ [.lst (acc.map eO)]) (A := acc) (push_get μ _)
  have he : eqM (μ ++ [.lst (acc.map eO)]) (.mr μ.length) (.lst []) = some (decide (acc = [])) := eq_lst (B := []) hp (py_lstA [] _)
  unfold stBody
  cases hg : acc.getLast? with
  | none =>
    have h0 : acc = [] := List.getLast?_eq_none_iff.mp hg
    subst h0
    have he' : eqM (μ ++ [.lst []]) (.mr μ.length) (.lst []) = some true := he
    have app' : mLm gApp (mVar 1) (mCons (mCl gTup (mCons (mVar 2) (mCons (mVar 3) mNil))) mNil) [some t, some (.mr μ.length), some (.int o.1), some (eL o.2)] (μ ++ [.lst []]) = .ok .non (μ ++ [.lst [eO o]]) := app
    simp [gEq, he', few, app']
  | some p =>
    obtain ⟨pre, rfl⟩ := List.getLast?_eq_some_iff.mp hg
    have h0 : decide (pre ++ [p] = []) = false := decide_eq_false (by simp)
    have hseq : asSeq (μ ++ [.lst ((pre ++ [p]).map eO)]) (.mr μ.length) = some ((pre ++ [p]).map eO) := by
      show (match (μ ++ [MO.lst ((pre ++ [p]).map eO)])[μ.length]? with | some (.lst ts) => some ts | _ => none) = _
      rw [push_get]
    rw [h0] at he
    simp only [r_ifS, r_or, r_tst, r_op, r_var, r_cl, r_nil, List.getElem?_cons_succ, List.getElem?_cons_zero, Out.bind_ok, r_lstG, gEq]
    simp only [show few ([] : List T) = true from rfl, if_true, Out.bind_ok, he, Bool.false_eq_true, if_false, r_not, r_tru, r_call, r_cons, r_var, r_op, r_un, r_c, gNeg, List.getElem?_cons_succ, List.getElem?_cons_zero]
    rw [last_ix hseq]
    simp only [Out.bind_ok, ix1_off, r_nil, List.append_nil, s_is_worse, tru, truT]
    cases hw : isWorse o.2 p.2 with
    | true => simp only [Out.bind_ok, Bool.not_true, Bool.false_eq_true, if_false, if_true, r_next]
    | false => simp only [Out.bind_ok, Bool.not_false, Bool.false_eq_true, if_false, if_true, r_drop, app]
end Mr

namespace Mr
open PySem PySem.Spec PyProof.Rows L2

theorem tp2 (g : MGs) (o : Off) (ρ : Rho) (μ : Mu) (i j : Nat) : gTp 2 (gsCons (gNm i) (gsCons (gNm j) gsNil)) (eO o) ρ μ = .ok ((ρ.set i (some (.int o.1))).set j (some (eL o.2))) μ := rfl
theorem stair_loop (t : T) (μ : Mu) : ∀ (os acc : List Off) (x y : Option T), acc.length + os.length ≤ 1000000 →
    ∃ x' y', loopM (gTp 2 (gsCons (gNm 2) (gsCons (gNm 3) gsNil))) stBody (os.map eO) [some t, some (.mr μ.length), x, y] (μ ++ [.lst (acc.map eO)]) = .ok (.nx [some t, some (.mr μ.length), x', y']) (μ ++ [.lst ((acc ++ keepO acc.getLast? os).map eO)])
  | [], acc, x, y, _ => ⟨x, y, by
    have e : keepO acc.getLast? [] = [] := by cases acc.getLast? <;> rfl
    rw [e, List.append_nil] <;> rfl⟩
  | o :: os, acc, x, y, h => by
    rw [List.length_cons] at h
    have hb := st_body t μ acc o (by omega)
    rw [List.map_cons]
    unfold loopM
    rw [tp2 gsNil]
    simp only [Out.bind_ok]
    show ∃ x' y', stepO (stBody [some t, some (.mr μ.length), some (.int o.1), some (eL o.2)] (μ ++ [.lst (acc.map eO)])) _ = _
    rw [hb]
    show ∃ x' y', loopM _ stBody (os.map eO) [some t, some (.mr μ.length), some (.int o.1), some (eL o.2)] _ = _
    cases hg : acc.getLast? with
    | none =>
      have h0 : acc = [] := List.getLast?_eq_none_iff.mp hg
      subst h0
      obtain ⟨x', y', ih⟩ := stair_loop t μ os [o] (some (.int o.1)) (some (eL o.2)) (by simp; omega)
      exact ⟨x', y', ih⟩
    | some p =>
      simp only
      unfold keepO
      by_cases hw : isWorse o.2 p.2 = true
      · rw [if_pos hw, if_pos hw]
        obtain ⟨x', y', ih⟩ := stair_loop t μ os acc (some (.int o.1)) (some (eL o.2)) (by omega)
        rw [hg] at ih
        exact ⟨x', y', ih⟩
      · rw [if_neg hw, if_neg hw]
        obtain ⟨x', y', ih⟩ := stair_loop t μ os (acc ++ [o]) (some (.int o.1)) (some (eL o.2)) (by rw [List.length_append, List.length_singleton]; omega)
        rw [List.getLast?_concat, List.append_assoc] at ih
        exact ⟨x', y', ih⟩
theorem sortOff_len (os : List Off) : (sortOff os).length = os.length := (sortOff_perm os).length_eq
theorem s_stairS {t : T} {A : List Off} {μ : Mu} (hA : ∀ ν : Mu, asSeq (μ ++ ν) t = some (A.map eO)) (c : Calm μ) (h : A.length ≤ 1000000) : g_stair_of [t] μ = .ok (.tup ((stairOf A).map eO)) μ := by
  refine fn_made (ν := [.lst ((stairOf A).map eO)]) rfl c ?_ (calm_push (ν := [.lst ((stairOf A).map eO)])) (by simp)
  obtain ⟨x', y', hl⟩ := stair_loop t μ (sortOff A) [] none none (by rw [sortOff_len]; simpa using h)
  have hs : mSortK g_order_of (fun _ => true) fzT (mVar 0) [some t, some (.mr μ.length), none, none] (μ ++ [.lst []]) = .ok (.lst ((sortOff A).map eO)) (μ ++ [.lst []]) := by
    unfold mSortK
    simp only [r_var, List.getElem?_cons_zero, Out.bind_ok, if_true, hA]
    exact s_sort A _ h
  have e : stairOf A = [] ++ keepO ([] : List Off).getLast? (sortOff A) := rfl
  unfold m_stair_of
  show endO (mSeq _ _ [some t, none, none, none] μ) = _
  simp only [r_seq, r_set, r_cl, r_nil, Out.bind_ok, r_lstMG, show few ([] : List T) = true from rfl, if_true, List.set_cons_succ, List.set_cons_zero, r_seq_nx, r_for, r_itS, hs, r_itS_lst]
  have hl' : loopM (gTp 2 (gsCons (gNm 2) (gsCons (gNm 3) gsNil))) (mIfS (mOr (mTst (mOp gEq (mVar 1) (mCl gLst mNil))) (mNot (mTru (mCall g_is_worse [] (mCons (mVar 3) (mCons (mOp gIx (mOp gIx (mVar 1) (mUn gNeg (mC (.int 1)))) (mC (.int 1))) mNil))))))
    (mDrop (mLm gApp (mVar 1) (mCons (mCl gTup (mCons (mVar 2) (mCons (mVar 3) mNil))) mNil)))
    mNext) ((sortOff A).map eO) [some t, some (.mr μ.length), none, none] (μ ++ [.lst []]) = .ok (.nx [some t, some (.mr μ.length), x', y']) (μ ++ [.lst ((stairOf A).map eO)]) := by rw [e]; exact hl
  rw [hl']
  simp only [r_seq_nx, r_ret, r_cl, r_cons, r_nil, r_var, List.getElem?_cons_succ, List.getElem?_cons_zero, Out.bind_ok, gTupOf, asLst, push_get, endO]
theorem s_stair_of {t : T} {A : List Off} {μ : Mu} (hA : IsA t A) (c : Calm μ) (h : A.length ≤ 1000000) : g_stair_of [t] μ = .ok (.tup ((stairOf A).map eO)) μ := s_stairS (fun ν => hA.seq _) c h
/-- .. of a row that stands in the store -/
theorem frzO_A (A : List Off) (M : Mu) (n : Nat) : frzO M n (.lst (A.map eO)) = some (.lst (A.map eO)) := by
  have h : mapO (frzT M n 64) (A.map eO) = some (A.map eO) := mapO_map (d := eO) (fun o => by obtain ⟨n, l⟩ := o; cases l <;> rfl) A
  show (mapO (frzT M n 64) (A.map eO)).map MO.lst = _
  rw [h] <;> rfl
theorem s_stairM {A : List Off} {μ : Mu} (c : Calm μ) (h : A.length ≤ 1000000) : g_stair_of [.mr μ.length] (μ ++ [.lst (A.map eO)]) = .ok (.tup ((stairOf A).map eO)) (μ ++ [.lst (A.map eO)]) := by
  refine s_stairS (fun ν => ?_) (c.push (frzO_A A)) h
  show (match ((μ ++ [MO.lst (A.map eO)]) ++ ν)[μ.length]? with | some (.lst ts) => some ts | _ => none) = _
  rw [List.getElem?_append_left (by simp), push_get]
end Mr

namespace Mr
open PySem PySem.Spec PyProof.Rows L2

/-! ### rows of needs -/
theorem eqv_Ls : ∀ A B : List (Option Int), PyData.eqvAll (A.map lD) (B.map lD) = decide (A = B)
  | [], [] => by simp [PyData.eqvAll]
  | [], b :: B => by simp [PyData.eqvAll]
  | a :: A, [] => by simp [PyData.eqvAll]
  | a :: A, b :: B => by
    simp only [List.map_cons, PyData.eqvAll]
    rw [eqv_L, eqv_Ls A B]
    simp
theorem layAll_L : ∀ A : List (Option Int), PyData.canLayAll0 (A.map lD) = true ∧ PyData.depthAll (A.map lD) = 0
  | [] => by simp [PyData.canLayAll0, PyData.depthAll]
  | a :: A => by
    obtain ⟨h1, h2⟩ := layAll_L A
    have h3 := lay_L a
    simp [PyData.canLayAll0, PyData.depthAll, h1, h2, h3.1, h3.2]
theorem shaped_L (A : List (Option Int)) : SeqAt.shaped (.list (A.map lD)) = true := by
  obtain ⟨h1, h2⟩ := layAll_L A
  unfold SeqAt.shaped
  rw [Bool.and_eq_true]
  refine ⟨by simpa [PyData.canLay0] using h1, decide_eq_true ?_⟩
  simp only [PyData.depth]
  omega
theorem py_Ls (A : List (Option Int)) (μ : Mu) : pyT μ 60 (.lst (A.map eL)) = some (.list (A.map lD)) := by
  show (mapO (pyT μ 59) (A.map eL)).map PyData.list = _
  rw [mapO_map (d := lD) fun o => py_L o μ 58] <;> rfl
theorem eq_Ls (A B : List (Option Int)) (μ : Mu) : eqM μ (.lst (A.map eL)) (.lst (B.map eL)) = some (decide (A = B)) := by
  unfold eqM
  rw [py_Ls, py_Ls]
  simp only [shaped_L, Bool.and_self, if_true]
  simp only [PyData.eqv, eqv_Ls]
theorem asInts_map : ∀ is : List Int, asInts (is.map T.int) = some is
  | [] => rfl
  | i :: is => by
    rw [List.map_cons]
    unfold asInts
    rw [asInts_map is]
theorem gMin_lst (is : List Int) (μ : Mu) (h : is ≠ []) : gMin [.lst (is.map T.int)] μ = .ok (eL (minL is)) μ := by
  cases is with
  | nil => exact absurd rfl h
  | cons i is =>
    show (match asInts ((i :: is).map T.int) with
      | some (i :: is) => Out.ok (T.int (is.foldl minI i)) μ
      | _ => .bad) = _
    rw [asInts_map] <;> rfl
theorem ints_L (is : List Int) : is.map T.int = (is.map some).map eL := by
  rw [List.map_map] <;> rfl
/-- the body of needed_by and of _law_need -/
def ndBody : MS := (mSeq (mSet 2 (mFin fzT (mLc [3, 4] (mItS (mVar 0)) (gTp 2 (gsCons (gNm 3) (gsCons (gNm 4) gsNil))) mYes (mIf (mTst (mOp gIs (mVar 4) (mC .non))) (mVar 3) (mCl gMax (mCons (mVar 3) (mCons (mOp (gAdd fzT) (mVar 1) (mVar 4)) mNil)))))))
  (mRet (mIf (mTst (mOp gNe (mVar 2) (mCl gLst mNil))) (mCl gMin (mCons (mVar 2) mNil)) (mC .non))))
theorem nd_body {t : T} {A : List Off} (d : Int) {μ : Mu} (hA : IsA t A) (h : A.length ≤ 1000000) : endO (ndBody [some t, some (.int d), none, none, none] μ) = .ok (eL (val A d)) μ := by
  unfold ndBody
  have hc : compM (gTp 2 (gsCons (gNm 3) (gsCons (gNm 4) gsNil))) mYes (mIf (mTst (mOp gIs (mVar 4) (mC .non))) (mVar 3) (mCl gMax (mCons (mVar 3) (mCons (mOp (gAdd fzT) (mVar 1) (mVar 4)) mNil)))) [some t, some (.int d), none, none, none] (A.map eO) μ = .ok ((A.map (cost d)).map T.int) μ := by
    rw [List.map_map]
    refine comp_map eO _ A fun o _ => ?_
    obtain ⟨n, l⟩ := o
    cases l with
    | none => exact ⟨_, rfl, rfl, rfl⟩
    | some l => exact ⟨_, rfl, rfl, rfl⟩
  have he : eqM μ (.lst ((A.map (cost d)).map T.int)) (.lst []) = some (decide (A = [])) := by
    rw [ints_L, show ([] : List T) = ([] : List (Option Int)).map eL from rfl, eq_Ls]
    cases A <;> simp
  simp only [r_seq, r_set, r_fin, r_lc, r_itS, r_var, List.getElem?_cons_zero, Out.bind_ok, hA.it, few_map h, if_true, wipeR, List.set_cons_succ, List.set_cons_zero, hc, r_fz, r_seq_nx, r_ret, r_if, r_tst, r_op, List.getElem?_cons_succ, r_cl, r_nil, r_lstG, show few ([] : List T) = true from rfl, gNe, he]
  cases A with
  | nil => rfl
  | cons a A =>
    have hd : decide (a :: A = []) = false := decide_eq_false (by simp)
    simp only [hd, Bool.not_false, if_true, r_cons, r_var, List.getElem?_cons_succ, List.getElem?_cons_zero, Out.bind_ok, r_nil]
    rw [gMin_lst _ _ (by simp)]
    rfl
theorem s_needed_by {t : T} {A : List Off} (d : Int) (μ : Mu) (hA : IsA t A) (h : A.length ≤ 1000000) : g_needed_by [t, .int d] μ = .ok (eL (val A d)) μ := fn_same' rfl (nd_body d hA h)
theorem s__law_need {t : T} {A : List Off} (d : Int) (μ : Mu) (hA : IsA t A) (h : A.length ≤ 1000000) : g__law_need [t, .int d] μ = .ok (eL (val A d)) μ := fn_same' rfl (nd_body d hA h)
/-- the dues that are tried -/
def dues (n : Nat) : List Int := (List.range n).map fun i : Nat => 0 + (i : Int)
theorem range_dues (n : Nat) : rangeT 0 (n : Int) = (dues n).map T.int := by
  unfold rangeT dues
  rw [List.map_map, show ((n : Int) - 0).toNat = n by omega] <;> rfl
theorem mem_dues {n : Nat} {d : Int} : d ∈ dues n ↔ 0 ≤ d ∧ d < n := by
  unfold dues
  rw [List.mem_map]
  constructor
  · rintro ⟨i, hi, rfl⟩
    have := List.mem_range.mp hi
    omega
  · rintro ⟨h1, h2⟩
    exact ⟨d.toNat, List.mem_range.mpr (by omega), by omega⟩
theorem dues_len (n : Nat) : (dues n).length = n := by unfold dues; rw [List.length_map, List.length_range]
def vals (A : List Off) : List (Option Int) := (dues 41).map (val A)
theorem s__law_values {t : T} {A : List Off} (μ : Mu) (hA : IsA t A) (h : A.length ≤ 1000000) : g__law_values [t] μ = .ok (.lst ((vals A).map eL)) μ := by
  refine fn_same' rfl ?_
  have hc : compM (gNm 1) mYes (mCall g__law_need [] (mCons (mVar 0) (mCons (mVar 1) mNil))) [some t, none] ((dues 41).map T.int) μ = .ok ((dues 41).map fun d => eL (val A d)) μ := by
    refine comp_map T.int _ (dues 41) fun d _ => ⟨[some t, some (.int d)], rfl, rfl, ?_⟩
    simp only [r_call, r_cons, r_var, r_nil, List.getElem?_cons_zero, List.getElem?_cons_succ, Out.bind_ok, List.append_nil]
    exact s__law_need d μ hA h
  show endO (mRet (mFin fzT (mLc [1] (mIt (mCons (mC (.int 41)) mNil) itR1) (gNm 1) mYes (mCall g__law_need [] (mCons (mVar 0) (mCons (mVar 1) mNil))))) [some t, none] μ) = _
  have hr : itR1 [.int 41] μ = .ok ((dues 41).map T.int) μ := by
    show Out.ok (rangeT 0 41) μ = _
    rw [← range_dues 41] <;> rfl
  simp only [r_ret, r_fin, r_lc, r_it, r_cons, r_c, r_nil, Out.bind_ok, hr, few_map (e := T.int) (xs := dues 41) (by rw [dues_len]; omega), if_true, wipeR, List.set_cons_succ, List.set_cons_zero, hc, r_fz, endO]
  unfold vals
  rw [List.map_map] <;> rfl
/-! ### the small ones -/
def letL (loss told : Option Int) : Bool := match loss with
  | none => true
  | some l => match told with
    | none => false
    | some t => decide (l ≤ t)
theorem letL_iff {a b : Option Int} : letL a b = true ↔ Lle a b := by cases a <;> cases b <;> simp [letL, Lle]
theorem s__law_loss_let (a b : Option Int) (μ : Mu) : g__law_loss_let [eL a, eL b] μ = .ok (.bl (letL a b)) μ := by
  refine fn_same' rfl ?_
  cases a <;> cases b <;> rfl
def leastL : Option Int → Option Int → Option Int
  | a, none => a
  | none, b => b
  | some a, some b => some (minI a b)
theorem s__law_least (a b : Option Int) (μ : Mu) : g__law_least [eL a, eL b] μ = .ok (eL (leastL a b)) μ := by
  refine fn_same' rfl ?_
  cases a <;> cases b <;> rfl
def aboveL : Option Int → Option Int → Bool
  | _, none => false
  | none, some _ => true
  | some a, some b => decide (b < a)
theorem s__law_above (a b : Option Int) (μ : Mu) : g__law_above [eL a, eL b] μ = .ok (.bl (aboveL a b)) μ := by
  refine fn_same' rfl ?_
  cases a <;> cases b <;> rfl
theorem above_iff {a b : Option Int} : aboveL a b = false ↔ vle a b := by cases a <;> cases b <;> simp [aboveL, vle]
end Mr

namespace Mr
open PySem PySem.Spec PyProof.Rows L2

theorem startR_eq (n : Nat) (ts : List T) : startR n ts = ts.map some ++ List.replicate (n - ts.length) none := rfl
/-! ### either -/
theorem s_either {x y : T} {A B : List Off} {μ : Mu} (hA : IsA x A) (hB : IsA y B) (c : Calm μ) (h1 : A.length ≤ 1000) (h2 : B.length ≤ 1000) :
    g_either [.lst [x, y]] μ = .ok (.tup ((stairOf (A ++ B)).map eO)) μ := by
  refine fn_same' rfl ?_
  show endO (m_either [some (.lst [x, y]), none, none] μ) = _
  have hc : comp2M (gNm 1) mYes (mItS (mVar 1)) [2] (gNm 2) mYes (mVar 2) [some (.lst [x, y]), none, none] ([(x, A), (y, B)].map (Prod.fst : T × List Off → T)) μ = .ok ([(x, A), (y, B)].flatMap fun p => (Prod.snd p).map eO) μ := by
    refine comp2_map (β := Off) Prod.fst (fun _ => eO) Prod.snd (fun _ => eO) _ fun p hp => ?_
    have key : ∀ (t : T) (C : List Off), IsA t C → C.length ≤ 1000 → C.length ≤ 1000 ∧ ∃ ρ1, gNm 1 t [some (.lst [x, y]), none, none] μ = .ok ρ1 μ ∧ mYes ρ1 μ = .ok true μ ∧ mItS (mVar 1) ρ1 μ = .ok (C.map eO) μ ∧ ∀ o ∈ C, ∃ ρ2, gNm 2 (eO o) (wipeR ρ1 [2]) μ = .ok ρ2 μ ∧ mYes ρ2 μ = .ok true μ ∧ mVar 2 ρ2 μ = .ok (eO o) μ := fun t C hC hl =>
      ⟨hl, _, rfl, rfl, (by
        show (mVar 1 [some (.lst [x, y]), some t, none] μ).bind itS = _
        exact hC.it μ), fun o _ => ⟨_, rfl, rfl, rfl⟩⟩
    have hp' : p = (x, A) ∨ p = (y, B) := by simpa using hp
    rcases hp' with rfl | rfl
    · exact key x A hA h1
    · exact key y B hB h2
  have hf : few2 [x, y] = true := rfl
  unfold m_either
  simp only [r_ret, r_call, r_cons, r_fin, r_nil, List.append_nil]
  have hm : mLc2 [1, 2] (mItS (mVar 0)) (gNm 1) mYes (mItS (mVar 1)) [2] (gNm 2) mYes (mVar 2) [some (.lst [x, y]), none, none] μ = .ok ((A ++ B).map eO) μ := by
    show (if few2 [x, y] = true then comp2M (gNm 1) mYes (mItS (mVar 1)) [2] (gNm 2) mYes (mVar 2) [some (.lst [x, y]), none, none] [x, y] μ else .bad) = _
    rw [if_pos hf]
    refine hc.trans ?_
    simp [List.flatMap_cons]
  rw [hm]
  simp only [Out.bind_ok, r_fz]
  rw [s_stair_of (.inl rfl) c (by rw [List.length_append]; omega)]
  rfl
/-! ### both -/
def bothO (A B : List Off) : List Off := A.flatMap fun a => B.map fun b => (maxI a.1 b.1, worseL a.2 b.2)
theorem bothO_len (A B : List Off) : (bothO A B).length = A.length * B.length := by
  unfold bothO
  induction A with
  | nil => simp
  | cons a A ih => rw [List.flatMap_cons, List.length_append, ih, List.length_map, List.length_cons, Nat.succ_mul]; omega
theorem s_both {x y : T} {A B : List Off} {μ : Mu} (hA : IsA x A) (hB : IsA y B) (c : Calm μ) (h1 : A.length ≤ 1000) (h2 : B.length ≤ 1000) :
    g_both [x, y] μ = .ok (.tup ((stairOf (bothO A B)).map eO)) μ := by
  refine fn_same' rfl ?_
  show endO (m_both [some x, some y, none, none, none, none] μ) = _
  have hc : comp2M (gTp 2 (gsCons (gNm 2) (gsCons (gNm 3) gsNil))) mYes (mItS (mVar 1)) [4, 5] (gTp 2 (gsCons (gNm 4) (gsCons (gNm 5) gsNil))) mYes (mCl gTup (mCons (mCl gMax (mCons (mVar 2) (mCons (mVar 4) mNil))) (mCons (mCall g_worse [] (mCons (mVar 3) (mCons (mVar 5) mNil))) mNil))) [some x, some y, none, none, none, none] (A.map eO) μ
      = .ok (A.flatMap fun a => B.map fun b => eO (maxI a.1 b.1, worseL a.2 b.2)) μ := by
    refine comp2_map eO (fun _ => eO) (fun _ => B) (fun a b => eO (maxI a.1 b.1, worseL a.2 b.2)) A fun a _ => ⟨h2, _, rfl, rfl, ?_, fun b _ => ⟨_, rfl, rfl, ?_⟩⟩
    · show (mVar 1 [some x, some y, some (.int a.1), some (eL a.2), none, none] μ).bind itS = _
      exact hB.it μ
    · show mCl gTup _ [some x, some y, some (.int a.1), some (eL a.2), some (.int b.1), some (eL b.2)] μ = _
      simp only [r_cl, r_cons, r_var, r_nil, r_call, List.getElem?_cons_succ, List.getElem?_cons_zero, Out.bind_ok, List.append_nil, s_worse]
      rfl
  have hm : mLc2 [2, 3, 4, 5] (mItS (mVar 0)) (gTp 2 (gsCons (gNm 2) (gsCons (gNm 3) gsNil))) mYes (mItS (mVar 1)) [4, 5] (gTp 2 (gsCons (gNm 4) (gsCons (gNm 5) gsNil))) mYes (mCl gTup (mCons (mCl gMax (mCons (mVar 2) (mCons (mVar 4) mNil))) (mCons (mCall g_worse [] (mCons (mVar 3) (mCons (mVar 5) mNil))) mNil))) [some x, some y, none, none, none, none] μ = .ok ((bothO A B).map eO) μ := by
    unfold mLc2
    rw [r_itS, r_var]
    simp only [List.getElem?_cons_zero, Out.bind_ok, hA.it]
    have hf : few2 (A.map eO) = true := by
      unfold few2
      rw [List.length_map]
      exact Nat.ble_eq_true_of_le h1
    rw [if_pos hf]
    refine hc.trans ?_
    unfold bothO
    rw [List.map_flatMap]
    simp only [List.map_map]
    rfl
  unfold m_both
  simp only [r_ret, r_call, r_cons, r_fin, r_nil, List.append_nil]
  rw [hm]
  simp only [Out.bind_ok, r_fz]
  rw [s_stair_of (.inl rfl) c (by rw [bothO_len]; exact Nat.le_trans (Nat.mul_le_mul h1 h2) (by decide))]
  rfl
/-! ### entered_with -/
def entO (p : Int) (o : Off) : Off := (maxI 0 (o.1 - p), o.2.map fun l => l - p)
theorem s_entered_with {x : T} {A : List Off} {μ : Mu} (p : Int) (hA : IsA x A) (c : Calm μ) (h1 : A.length ≤ 1000) :
    g_entered_with [x, .int p] μ = .ok (.tup ((stairOf (A.map (entO p))).map eO)) μ := by
  refine fn_same' rfl ?_
  show endO (m_entered_with [some x, some (.int p), none, none] μ) = _
  have hc : compM (gTp 2 (gsCons (gNm 2) (gsCons (gNm 3) gsNil))) mYes (mCl gTup (mCons (mCl gMax (mCons (mC (.int 0)) (mCons (mOp gSub (mVar 2) (mVar 1)) mNil))) (mCons (mIf (mTst (mOp gIs (mVar 3) (mC .non))) (mC .non) (mOp gSub (mVar 3) (mVar 1))) mNil))) [some x, some (.int p), none, none] (A.map eO) μ = .ok ((A.map (entO p)).map eO) μ := by
    rw [List.map_map]
    refine comp_map eO _ A fun o _ => ?_
    obtain ⟨n, l⟩ := o
    cases l <;> exact ⟨_, rfl, rfl, rfl⟩
  unfold m_entered_with
  simp only [r_ret, r_call, r_cons, r_fin, r_nil, List.append_nil, r_lc, r_itS, r_var, List.getElem?_cons_zero, Out.bind_ok, hA.it, few_map (e := eO) (xs := A) (by omega), if_true, wipeR, List.set_cons_succ, List.set_cons_zero, hc, r_fz]
  rw [s_stair_of (.inl rfl) c (by rw [List.length_map]; omega)]
  rfl
/-! ### loops that gather into a list of the store -/
theorem loop_gather {α : Type} {e : α → T} {out : α → List Off} {g : MG} {mb : MS} {R : Option T → Option T → Rho} {μ : Mu} : ∀ (xs : List α) (acc : List Off) (x y : Option T),
    (∀ a ∈ xs, ∀ (x y : Option T) (acc : List Off), acc.length + (out a).length ≤ 100000 → ∃ x' y' ρ1, g (e a) (R x y) (μ ++ [.lst (acc.map eO)]) = .ok ρ1 (μ ++ [.lst (acc.map eO)]) ∧ mb ρ1 (μ ++ [.lst (acc.map eO)]) = .ok (.nx (R x' y')) (μ ++ [.lst ((acc ++ out a).map eO)])) →
    acc.length + (xs.flatMap out).length ≤ 100000 → ∃ x' y', loopM g mb (xs.map e) (R x y) (μ ++ [.lst (acc.map eO)]) = .ok (.nx (R x' y')) (μ ++ [.lst ((acc ++ xs.flatMap out).map eO)])
  | [], acc, x, y, _, _ => ⟨x, y, by rw [List.flatMap_nil, List.append_nil] <;> rfl⟩
  | a :: xs, acc, x, y, step, h => by
    rw [List.flatMap_cons, List.length_append] at h
    obtain ⟨x1, y1, ρ1, e1, e2⟩ := step a List.mem_cons_self x y acc (by omega)
    obtain ⟨x', y', ih⟩ := loop_gather xs (acc ++ out a) x1 y1 (fun b hb => step b (List.mem_cons_of_mem _ hb)) (by rw [List.length_append]; omega)
    refine ⟨x', y', ?_⟩
    rw [List.map_cons]
    unfold loopM
    rw [e1]
    simp only [Out.bind_ok]
    rw [e2]
    show loopM g mb (xs.map e) (R x1 y1) _ = _
    rw [ih, List.flatMap_cons, List.append_assoc]
/-- found.append(..) -/
theorem app_off {μ : Mu} {acc : List Off} {o : Off} {m : MA} {ρ : Rho} {i : Nat} (hρ : ρ[i]? = some (some (.mr μ.length))) (hm : m ρ (μ ++ [.lst (acc.map eO)]) = .ok [eO o] (μ ++ [.lst (acc.map eO)])) (hl : acc.length < 1000000) : mLm gApp (mVar i) m ρ (μ ++ [.lst (acc.map eO)]) = .ok .non (μ ++ [.lst ((acc ++ [o]).map eO)]) := by
  unfold mLm
  rw [r_var, hρ]
  simp only [Out.bind_ok, isStL, push_get, if_true, hm, gApp]
  rw [if_pos (few_of (by rw [List.length_cons, List.length_map]; omega)), push_set, List.map_append] <;> rfl
theorem ext_off {μ : Mu} {acc B : List Off} {m : MA} {ρ : Rho} {i : Nat} (hρ : ρ[i]? = some (some (.mr μ.length))) (hm : m ρ (μ ++ [.lst (acc.map eO)]) = .ok [.lst (B.map eO)] (μ ++ [.lst (acc.map eO)])) (hl : acc.length + B.length ≤ 1000000) : mLm gExt (mVar i) m ρ (μ ++ [.lst (acc.map eO)]) = .ok .non (μ ++ [.lst ((acc ++ B).map eO)]) := by
  unfold mLm
  rw [r_var, hρ]
  simp only [Out.bind_ok, isStL, push_get, if_true, hm, gExt, asTr]
  rw [if_pos (few_of (by rw [List.length_append, List.length_map, List.length_map]; omega)), push_set, List.map_append] <;> rfl
/-! ### paid -/
theorem flat1 (f : Off → Off) : ∀ A : List Off, (A.flatMap fun o => [f o]) = A.map f
  | [] => rfl
  | a :: A => by rw [List.flatMap_cons, List.map_cons, flat1 f A] <;> rfl
def payO (c p : Int) (o : Off) : Off := (maxI c (c - p + o.1), o.2.map fun l => c - p + l)
theorem s_paid {x : T} {A : List Off} {μ : Mu} (co p : Int) (hA : IsA x A) (c : Calm μ) (h1 : A.length ≤ 1000) :
    g_paid [x, .int co, .int p] μ = .ok (.tup ((stairOf (A.map (payO co p))).map eO)) μ := by
  refine fn_made (ν := [.lst ((A.map (payO co p)).map eO)]) rfl c ?_ (calm_push (ν := [.lst ((A.map (payO co p)).map eO)])) (by simp)
  show endO (m_paid [some x, some (.int co), some (.int p), none, none, none] μ) = _
  have hfl := flat1 (payO co p) A
  obtain ⟨x', y', hl⟩ := loop_gather (e := eO) (out := fun o => [payO co p o]) (g := gTp 2 (gsCons (gNm 4) (gsCons (gNm 5) gsNil))) (mb := mDrop (mLm gApp (mVar 3) (mCons (mCl gTup (mCons (mCl gMax (mCons (mVar 1) (mCons (mOp (gAdd fzT) (mOp gSub (mVar 1) (mVar 2)) (mVar 4)) mNil))) (mCons (mIf (mTst (mOp gIs (mVar 5) (mC .non))) (mC .non) (mOp (gAdd fzT) (mOp gSub (mVar 1) (mVar 2)) (mVar 5))) mNil))) mNil)))
    (R := fun u v => [some x, some (.int co), some (.int p), some (.mr μ.length), u, v]) (μ := μ) A [] none none (fun o _ u v acc ha => ⟨some (.int o.1), some (eL o.2), _, rfl, by
      rw [r_drop, app_off (o := payO co p o) rfl (by obtain ⟨n, l⟩ := o; cases l <;> rfl) (by rw [List.length_singleton] at ha; omega)] <;> rfl⟩) (by rw [hfl, List.length_map]; simp; omega)
  rw [hfl] at hl
  simp only [List.map_nil, List.nil_append] at hl
  unfold m_paid
  simp only [r_seq, r_set, r_cl, r_nil, Out.bind_ok, r_lstMG, show few ([] : List T) = true from rfl, if_true, List.set_cons_succ, List.set_cons_zero, r_seq_nx, r_for, r_itS, r_var, List.getElem?_cons_zero, hA.it]
  rw [hl]
  simp only [r_seq_nx, r_ret, r_call, r_cons, r_nil, r_var, List.getElem?_cons_succ, List.getElem?_cons_zero, Out.bind_ok, List.append_nil, List.nil_append]
  rw [s_stairM c (by rw [List.length_map]; omega)]
  rfl
end Mr

namespace Mr
open PySem PySem.Spec PyProof.Rows L2

/-! ### through -/
def thrO (B : List Off) (o : Off) : List Off := match o.2 with
  | none => [(o.1, none)]
  | some l => B.map fun b => (maxI o.1 (l + b.1), summedL (some l) b.2)
theorem thrO_len (B : List Off) (o : Off) : (thrO B o).length ≤ B.length + 1 := by
  obtain ⟨n, l⟩ := o
  cases l
  · simp [thrO]
  · simp [thrO]
theorem thr_len (A B : List Off) : (A.flatMap (thrO B)).length ≤ A.length * (B.length + 1) := by
  induction A with
  | nil => simp
  | cons a A ih =>
    rw [List.flatMap_cons, List.length_append, List.length_cons, Nat.succ_mul]
    have := thrO_len B a
    omega
theorem thr_step {x y : T} {B : List Off} {μ : Mu} (hB : IsA y B) (h2 : B.length ≤ 100) (o : Off) (u v : Option T) (acc : List Off) (ha : acc.length + (thrO B o).length ≤ 100000) : ∃ x' y' ρ1, gTp 2 (gsCons (gNm 3) (gsCons (gNm 4) gsNil)) (eO o) [some x, some y, some (.mr μ.length), u, v, none, none] (μ ++ [.lst (acc.map eO)]) = .ok ρ1 (μ ++ [.lst (acc.map eO)]) ∧
    (mIfS (mTst (mOp gIs (mVar 4) (mC .non)))
      (mDrop (mLm gApp (mVar 2) (mCons (mCl gTup (mCons (mVar 3) (mCons (mC .non) mNil))) mNil)))
      (mDrop (mLm gExt (mVar 2) (mCons (mFin fzT (mLc [5, 6] (mItS (mVar 1)) (gTp 2 (gsCons (gNm 5) (gsCons (gNm 6) gsNil))) mYes (mCl gTup (mCons (mCl gMax (mCons (mVar 3) (mCons (mOp (gAdd fzT) (mVar 4) (mVar 5)) mNil))) (mCons (mCall g_summed [] (mCons (mVar 4) (mCons (mVar 6) mNil))) mNil))))) mNil))) ρ1 (μ ++ [.lst (acc.map eO)]) : Out Flo) = .ok (.nx [some x, some y, some (.mr μ.length), x', y', none, none]) (μ ++ [.lst ((acc ++ thrO B o).map eO)]) := by
  refine ⟨some (.int o.1), some (eL o.2), _, rfl, ?_⟩
  obtain ⟨n, l⟩ := o
  show mIfS _ _ _ [some x, some y, some (.mr μ.length), some (.int n), some (eL l), none, none] _ = _
  cases l with
  | none =>
    show mDrop (mLm gApp (mVar 2) _) [some x, some y, some (.mr μ.length), some (.int n), some .non, none, none] _ = _
    have hl1 : (thrO B (n, none)).length = 1 := rfl
    rw [r_drop, app_off (o := (n, none)) rfl rfl (by omega)] <;> rfl
  | some l =>
    show mDrop (mLm gExt (mVar 2) _) [some x, some y, some (.mr μ.length), some (.int n), some (.int l), none, none] _ = _
    have hb : (thrO B (n, some l)).length = B.length := by simp [thrO]
    have hc : compM (gTp 2 (gsCons (gNm 5) (gsCons (gNm 6) gsNil))) mYes (mCl gTup (mCons (mCl gMax (mCons (mVar 3) (mCons (mOp (gAdd fzT) (mVar 4) (mVar 5)) mNil))) (mCons (mCall g_summed [] (mCons (mVar 4) (mCons (mVar 6) mNil))) mNil)))
        [some x, some y, some (.mr μ.length), some (.int n), some (.int l), none, none] (B.map eO) (μ ++ [.lst (acc.map eO)]) = .ok ((thrO B (n, some l)).map eO) (μ ++ [.lst (acc.map eO)]) := by
      show _ = Out.ok ((B.map fun b : Off => (maxI n (l + b.1), summedL (some l) b.2)).map eO) _
      rw [List.map_map]
      refine comp_map eO _ B fun b _ => ⟨_, rfl, rfl, ?_⟩
      show mCl gTup _ [some x, some y, some (.mr μ.length), some (.int n), some (.int l), some (.int b.1), some (eL b.2)] _ = _
      have hs := s_summed (some l) b.2 (μ ++ [.lst (acc.map eO)])
      simp only [r_cl, r_cons, r_var, r_nil, r_call, r_op, List.getElem?_cons_succ, List.getElem?_cons_zero, Out.bind_ok, List.append_nil, gAdd, gMax]
      have hs' : g_summed [.int l, eL b.2] (μ ++ [.lst (acc.map eO)]) = .ok (eL (summedL (some l) b.2)) (μ ++ [.lst (acc.map eO)]) := hs
      rw [hs']
      rfl
    rw [r_drop, ext_off (B := thrO B (n, some l)) rfl ?_ (by omega)]
    · rfl
    · simp only [r_cons, r_fin, r_lc, r_itS, r_var, List.getElem?_cons_succ, List.getElem?_cons_zero, Out.bind_ok, hB.it, few_map (e := eO) (xs := B) (by omega), if_true, wipeR, List.set_cons_succ, List.set_cons_zero, hc, r_fz, r_nil]
theorem s_through {x y : T} {A B : List Off} {μ : Mu} (hA : IsA x A) (hB : IsA y B) (c : Calm μ) (h1 : A.length ≤ 100) (h2 : B.length ≤ 100) :
    g_through [x, y] μ = .ok (.tup ((stairOf (A.flatMap (thrO B))).map eO)) μ := by
  have hlen : (A.flatMap (thrO B)).length ≤ 100000 := Nat.le_trans (thr_len A B) (Nat.le_trans (Nat.mul_le_mul h1 (Nat.succ_le_succ h2)) (by decide))
  refine fn_made (ν := [.lst ((A.flatMap (thrO B)).map eO)]) rfl c ?_ (calm_push (ν := [.lst ((A.flatMap (thrO B)).map eO)])) (by simp)
  show endO (m_through [some x, some y, none, none, none, none, none] μ) = _
  have step := thr_step (x := x) (μ := μ) hB h2
  obtain ⟨x', y', hl⟩ := loop_gather (e := eO) (out := thrO B) (g := gTp 2 (gsCons (gNm 3) (gsCons (gNm 4) gsNil))) (mb := (mIfS (mTst (mOp gIs (mVar 4) (mC .non)))
    (mDrop (mLm gApp (mVar 2) (mCons (mCl gTup (mCons (mVar 3) (mCons (mC .non) mNil))) mNil)))
    (mDrop (mLm gExt (mVar 2) (mCons (mFin fzT (mLc [5, 6] (mItS (mVar 1)) (gTp 2 (gsCons (gNm 5) (gsCons (gNm 6) gsNil))) mYes (mCl gTup (mCons (mCl gMax (mCons (mVar 3) (mCons (mOp (gAdd fzT) (mVar 4) (mVar 5)) mNil))) (mCons (mCall g_summed [] (mCons (mVar 4) (mCons (mVar 6) mNil))) mNil))))) mNil)))))
    (R := fun u v => [some x, some y, some (.mr μ.length), u, v, none, none]) (μ := μ) A [] none none (fun o _ u v acc ha => step o u v acc ha) (by rw [List.length_nil, Nat.zero_add]; exact hlen)
  simp only [List.map_nil, List.nil_append] at hl
  unfold m_through
  simp only [r_seq, r_set, r_cl, r_nil, Out.bind_ok, r_lstMG, show few ([] : List T) = true from rfl, if_true, List.set_cons_succ, List.set_cons_zero, r_seq_nx, r_for, r_itS, r_var, List.getElem?_cons_zero, hA.it]
  rw [hl]
  simp only [r_seq_nx, r_ret, r_call, r_cons, r_nil, r_var, List.getElem?_cons_succ, List.getElem?_cons_zero, Out.bind_ok, List.append_nil, List.nil_append]
  rw [s_stairM c (by omega)]
  rfl
/-! ### cut -/
def cutO (m : Int) (o : Off) : Off := (o.1, o.2.map fun l => maxI l (0 - m))
def cutL (m : Int) (A : List Off) : List Off := A.flatMap fun o => if o.1 ≤ m then [cutO m o] else []
theorem cut_len (m : Int) (A : List Off) : (cutL m A).length ≤ A.length := by
  unfold cutL
  induction A with
  | nil => simp
  | cons a A ih =>
    rw [List.flatMap_cons, List.length_append, List.length_cons]
    have hk : (if a.1 ≤ m then [cutO m a] else []).length ≤ 1 := by split <;> simp
    omega
theorem cut_step {x : T} {m : Int} {μ : Mu} (o : Off) (u v : Option T) (acc : List Off) (ha : acc.length + (if o.1 ≤ m then [cutO m o] else []).length ≤ 100000) : ∃ x' y' ρ1, gTp 2 (gsCons (gNm 3) (gsCons (gNm 4) gsNil)) (eO o) [some x, some (.int m), some (.mr μ.length), u, v] (μ ++ [.lst (acc.map eO)]) = .ok ρ1 (μ ++ [.lst (acc.map eO)]) ∧
    (mIfS (mTst (mOp gLe (mVar 3) (mVar 1)))
      (mDrop (mLm gApp (mVar 2) (mCons (mCl gTup (mCons (mVar 3) (mCons (mIf (mTst (mOp gIs (mVar 4) (mC .non))) (mC .non) (mCl gMax (mCons (mVar 4) (mCons (mOp gSub (mC (.int 0)) (mVar 1)) mNil)))) mNil))) mNil)))
      mNext ρ1 (μ ++ [.lst (acc.map eO)]) : Out Flo) = .ok (.nx [some x, some (.int m), some (.mr μ.length), x', y']) (μ ++ [.lst ((acc ++ if o.1 ≤ m then [cutO m o] else []).map eO)]) := by
  refine ⟨some (.int o.1), some (eL o.2), _, rfl, ?_⟩
  show mIfS _ _ _ [some x, some (.int m), some (.mr μ.length), some (.int o.1), some (eL o.2)] _ = _
  have ht : mTst (mOp gLe (mVar 3) (mVar 1)) [some x, some (.int m), some (.mr μ.length), some (.int o.1), some (eL o.2)] (μ ++ [.lst (acc.map eO)]) = .ok (decide (o.1 ≤ m)) (μ ++ [.lst (acc.map eO)]) := rfl
  rw [r_ifS, ht]
  simp only [Out.bind_ok]
  by_cases hle : o.1 ≤ m
  · rw [decide_eq_true hle, if_pos rfl, if_pos hle, r_drop, app_off (o := cutO m o) rfl (by obtain ⟨n, l⟩ := o; cases l <;> rfl) (by rw [if_pos hle] at ha; rw [List.length_singleton] at ha; omega)] <;> rfl
  · rw [decide_eq_false hle, if_neg Bool.false_ne_true, if_neg hle, List.append_nil] <;> rfl
theorem s_cut {x : T} {A : List Off} {μ : Mu} (m : Int) (hA : IsA x A) (c : Calm μ) (h1 : A.length ≤ 1000) :
    g_cut [x, .int m] μ = .ok (.tup ((stairOf (cutL m A)).map eO)) μ := by
  have hlen : (cutL m A).length ≤ 100000 := Nat.le_trans (cut_len m A) (by omega)
  refine fn_made (ν := [.lst ((cutL m A).map eO)]) rfl c ?_ (calm_push (ν := [.lst ((cutL m A).map eO)])) (by simp)
  show endO (m_cut [some x, some (.int m), none, none, none] μ) = _
  obtain ⟨x', y', hl⟩ := loop_gather (e := eO) (out := fun o => if o.1 ≤ m then [cutO m o] else []) (g := gTp 2 (gsCons (gNm 3) (gsCons (gNm 4) gsNil))) (mb := (mIfS (mTst (mOp gLe (mVar 3) (mVar 1)))
    (mDrop (mLm gApp (mVar 2) (mCons (mCl gTup (mCons (mVar 3) (mCons (mIf (mTst (mOp gIs (mVar 4) (mC .non))) (mC .non) (mCl gMax (mCons (mVar 4) (mCons (mOp gSub (mC (.int 0)) (mVar 1)) mNil)))) mNil))) mNil)))
    mNext))
    (R := fun u v => [some x, some (.int m), some (.mr μ.length), u, v]) (μ := μ) A [] none none (fun o _ u v acc ha => cut_step o u v acc ha) (by rw [List.length_nil, Nat.zero_add]; exact hlen)
  simp only [List.map_nil, List.nil_append] at hl
  unfold m_cut
  simp only [r_seq, r_set, r_cl, r_nil, Out.bind_ok, r_lstMG, show few ([] : List T) = true from rfl, if_true, List.set_cons_succ, List.set_cons_zero, r_seq_nx, r_for, r_itS, r_var, List.getElem?_cons_zero, hA.it]
  rw [hl]
  simp only [r_seq_nx, r_ret, r_call, r_cons, r_nil, r_var, List.getElem?_cons_succ, List.getElem?_cons_zero, Out.bind_ok, List.append_nil, List.nil_append]
  have e : (A.flatMap fun o => if o.1 ≤ m then [cutO m o] else []) = cutL m A := rfl
  rw [e, s_stairM c (by omega)]
  rfl
/-! ### is_below -/
def belowB (A B : List Off) : Bool := B.all fun b => A.any fun a => decide (a.1 ≤ b.1) && isWorse b.2 a.2
theorem below_iff {A B : List Off} : belowB A B = true ↔ Dom A B := by
  unfold belowB Dom
  rw [List.all_eq_true]
  constructor
  · intro h b hb
    obtain ⟨a, ha, h2⟩ := List.any_eq_true.mp (h b hb)
    rw [Bool.and_eq_true, decide_eq_true_eq, isWorse_iff] at h2
    exact ⟨a, ha, h2⟩
  · intro h b hb
    obtain ⟨a, ha, h2⟩ := h b hb
    exact List.any_eq_true.mpr ⟨a, ha, by rw [Bool.and_eq_true, decide_eq_true_eq, isWorse_iff]; exact h2⟩
theorem asBls_map : ∀ bs : List Bool, asBls (bs.map T.bl) = some bs
  | [] => rfl
  | b :: bs => by
    rw [List.map_cons]
    unfold asBls
    rw [asBls_map bs]
def bwBody : MS := (mIfS (mNot (mTru (mCl gAny (mCons (mFin fzT (mLc [4, 5] (mItS (mVar 0)) (gTp 2 (gsCons (gNm 4) (gsCons (gNm 5) gsNil))) mYes (mAndV (mOp gLe (mVar 4) (mVar 2)) (mCall g_is_worse [] (mCons (mVar 3) (mCons (mVar 5) mNil)))))) mNil))))
  (mRet (mC (.bl false)))
  mNext)
theorem bw_body {x y : T} {A : List Off} {μ : Mu} (hA : IsA x A) (h1 : A.length ≤ 1000) (b : Off) : bwBody [some x, some y, some (.int b.1), some (eL b.2), none, none] μ =
    if (A.any fun a => decide (a.1 ≤ b.1) && isWorse b.2 a.2) = true then .ok (.nx [some x, some y, some (.int b.1), some (eL b.2), none, none]) μ else .ok (.rt (.bl false)) μ := by
  have hc : compM (gTp 2 (gsCons (gNm 4) (gsCons (gNm 5) gsNil))) mYes (mAndV (mOp gLe (mVar 4) (mVar 2)) (mCall g_is_worse [] (mCons (mVar 3) (mCons (mVar 5) mNil)))) [some x, some y, some (.int b.1), some (eL b.2), none, none] (A.map eO) μ = .ok ((A.map fun a => decide (a.1 ≤ b.1) && isWorse b.2 a.2).map T.bl) μ := by
    rw [List.map_map]
    refine comp_map eO _ A fun a _ => ⟨_, rfl, rfl, ?_⟩
    show mAndV _ _ [some x, some y, some (.int b.1), some (eL b.2), some (.int a.1), some (eL a.2)] μ = _
    have h0 : mOp gLe (mVar 4) (mVar 2) [some x, some y, some (.int b.1), some (eL b.2), some (.int a.1), some (eL a.2)] μ = .ok (.bl (decide (a.1 ≤ b.1))) μ := rfl
    rw [r_andV, h0]
    simp only [Out.bind_ok, truT]
    by_cases hle : a.1 ≤ b.1
    · simp only [decide_eq_true hle, r_call, r_cons, r_var, r_nil, List.getElem?_cons_succ, List.getElem?_cons_zero, Out.bind_ok, List.append_nil, s_is_worse, Function.comp, Bool.true_and]
    · simp only [decide_eq_false hle, Function.comp, Bool.false_and]
  unfold bwBody
  simp only [r_ifS, r_not, r_tru, r_cl, r_cons, r_nil, r_fin, r_lc, r_itS, r_var, List.getElem?_cons_zero, Out.bind_ok, hA.it, few_map (e := eO) (xs := A) (by omega), if_true, wipeR, List.set_cons_succ, List.set_cons_zero, hc, r_fz, gAny, asLst, asBls_map, tru, truT]
  rw [List.any_map]
  show (if (!(A.any fun a => decide (a.1 ≤ b.1) && isWorse b.2 a.2)) = true then _ else _) = _
  cases A.any fun a => decide (a.1 ≤ b.1) && isWorse b.2 a.2 <;> rfl
theorem bw_loop {x y : T} {A : List Off} {μ : Mu} (hA : IsA x A) (h1 : A.length ≤ 1000) : ∀ (B : List Off) (u v : Option T), ∃ u' v', loopM (gTp 2 (gsCons (gNm 2) (gsCons (gNm 3) gsNil))) bwBody (B.map eO) [some x, some y, u, v, none, none] μ =
    if belowB A B = true then .ok (.nx [some x, some y, u', v', none, none]) μ else .ok (.rt (.bl false)) μ
  | [], u, v => ⟨u, v, rfl⟩
  | b :: B, u, v => by
    obtain ⟨u', v', ih⟩ := bw_loop hA h1 B (some (.int b.1)) (some (eL b.2))
    refine ⟨u', v', ?_⟩
    rw [List.map_cons]
    unfold loopM
    rw [tp2 gsNil]
    simp only [Out.bind_ok]
    show stepO (bwBody [some x, some y, some (.int b.1), some (eL b.2), none, none] μ) _ = _
    rw [bw_body hA h1]
    have e : belowB A (b :: B) = ((A.any fun a => decide (a.1 ≤ b.1) && isWorse b.2 a.2) && belowB A B) := by
      unfold belowB
      rw [List.all_cons]
    rw [e]
    cases A.any fun a => decide (a.1 ≤ b.1) && isWorse b.2 a.2 with
    | true =>
      rw [if_pos rfl, Bool.true_and]
      exact ih
    | false =>
      rw [if_neg Bool.false_ne_true, Bool.false_and, if_neg Bool.false_ne_true] <;> rfl
theorem s_is_below {x y : T} {A B : List Off} {μ : Mu} (hA : IsA x A) (hB : IsA y B) (h1 : A.length ≤ 1000) : g_is_below [x, y] μ = .ok (.bl (belowB A B)) μ := by
  refine fn_same' rfl ?_
  show endO (m_is_below [some x, some y, none, none, none, none] μ) = _
  obtain ⟨u', v', hl⟩ := bw_loop (x := x) (y := y) (μ := μ) hA h1 B none none
  have hl' : mFor (mItS (mVar 1)) (gTp 2 (gsCons (gNm 2) (gsCons (gNm 3) gsNil))) bwBody [some x, some y, none, none, none, none] μ = if belowB A B = true then .ok (.nx [some x, some y, u', v', none, none]) μ else .ok (.rt (.bl false)) μ := by
    simp only [r_for, r_itS, r_var, List.getElem?_cons_succ, List.getElem?_cons_zero, Out.bind_ok, hB.it]
    exact hl
  show endO (seqO (mFor (mItS (mVar 1)) (gTp 2 (gsCons (gNm 2) (gsCons (gNm 3) gsNil))) bwBody [some x, some y, none, none, none, none] μ) (mRet (mC (.bl true)))) = _
  rw [hl']
  cases belowB A B <;> rfl
end Mr

namespace Mr
open PySem PySem.Spec PyProof.Rows L2

/-! ### is_offer, is_stair -/
/-- an offer as a tuple or (true) as a list -/
def eB (x : Off × Bool) : T := if x.2 = true then .lst [.int x.1.1, eL x.1.2] else .tup [.int x.1.1, eL x.1.2]
theorem eB_tup (o : Off) : eB (o, false) = eO o := rfl
def goodB (o : Off) : Bool := decide (0 ≤ o.1) && match o.2 with
  | none => true
  | some l => decide (l ≤ o.1)
theorem listed_tup (ts : List T) (μ : Mu) : g_is_listed [.tup ts] μ = .ok (.bl true) μ := fn_same' rfl (by rfl)
theorem listed_lst (ts : List T) (μ : Mu) : g_is_listed [.lst ts] μ = .ok (.bl true) μ := fn_same' rfl (by rfl)
theorem integer_int (i : Int) (μ : Mu) : g_is_integer [.int i] μ = .ok (.bl true) μ := fn_same' rfl (by rfl)
theorem eqM_int (i j : Int) (μ : Mu) : eqM μ (.int i) (.int j) = some (decide (i = j)) := by
  have h : ∀ i : Int, SeqAt.shaped (.int i) = true := fun i => rfl
  show (if (SeqAt.shaped (.int i) && SeqAt.shaped (.int j)) = true then some (PyData.eqv (.int i) (.int j)) else none) = _
  rw [h, h]
  simp [PyData.eqv, beq_dec]
theorem s_is_offer (x : Off × Bool) (μ : Mu) : g_is_offer [eB x] μ = .ok (.bl (goodB x.1)) μ := by
  refine fn_same' rfl ?_
  obtain ⟨⟨n, l⟩, b⟩ := x
  show endO (m_is_offer [some (eB ((n, l), b))] μ) = _
  have hl : g_is_listed [eB ((n, l), b)] μ = .ok (.bl true) μ := by
    cases b
    · exact listed_tup _ _
    · exact listed_lst _ _
  have hlen : gLen [eB ((n, l), b)] μ = .ok (.int 2) μ := by cases b <;> rfl
  have h0 : gIx (eB ((n, l), b)) (.int 0) μ = .ok (.int n) μ := by cases b <;> rfl
  have h1 : gIx (eB ((n, l), b)) (.int 1) μ = .ok (eL l) μ := by cases b <;> rfl
  unfold m_is_offer
  simp only [r_seq, r_ifS, r_or, r_not, r_tru, r_call, r_cons, r_var, r_nil, r_tst, r_op, r_cl, r_c, List.getElem?_cons_zero, Out.bind_ok, List.append_nil, hl, tru, truT, Bool.not_true, Bool.false_eq_true, if_false, hlen, gNe, eqM_int, h0, integer_int, gLt, gI0, decide_true]
  by_cases hn : n < 0
  · have hg : goodB (n, l) = false := by
      unfold goodB
      rw [decide_eq_false (by show ¬ (0 ≤ n); omega), Bool.false_and]
    simp only [decide_eq_true hn, if_true, r_ret, r_c, Out.bind_ok, r_seq_rt, endO, hg]
  · have hd : decide (0 ≤ n) = true := decide_eq_true (by omega)
    simp only [decide_eq_false hn, Bool.false_eq_true, if_false, r_next, r_seq_nx, r_ret, r_orV, r_op, r_var, r_c, List.getElem?_cons_zero, Out.bind_ok, h1]
    cases l with
    | none =>
      have hg : goodB (n, none) = true := by
        unfold goodB
        rw [hd] <;> rfl
      rw [hg] <;> rfl
    | some l =>
      have hg : goodB (n, some l) = decide (l ≤ n) := by
        unfold goodB
        rw [hd, Bool.true_and]
      have hi : gIs (eL (some l)) .non μ = .ok (.bl false) μ := rfl
      simp only [hi, Out.bind_ok, truT, r_andV, r_call, r_cons, r_op, r_var, r_c, r_nil, List.getElem?_cons_zero, h1, h0, List.append_nil, hg]
      have hii : g_is_integer [eL (some l)] μ = .ok (.bl true) μ := integer_int l μ
      rw [hii]
      simp only [Out.bind_ok, h1, h0]
      rfl
def IsB (t : T) (xs : List (Off × Bool)) : Prop := t = .lst (xs.map eB) ∨ t = .tup (xs.map eB)
theorem IsA.b {t : T} {A : List Off} (h : IsA t A) : IsB t (A.map fun o => (o, false)) := by
  have e : (A.map fun o => (o, false)).map eB = A.map eO := by
    rw [List.map_map] <;> rfl
  rcases h with rfl | rfl
  · exact .inl (by rw [e])
  · exact .inr (by rw [e])
theorem s_is_stair {t : T} {xs : List (Off × Bool)} {μ : Mu} (hx : IsB t xs) (c : Calm μ) (h : xs.length ≤ 100000) (hg : ∀ x ∈ xs, goodB x.1 = true) : g_is_stair [t] μ = .ok (.bl (decide (stairOf (xs.map (·.1)) = xs.map (·.1)))) μ := by
  refine fn_same' rfl ?_
  show endO (m_is_stair [some t, none] μ) = _
  have hl : g_is_listed [t] μ = .ok (.bl true) μ := by
    rcases hx with rfl | rfl
    · exact listed_lst _ _
    · exact listed_tup _ _
  have hit : itS t μ = .ok (xs.map eB) μ := by rcases hx with rfl | rfl <;> rfl
  have c1 : compM (gNm 1) mYes (mCall g_is_offer [] (mCons (mVar 1) mNil)) [some t, none] (xs.map eB) μ = .ok ((xs.map fun _ => true).map T.bl) μ := by
    rw [List.map_map]
    refine comp_map eB _ xs fun x hxm => ⟨_, rfl, rfl, ?_⟩
    show mCall g_is_offer [] _ [some t, some (eB x)] μ = _
    simp only [r_call, r_cons, r_var, r_nil, List.getElem?_cons_succ, List.getElem?_cons_zero, Out.bind_ok, List.append_nil, s_is_offer, hg x hxm, Function.comp]
  have c2 : compM (gNm 1) mYes (mCl gTupOf (mCons (mVar 1) mNil)) [some t, none] (xs.map eB) μ = .ok ((xs.map (·.1)).map eO) μ := by
    rw [List.map_map]
    refine comp_map eB _ xs fun x _ => ⟨_, rfl, rfl, ?_⟩
    obtain ⟨⟨n, l⟩, b⟩ := x
    cases b <;> rfl
  have hall : ((xs.map fun _ => true).all id) = true := by
    rw [List.all_map, List.all_eq_true]
    intro x _
    rfl
  have hs := s_stair_of (t := .lst ((xs.map (·.1)).map eO)) (.inl rfl) c (by rw [List.length_map]; omega)
  unfold m_is_stair
  simp only [r_seq, r_ifS, r_or, r_not, r_tru, r_call, r_cons, r_var, r_nil, r_tst, r_op, r_cl, r_c, r_fin, r_lc, r_itS, List.getElem?_cons_zero, Out.bind_ok, List.append_nil, hl, tru, truT, Bool.not_true, Bool.false_eq_true, if_false, hit, few_map (e := eB) (xs := xs) (by omega), if_true, wipeR, List.set_cons_succ, List.set_cons_zero, c1, c2, r_fz, gAll, asLst, asBls_map, hall, r_next, r_seq_nx, r_ret, hs, gTupOf, gEq, eq_tup (py_tupA _ _) (py_tupA _ _), endO]
end Mr

namespace Mr
open PySem PySem.Spec PyProof.Rows L2

/-! ### the store of the law: its table, the pen -/
def stk (Pt : Addr) (cells : List Int) (a r : Int) : Mu := [.tab Pt (lamQ "law"), penO cells a r]
theorem frzO_pen (cells : List Int) (a r : Int) (M : Mu) (n : Nat) : frzO M n (penO cells a r) = some (penO cells a r) := by
  have h : mapO (frzT M n 63) (cells.map T.int) = some (cells.map T.int) := mapO_maps (f := frzT M n 63) (e := T.int) (d := T.int) (fun i => rfl) cells
  have h2 : frzT M n 64 (.lst (cells.map T.int)) = some (.lst (cells.map T.int)) := by
    show (match mapO (frzT M n 63) (cells.map T.int) with
      | some us => some (T.lst us)
      | none => none) = _
    rw [h]
  have h3 : mapO (frzT M n 64) [.lst (cells.map T.int), .int a, .int r] = some [.lst (cells.map T.int), .int a, .int r] := by
    unfold mapO
    rw [h2] <;> rfl
  show (mapO (frzT M n 64) [.lst (cells.map T.int), .int a, .int r]).map MO.lst = _
  rw [h3] <;> rfl
theorem calm_stk (Pt : Addr) (cells : List Int) (a r : Int) : Calm (stk Pt cells a r) := by
  have c0 : Calm [.tab Pt (lamQ "law")] := fun ν n _ => rfl
  exact c0.push (frzO_pen cells a r)
/-- a draw -/
theorem s_draw {μ : Mu} {cells : List Int} {a r many : Int} (hp : μ[1]? = some (penO cells a r)) (h0 : 0 ≤ a) (h1 : a < 1048576) (hr : 0 ≤ r) (m0 : 2 ≤ many) (m1 : many < 1073741824) :
    ∃ d a' r', 0 ≤ d ∧ d < many ∧ a ≤ a' ∧ a' ≤ a + 1 ∧ 0 ≤ r' ∧ g__law_draw [.mr 1, .int many] μ = .ok (.int d) (μ.set 1 (penO cells a' r')) := by
  obtain ⟨d, a', r', e1, e2, e3, e4, e5, e6⟩ := draw_ok (k1 := 71181) (k2 := 9131) (k3 := 33303) (k4 := 6211) hp h0 h1 hr m0 m1 (by omega) (by omega) (by omega) (by omega)
  exact ⟨d, a', r', e1, e2, e3, e4, e5, fn_len rfl e6 (List.length_set ..)⟩
/-- a pick of a row -/
theorem s_pick {μ : Mu} {cells : List Int} {a r : Int} {ts : List T} (hp : μ[1]? = some (penO cells a r)) (h0 : 0 ≤ a) (h1 : a < 1048576) (hr : 0 ≤ r) (m0 : 2 ≤ ts.length) (m1 : ts.length < 1000) :
    ∃ (j : Nat) (t : T) (a' r' : Int), ts[j]? = some t ∧ a ≤ a' ∧ a' ≤ a + 1 ∧ 0 ≤ r' ∧ g__law_pick [.mr 1, .lst ts] μ = .ok t (μ.set 1 (penO cells a' r')) := by
  obtain ⟨d, a', r', e1, e2, e3, e4, e5, e6⟩ := s_draw (many := (ts.length : Int)) hp h0 h1 hr (by omega) (by omega)
  obtain ⟨j, rfl⟩ : ∃ j : Nat, d = (j : Int) := ⟨d.toNat, by omega⟩
  have hj : j < ts.length := by omega
  refine ⟨j, ts[j], a', r', List.getElem?_eq_getElem hj, e3, e4, e5, fn_len rfl ?_ (List.length_set ..)⟩
  show endO (m__law_pick [some (.mr 1), some (.lst ts)] μ) = _
  have hl : gLen [.lst ts] μ = .ok (.int (ts.length : Int)) μ := rfl
  have hx : gIx (.lst ts) (.int (j : Int)) (μ.set 1 (penO cells a' r')) = .ok ts[j] (μ.set 1 (penO cells a' r')) := ix_seq' (ts := ts) rfl (atI_nat (List.getElem?_eq_getElem hj))
  unfold m__law_pick
  simp only [r_ret, r_op, r_call, r_cons, r_cl, r_var, r_nil, List.getElem?_cons_zero, List.getElem?_cons_succ, Out.bind_ok, hl, List.append_nil, e6, hx, endO]
/-- a drawn offer -/
def OffB (o : Off) : Prop := 0 ≤ o.1 ∧ o.1 ≤ 11 ∧ match o.2 with
  | none => True
  | some l => l ≤ o.1 ∧ -8 ≤ l
def stk3 (Pt : Addr) (cells : List Int) (a r : Int) (acc : List Off) : Mu := [.tab Pt (lamQ "law"), penO cells a r, .lst (acc.map eO)]
def offRow (n d1 d2 : Int) : List T := [.non, .int n, .int (n - d1), .int (0 - d2)]
theorem offRow_get {n d1 d2 : Int} {j : Nat} {t : T} (h : (offRow n d1 d2)[j]? = some t) (hn : 0 ≤ n ∧ n ≤ 11) (h1 : 0 ≤ d1 ∧ d1 < 9) (h2 : 0 ≤ d2 ∧ d2 < 6) : ∃ l : Option Int, t = eL l ∧ OffB (n, l) := by
  match j, h with
  | 0, h => cases h; exact ⟨none, rfl, hn.1, hn.2, trivial⟩
  | 1, h => cases h; exact ⟨some n, rfl, hn.1, hn.2, by show n ≤ n ∧ _; omega⟩
  | 2, h => cases h; exact ⟨some (n - d1), rfl, hn.1, hn.2, by show n - d1 ≤ n ∧ _; omega⟩
  | 3, h => cases h; exact ⟨some (0 - d2), rfl, hn.1, hn.2, by show 0 - d2 ≤ n ∧ _; omega⟩
  | j + 4, h => simp [offRow] at h
def ofBody : MS := (mSeq (mSet 4 (mCall g__law_draw [] (mCons (mVar 0) (mCons (mC (.int 12)) mNil))))
  (mDrop (mLm gApp (mVar 2) (mCons (mCl gTup (mCons (mVar 4) (mCons (mCall g__law_pick [] (mCons (mVar 0) (mCons (mCl gLst (mCons (mC .non) (mCons (mVar 4) (mCons (mOp gSub (mVar 4) (mCall g__law_draw [] (mCons (mVar 0) (mCons (mC (.int 9)) mNil)))) (mCons (mOp gSub (mC (.int 0)) (mCall g__law_draw [] (mCons (mVar 0) (mCons (mC (.int 6)) mNil)))) mNil))))) mNil))) mNil))) mNil))))
theorem of_body {Pt : Addr} {cells : List Int} {a r m : Int} {acc : List Off} {x y : Option T} (h0 : 0 ≤ a) (h1 : a < 1000000) (hr : 0 ≤ r) (hl : acc.length < 100) :
    ∃ (o : Off) (a' r' : Int), OffB o ∧ a ≤ a' ∧ a' ≤ a + 4 ∧ 0 ≤ r' ∧ ∃ y', ofBody [some (.mr 1), some (.int m), some (.mr 2), x, y] (stk3 Pt cells a r acc) = .ok (.nx [some (.mr 1), some (.int m), some (.mr 2), x, y']) (stk3 Pt cells a' r' (acc ++ [o])) := by
  obtain ⟨n, a1, r1, e1, e2, e3, e4, e5, e6⟩ := s_draw (μ := stk3 Pt cells a r acc) (many := 12) rfl h0 (by omega) hr (by omega) (by omega)
  obtain ⟨d1, a2, r2, f1, f2, f3, f4, f5, f6⟩ := s_draw (μ := stk3 Pt cells a1 r1 acc) (many := 9) rfl (by omega) (by omega) e5 (by omega) (by omega)
  obtain ⟨d2, a3, r3, k1, k2, k3, k4, k5, k6⟩ := s_draw (μ := stk3 Pt cells a2 r2 acc) (many := 6) rfl (by omega) (by omega) f5 (by omega) (by omega)
  obtain ⟨j, t, a4, r4, p1, p2, p3, p4, p5⟩ := s_pick (μ := stk3 Pt cells a3 r3 acc) (ts := offRow n d1 d2) rfl (by omega) (by omega) k5 (by simp [offRow]) (by simp [offRow])
  obtain ⟨l, rfl, hb⟩ := offRow_get p1 ⟨e1, by omega⟩ ⟨f1, f2⟩ ⟨k1, k2⟩
  have e6' : g__law_draw [.mr 1, .int 12] (stk3 Pt cells a r acc) = .ok (.int n) (stk3 Pt cells a1 r1 acc) := e6
  have f6' : g__law_draw [.mr 1, .int 9] (stk3 Pt cells a1 r1 acc) = .ok (.int d1) (stk3 Pt cells a2 r2 acc) := f6
  have k6' : g__law_draw [.mr 1, .int 6] (stk3 Pt cells a2 r2 acc) = .ok (.int d2) (stk3 Pt cells a3 r3 acc) := k6
  have p5' : g__law_pick [.mr 1, .lst [.non, .int n, .int (n - d1), .int (0 - d2)]] (stk3 Pt cells a3 r3 acc) = .ok (eL l) (stk3 Pt cells a4 r4 acc) := p5
  refine ⟨(n, l), a4, r4, hb, by omega, by omega, p4, some (.int n), ?_⟩
  have hargs : mCons (mCl gTup (mCons (mVar 4) (mCons (mCall g__law_pick [] (mCons (mVar 0) (mCons (mCl gLst (mCons (mC .non) (mCons (mVar 4) (mCons (mOp gSub (mVar 4) (mCall g__law_draw [] (mCons (mVar 0) (mCons (mC (.int 9)) mNil)))) (mCons (mOp gSub (mC (.int 0)) (mCall g__law_draw [] (mCons (mVar 0) (mCons (mC (.int 6)) mNil)))) mNil))))) mNil))) mNil))) mNil [some (.mr 1), some (.int m), some (.mr 2), x, some (.int n)] (stk3 Pt cells a1 r1 acc)
      = .ok [eO (n, l)] (stk3 Pt cells a4 r4 acc) := by
    simp only [r_cons, r_cl, r_var, r_call, r_c, r_op, r_nil, List.getElem?_cons_zero, List.getElem?_cons_succ, Out.bind_ok, List.append_nil, f6', gSub_i, k6', r_lstG, show ∀ p q u v : T, few [p, q, u, v] = true from fun _ _ _ _ => rfl, if_true, p5', r_tupG, show ∀ p q : T, few [p, q] = true from fun _ _ => rfl]
    rfl
  have happ : mLm gApp (mVar 2) (mCons (mCl gTup (mCons (mVar 4) (mCons (mCall g__law_pick [] (mCons (mVar 0) (mCons (mCl gLst (mCons (mC .non) (mCons (mVar 4) (mCons (mOp gSub (mVar 4) (mCall g__law_draw [] (mCons (mVar 0) (mCons (mC (.int 9)) mNil)))) (mCons (mOp gSub (mC (.int 0)) (mCall g__law_draw [] (mCons (mVar 0) (mCons (mC (.int 6)) mNil)))) mNil))))) mNil))) mNil))) mNil) [some (.mr 1), some (.int m), some (.mr 2), x, some (.int n)] (stk3 Pt cells a1 r1 acc)
      = .ok .non (stk3 Pt cells a4 r4 (acc ++ [(n, l)])) := by
    unfold mLm
    have hst : isStL (stk3 Pt cells a1 r1 acc) (.mr 2) = true := rfl
    simp only [r_var, List.getElem?_cons_zero, List.getElem?_cons_succ, Out.bind_ok, hst, if_true, hargs]
    show gApp 2 (acc.map eO) [eO (n, l)] (stk3 Pt cells a4 r4 acc) = _
    unfold gApp
    simp only
    rw [if_pos (few_of (by rw [List.length_cons, List.length_map]; omega))]
    show Out.ok T.non [.tab Pt (lamQ "law"), penO cells a4 r4, .lst (acc.map eO ++ [eO (n, l)])] = Out.ok T.non [.tab Pt (lamQ "law"), penO cells a4 r4, .lst ((acc ++ [(n, l)]).map eO)]
    rw [List.map_append] <;> rfl
  unfold ofBody
  simp only [r_seq, r_set, r_call, r_cons, r_var, r_c, r_nil, List.getElem?_cons_zero, List.getElem?_cons_succ, Out.bind_ok, List.append_nil, e6', List.set_cons_succ, List.set_cons_zero, r_seq_nx, r_drop, happ]
theorem s_offers {Pt : Addr} {cells : List Int} {a r : Int} {m : Nat} (h0 : 0 ≤ a) (h1 : a < 900000) (hr : 0 ≤ r) (hm : m < 50) :
    ∃ (A : List Off) (a' r' : Int), A.length = m ∧ (∀ o ∈ A, OffB o) ∧ a ≤ a' ∧ a' ≤ a + 4 * m ∧ 0 ≤ r' ∧ g__law_offers [.mr 1, .int (m : Int)] (stk Pt cells a r) = .ok (.lst (A.map eO)) (stk Pt cells a' r') := by
  obtain ⟨ρ', μ', hl, a', r', acc, x', y', rfl, rfl, q1, q2, q3, q4, q5⟩ := loop_all (g := gNm 3) (mb := ofBody) (I := fun i ρ μ => ∃ (a' r' : Int) (acc : List Off) (x y : Option T), ρ = [some (.mr 1), some (.int (m : Int)), some (.mr 2), x, y] ∧ μ = stk3 Pt cells a' r' acc ∧ acc.length = i ∧ (∀ o ∈ acc, OffB o) ∧ a ≤ a' ∧ a' ≤ a + 4 * i ∧ 0 ≤ r')
    ((dues m).map T.int) 0 [some (.mr 1), some (.int (m : Int)), some (.mr 2), none, none] (stk3 Pt cells a r []) ⟨a, r, [], none, none, rfl, rfl, rfl, fun o ho => (List.not_mem_nil ho).elim, Int.le_refl _, by omega, hr⟩ (fun j t ρ μ ht ⟨a', r', acc, x, y, e1, e2, e3, e4, e5, e6, e7⟩ => by
      subst e1 e2
      have hj : j < m := by
        have := (List.getElem?_eq_some_iff.mp ht).1
        rwa [List.length_map, dues_len] at this
      obtain ⟨o, a2, r2, b1, b2, b3, b4, y', b5⟩ := of_body (Pt := Pt) (cells := cells) (a := a') (r := r') (m := (m : Int)) (acc := acc) (x := some t) (y := y) (by omega) (by omega) e7 (by omega)
      refine ⟨_, _, rfl, _, _, .inl b5, a2, r2, acc ++ [o], some t, y', rfl, rfl, by rw [List.length_append, List.length_singleton]; omega, fun q hq => ?_, by omega, by omega, b4⟩
      rcases List.mem_append.mp hq with hq | hq
      · exact e4 q hq
      · rw [List.mem_singleton.mp hq]; exact b1)
  rw [List.length_map, dues_len, Nat.zero_add] at q1
  rw [List.length_map, dues_len, Nat.zero_add] at q4
  refine ⟨acc, a', r', q1, q2, q3, q4, q5, fn_gc (t := .mr 2) (μ' := stk Pt cells a' r') (ν := [.lst (acc.map eO)]) rfl rfl (calm_stk Pt cells a' r') ?_ ?_ (by simp)⟩
  · show endO (m__law_offers [some (.mr 1), some (.int (m : Int)), none, none, none] (stk Pt cells a r)) = _
    have hir : inR (m : Int) = true := by
      unfold inR
      rw [decide_eq_true (by omega), decide_eq_true (by omega)] <;> rfl
    have hit : itR1 [.int (m : Int)] (stk3 Pt cells a r []) = .ok ((dues m).map T.int) (stk3 Pt cells a r []) := by
      show (if inR (m : Int) = true then Out.ok (rangeT 0 (m : Int)) (stk3 Pt cells a r []) else .bad) = _
      rw [if_pos hir, range_dues]
    have hpush : mSet 2 (mCl gLstM mNil) [some (.mr 1), some (.int (m : Int)), none, none, none] (stk Pt cells a r) = .ok (.nx [some (.mr 1), some (.int (m : Int)), some (.mr 2), none, none]) (stk3 Pt cells a r []) := rfl
    have hfor : mFor (mIt (mCons (mVar 1) mNil) itR1) (gNm 3) ofBody [some (.mr 1), some (.int (m : Int)), some (.mr 2), none, none] (stk3 Pt cells a r []) = .ok (.nx [some (.mr 1), some (.int (m : Int)), some (.mr 2), x', y']) (stk3 Pt cells a' r' acc) := by
      simp only [r_for, r_it, r_cons, r_var, r_nil, List.getElem?_cons_zero, List.getElem?_cons_succ, Out.bind_ok, hit]
      exact hl
    show endO (seqO (mSet 2 (mCl gLstM mNil) [some (.mr 1), some (.int (m : Int)), none, none, none] (stk Pt cells a r)) (mSeq (mFor (mIt (mCons (mVar 1) mNil) itR1) (gNm 3) ofBody) (mRet (mVar 2)))) = _
    rw [hpush]
    show endO (seqO (mFor (mIt (mCons (mVar 1) mNil) itR1) (gNm 3) ofBody [some (.mr 1), some (.int (m : Int)), some (.mr 2), none, none] (stk3 Pt cells a r [])) (mRet (mVar 2))) = _
    rw [hfor]
    rfl
  · have h : mapO (frzT (stk Pt cells a' r' ++ [.lst (acc.map eO)]) 2 63) (acc.map eO) = some (acc.map eO) := mapO_map (d := eO) (fun o => by obtain ⟨n, l⟩ := o; cases l <;> rfl) acc
    show (match mapO (frzT (stk Pt cells a' r' ++ [.lst (acc.map eO)]) 2 63) (acc.map eO) with
      | some us => some (T.lst us)
      | none => none) = _
    rw [h]
end Mr

namespace Mr
open PySem PySem.Spec PyProof.Rows L2

/-! ### needs of what is made of stairs -/
theorem minL_iff {is : List Int} {m : Int} : minL is = some m ↔ m ∈ is ∧ ∀ i ∈ is, m ≤ i := by
  constructor
  · intro h
    refine ⟨minL_mem h, fun i hi => ?_⟩
    obtain ⟨m', h1, h2⟩ := minL_le hi
    rw [h] at h1
    cases h1
    exact h2
  · rintro ⟨h1, h2⟩
    obtain ⟨m', h3, h4⟩ := minL_le h1
    have := h2 m' (minL_mem h3)
    rw [h3, show m' = m by omega]
theorem minL_none {is : List Int} : minL is = none ↔ is = [] := by cases is <;> simp [minL]
theorem minL_app (is js : List Int) : minL (is ++ js) = leastL (minL is) (minL js) := by
  cases hi : minL is with
  | none =>
    rw [minL_none] at hi
    subst hi
    rw [List.nil_append]
    cases minL js <;> rfl
  | some a =>
    cases hj : minL js with
    | none =>
      rw [minL_none] at hj
      subst hj
      rw [List.append_nil, hi] <;> rfl
    | some b =>
      obtain ⟨a1, a2⟩ := minL_iff.mp hi
      obtain ⟨b1, b2⟩ := minL_iff.mp hj
      show _ = some (minI a b)
      rw [minL_iff, minI_eq]
      refine ⟨?_, fun x hx => ?_⟩
      · rcases Int.le_total a b with h | h
        · rw [Int.min_eq_left h]; exact List.mem_append_left _ a1
        · rw [Int.min_eq_right h]; exact List.mem_append_right _ b1
      · rcases List.mem_append.mp hx with hx | hx
        · have := a2 x hx; omega
        · have := b2 x hx; omega
theorem minL_map {f : Int → Int} (hf : ∀ x y, x ≤ y → f x ≤ f y) (is : List Int) : minL (is.map f) = (minL is).map f := by
  cases hi : minL is with
  | none =>
    rw [minL_none] at hi
    subst hi
    rfl
  | some a =>
    obtain ⟨a1, a2⟩ := minL_iff.mp hi
    rw [Option.map_some, minL_iff]
    refine ⟨List.mem_map_of_mem a1, fun x hx => ?_⟩
    obtain ⟨y, hy, rfl⟩ := List.mem_map.mp hx
    exact hf _ _ (a2 y hy)
theorem val_app (A B : List Off) (d : Int) : val (A ++ B) d = leastL (val A d) (val B d) := by
  unfold val
  rw [List.map_append, minL_app]
theorem val_map {f : Off → Off} {g : Int → Int} (hg : ∀ x y, x ≤ y → g x ≤ g y) {d : Int} (h : ∀ o, cost d (f o) = g (cost d o)) (A : List Off) : val (A.map f) d = (val A d).map g := by
  unfold val
  rw [List.map_map, ← minL_map hg, List.map_map]
  congr 1
  exact List.map_congr_left fun o _ => h o
theorem val_pay (c p d : Int) (A : List Off) : val (A.map (payO c p)) d = (val A d).map fun n => maxI c (c - p + n) := by
  refine val_map (fun x y h => by rw [maxI_eq, maxI_eq]; omega) (fun o => ?_) A
  obtain ⟨n, l⟩ := o
  cases l <;> simp only [payO, cost, Option.map_none, Option.map_some, maxI_eq]
  omega
theorem val_ent (p d : Int) (A : List Off) : val (A.map (entO p)) d = (val A d).map fun n => maxI 0 (n - p) := by
  refine val_map (fun x y h => by rw [maxI_eq, maxI_eq]; omega) (fun o => ?_) A
  obtain ⟨n, l⟩ := o
  cases l <;> simp only [entO, cost, Option.map_none, Option.map_some, maxI_eq]
  omega
def twiceL : Option Int → Option Int → Option Int
  | some a, some b => some (maxI a b)
  | _, _ => none
theorem cost_both (d : Int) (a b : Off) : cost d (maxI a.1 b.1, worseL a.2 b.2) = maxI (cost d a) (cost d b) := by
  obtain ⟨n, l⟩ := a
  obtain ⟨m, k⟩ := b
  unfold worseL
  cases l <;> cases k <;> simp only [cost, isWorse, maxI_eq, Bool.false_eq_true, if_false, if_true, decide_eq_true_eq]
  · omega
  · omega
  · rename_i x y
    by_cases h : y ≤ x
    · rw [if_pos h]; simp only [maxI_eq]; omega
    · rw [if_neg h]; simp only [maxI_eq]; omega
theorem mem_both {A B : List Off} {o : Off} : o ∈ bothO A B ↔ ∃ a ∈ A, ∃ b ∈ B, o = (maxI a.1 b.1, worseL a.2 b.2) := by
  unfold bothO
  rw [List.mem_flatMap]
  constructor
  · rintro ⟨a, ha, h⟩
    obtain ⟨b, hb, rfl⟩ := List.mem_map.mp h
    exact ⟨a, ha, b, hb, rfl⟩
  · rintro ⟨a, ha, b, hb, rfl⟩
    exact ⟨a, ha, List.mem_map.mpr ⟨b, hb, rfl⟩⟩
theorem val_both (d : Int) (A B : List Off) : val (bothO A B) d = twiceL (val A d) (val B d) := by
  cases hA : val A d with
  | none =>
    have h0 : A = [] := by
      have := minL_none.mp hA
      simpa using this
    subst h0
    rfl
  | some a =>
    cases hB : val B d with
    | none =>
      have h0 : B = [] := by
        have := minL_none.mp hB
        simpa using this
      subst h0
      have e : bothO A [] = [] := by
        unfold bothO
        simp
      rw [e] <;> rfl
    | some b =>
      obtain ⟨a1, a2⟩ := minL_iff.mp hA
      obtain ⟨b1, b2⟩ := minL_iff.mp hB
      obtain ⟨oa, ha, rfl⟩ := List.mem_map.mp a1
      obtain ⟨ob, hb, rfl⟩ := List.mem_map.mp b1
      show _ = some (maxI (cost d oa) (cost d ob))
      unfold val
      rw [minL_iff]
      refine ⟨List.mem_map.mpr ⟨_, mem_both.mpr ⟨oa, ha, ob, hb, rfl⟩, cost_both d oa ob⟩, fun x hx => ?_⟩
      obtain ⟨o, ho, rfl⟩ := List.mem_map.mp hx
      obtain ⟨p, hp, q, hq, rfl⟩ := mem_both.mp ho
      rw [cost_both]
      have h1 := a2 _ (List.mem_map_of_mem hp)
      have h2 := b2 _ (List.mem_map_of_mem hq)
      simp only [maxI_eq] at *
      omega
/-! ### through -/
def never (A : List Off) : List Int := (A.filter fun o => o.2.isNone).map (·.1)
theorem mem_never {A : List Off} {n : Int} : n ∈ never A ↔ (n, none) ∈ A := by
  unfold never
  rw [List.mem_map]
  constructor
  · rintro ⟨⟨m, l⟩, h, rfl⟩
    obtain ⟨h1, h2⟩ := List.mem_filter.mp h
    cases l with
    | none => exact h1
    | some l => cases h2
  · intro h
    exact ⟨(n, none), List.mem_filter.mpr ⟨h, rfl⟩, rfl⟩
theorem never_vle {A B : List Off} (h : Dom A B) : vle (minL (never A)) (minL (never B)) := minL_vle fun j hj => by
  obtain ⟨⟨n, l⟩, ha, h1, h2⟩ := h _ (mem_never.mp hj)
  cases l with
  | none => exact ⟨n, mem_never.mpr ha, h1⟩
  | some l => exact absurd h2 (by simp [Lle])
theorem never_stair (A : List Off) : minL (never (stairOf A)) = minL (never A) := (never_vle (stair_dom A)).antisymm (never_vle (dom_stair A))
theorem cost_thr (d n l : Int) (b : Off) : cost d (maxI n (l + b.1), summedL (some l) b.2) = maxI n (cost d b + l) := by
  obtain ⟨m, k⟩ := b
  cases k <;> simp only [cost, summedL, maxI_eq] <;> omega
theorem val_thr (d : Int) (A B : List Off) : val (A.flatMap (thrO B)) d = leastL (minL (never A)) (match val B d with
    | none => none
    | some v => val A v) := by
  cases hB : val B d with
  | none =>
    have h0 : B = [] := by
      have := minL_none.mp hB
      simpa using this
    subst h0
    have e : ∀ x : Option Int, leastL x none = x := fun x => by cases x <;> rfl
    rw [e]
    unfold val
    refine minL_eq (fun j hj => ?_) (fun i hi => ?_)
    · refine ⟨j, List.mem_map.mpr ⟨(j, none), List.mem_flatMap.mpr ⟨(j, none), mem_never.mp hj, List.mem_singleton.mpr rfl⟩, rfl⟩, Int.le_refl _⟩
    · obtain ⟨o, ho, rfl⟩ := List.mem_map.mp hi
      obtain ⟨⟨n, l⟩, ha, h2⟩ := List.mem_flatMap.mp ho
      cases l with
      | none =>
        have : o = (n, none) := List.mem_singleton.mp h2
        subst this
        exact ⟨n, mem_never.mpr ha, Int.le_refl _⟩
      | some l => cases h2
  | some v =>
    obtain ⟨v1, v2⟩ := minL_iff.mp hB
    obtain ⟨ob, hb, rfl⟩ := List.mem_map.mp v1
    show _ = leastL (minL (never A)) (minL (A.map (cost (cost d ob))))
    rw [← minL_app]
    unfold val
    refine minL_eq (fun j hj => ?_) (fun i hi => ?_)
    · rcases List.mem_append.mp hj with hj | hj
      · exact ⟨j, List.mem_map.mpr ⟨(j, none), List.mem_flatMap.mpr ⟨(j, none), mem_never.mp hj, List.mem_singleton.mpr rfl⟩, rfl⟩, Int.le_refl _⟩
      · obtain ⟨⟨n, l⟩, ha, rfl⟩ := List.mem_map.mp hj
        cases l with
        | none => exact ⟨n, List.mem_map.mpr ⟨(n, none), List.mem_flatMap.mpr ⟨(n, none), ha, List.mem_singleton.mpr rfl⟩, rfl⟩, Int.le_refl _⟩
        | some l => exact ⟨_, List.mem_map.mpr ⟨_, List.mem_flatMap.mpr ⟨(n, some l), ha, List.mem_map.mpr ⟨ob, hb, rfl⟩⟩, cost_thr d n l ob⟩, Int.le_refl _⟩
    · obtain ⟨o, ho, rfl⟩ := List.mem_map.mp hi
      obtain ⟨⟨n, l⟩, ha, h2⟩ := List.mem_flatMap.mp ho
      cases l with
      | none =>
        have : o = (n, none) := List.mem_singleton.mp h2
        subst this
        exact ⟨n, List.mem_append_left _ (mem_never.mpr ha), Int.le_refl _⟩
      | some l =>
        obtain ⟨q, hq, rfl⟩ := List.mem_map.mp h2
        refine ⟨_, List.mem_append_right _ (List.mem_map_of_mem ha), ?_⟩
        have h3 := v2 _ (List.mem_map_of_mem hq)
        rw [cost_thr]
        show maxI n (cost d ob + l) ≤ maxI n (cost d q + l)
        rw [maxI_eq, maxI_eq]
        omega
/-! ### cut -/
theorem cutL_eq (m : Int) : ∀ A : List Off, cutL m A = (A.filter fun o => decide (o.1 ≤ m)).map (cutO m)
  | [] => rfl
  | a :: A => by
    have e : cutL m (a :: A) = (if a.1 ≤ m then [cutO m a] else []) ++ cutL m A := by
      unfold cutL
      rw [List.flatMap_cons]
    rw [e, cutL_eq m A]
    by_cases h : a.1 ≤ m
    · rw [if_pos h, List.filter_cons_of_pos (by simpa using h)] <;> rfl
    · rw [if_neg h, List.filter_cons_of_neg (by simpa using h)] <;> rfl
theorem cut_dom {m : Int} {A B : List Off} (h : Dom A B) : Dom (cutL m A) (cutL m B) := fun b hb => by
  rw [cutL_eq] at hb
  obtain ⟨b0, hb0, rfl⟩ := List.mem_map.mp hb
  obtain ⟨h1, h2⟩ := List.mem_filter.mp hb0
  obtain ⟨a, ha, hle⟩ := h b0 h1
  have h2 : b0.1 ≤ m := of_decide_eq_true h2
  refine ⟨cutO m a, ?_, hle.1, ?_⟩
  · rw [cutL_eq]
    exact List.mem_map_of_mem (List.mem_filter.mpr ⟨ha, decide_eq_true (by have := hle.1; omega)⟩)
  · have := hle.2
    obtain ⟨n, l⟩ := a
    obtain ⟨k, j⟩ := b0
    cases l <;> cases j <;> simp [cutO, Lle, maxI_eq] at * <;> omega
/-! ### bounds -/
/-- offers of the first row -/
def FB (o : Off) : Prop := 0 ≤ o.1 ∧ o.1 ≤ 39 ∧ match o.2 with
  | none => True
  | some l => l ≤ o.1 ∧ -48 ≤ l
theorem OffB.fb {o : Off} (h : OffB o) : FB o := by
  obtain ⟨n, l⟩ := o
  obtain ⟨h1, h2, h3⟩ := h
  refine ⟨h1, by have : n ≤ 11 := h2; show n ≤ 39; omega, ?_⟩
  cases l with
  | none => trivial
  | some l => exact ⟨h3.1, by have := h3.2; omega⟩
theorem FB.good {o : Off} (h : FB o) : goodB o = true := by
  obtain ⟨n, l⟩ := o
  obtain ⟨h1, h2, h3⟩ := h
  unfold goodB
  rw [decide_eq_true h1]
  cases l with
  | none => rfl
  | some l => exact decide_eq_true h3.1
theorem below_tells {A B : List Off} (hA : ∀ o ∈ A, FB o) (hB : ∀ o ∈ B, OffB o) : belowB A B = decide (((dues 120).filter fun d => aboveL (val A d) (val B d)) = []) := by
  rw [Bool.eq_iff_iff, below_iff, decide_eq_true_eq, List.filter_eq_nil_iff]
  constructor
  · intro h d _ hd
    have := above_iff.mpr (val_vle h d)
    rw [this] at hd
    cases hd
  · intro h b hb
    apply Classical.byContradiction
    intro hn
    have hno : ∀ a ∈ A, ¬ Ole a b := fun a ha hle => hn ⟨a, ha, hle⟩
    obtain ⟨n, l⟩ := b
    obtain ⟨b1, b2, b3⟩ := hB _ hb
    -- a due at which all of A need more
    have key : ∀ d : Int, cost d (n, l) = n → (∀ a ∈ A, n < cost d a) → 0 ≤ d → d < 120 → False := fun d hc hall d0 d1 => by
      have hmem : d ∈ dues 120 := mem_dues.mpr ⟨d0, d1⟩
      apply h d hmem
      cases hv : aboveL (val A d) (val B d) with
      | true => rfl
      | false =>
        have hle := above_iff.mp hv
        obtain ⟨m, hm, hmle⟩ := minL_le (List.mem_map_of_mem (f := cost d) hb)
        have hm' : val B d = some m := hm
        rw [hm'] at hle
        cases hvA : val A d with
        | none => rw [hvA] at hle; exact hle.elim
        | some a =>
          rw [hvA] at hle
          have hle : a ≤ m := hle
          obtain ⟨o, ho, e⟩ := List.mem_map.mp (minL_mem hvA)
          have := hall o ho
          rw [hc] at hmle
          omega
    cases l with
    | none =>
      refine key 119 rfl (fun a ha => ?_) (by omega) (by omega)
      obtain ⟨m, k⟩ := a
      obtain ⟨a1, a2, a3⟩ := hA _ ha
      have hna := hno _ ha
      have b2 : n ≤ 11 := b2
      cases k with
      | none =>
        show n < m
        apply Classical.byContradiction
        intro hlt
        exact hna ⟨by show m ≤ n; omega, trivial⟩
      | some k =>
        have a3 : k ≤ m ∧ -48 ≤ k := a3
        show n < maxI m (119 + k)
        rw [maxI_eq]
        omega
    | some l =>
      have b3 : l ≤ n ∧ -8 ≤ l := b3
      have b1 : 0 ≤ n := b1
      have b2 : n ≤ 11 := b2
      refine key (n - l) (by show maxI n (n - l + l) = n; rw [maxI_eq]; omega) (fun a ha => ?_) (by omega) (by omega)
      obtain ⟨m, k⟩ := a
      have hna := hno _ ha
      cases k with
      | none =>
        show n < m
        apply Classical.byContradiction
        intro hlt
        exact hna ⟨by show m ≤ n; omega, trivial⟩
      | some k =>
        show n < maxI m (n - l + k)
        rw [maxI_eq]
        apply Classical.byContradiction
        intro hlt
        exact hna ⟨by show m ≤ n; omega, by show k ≤ l; omega⟩
end Mr

namespace Mr
open PySem PySem.Spec PyProof.Rows L2

/-! ### the law's statements that draw nothing -/
theorem rv {ρ : Rho} {μ : Mu} {i : Nat} {t : T} (h : ρ[i]? = some (some t)) : mVar i ρ μ = .ok t μ := by rw [r_var, h]
theorem set_get {ρ : Rho} {i : Nat} {x : Option T} (h : i < ρ.length) : (ρ.set i x)[i]? = some x := List.getElem?_set_self h
theorem set_oth {ρ : Rho} {i j : Nat} {x : Option T} (h : i ≠ j) : (ρ.set i x)[j]? = ρ[j]? := List.getElem?_set_ne h
theorem vals_stair (A : List Off) : vals (stairOf A) = vals A := List.map_congr_left fun d _ => val_stair A d
theorem vals_congr {A B : List Off} (h : ∀ d, val A d = val B d) : vals A = vals B := List.map_congr_left fun d _ => h d
def oneT (F : List Off) : T := .tup ((stairOf F).map eO)
theorem oneA (F : List Off) : IsA (oneT F) (stairOf F) := .inr rfl
theorem stair_len (F : List Off) : (stairOf F).length ≤ F.length := by
  have h : ∀ (p : Option Off) (os : List Off), (keepO p os).length ≤ os.length := by
    intro p os
    induction os generalizing p with
    | nil => cases p <;> simp [keepO]
    | cons o os ih =>
      cases p with
      | none =>
        unfold keepO
        rw [List.length_cons, List.length_cons]
        have := ih (some o)
        omega
      | some p =>
        unfold keepO
        split
        · rw [List.length_cons]
          have := ih (some p)
          omega
        · rw [List.length_cons, List.length_cons]
          have := ih (some o)
          omega
  unfold stairOf
  have := h none (sortOff F)
  rwa [sortOff_len] at this
theorem ne_same {x y : T} {μ : Mu} {b : Bool} (h : eqM μ x y = some b) (hb : b = true) : gNe x y μ = .ok (.bl false) μ := by
  unfold gNe
  rw [h, hb] <;> rfl
section
variable {Pt : Addr} {ρ : Rho} {μ : Mu} {F S : List Off}
theorem q4_ok (c : Calm μ) (h3 : ρ[3]? = some (some (.lst (F.map eO)))) (h4 : ρ[4]? = some (some (.lst (S.map eO)))) (hF : F.length ≤ 1000) (hS : S.length ≤ 1000) :
    q_law_4 Pt ρ μ = .ok (.nx ((ρ.set 6 (some (oneT F))).set 7 (some (oneT S)))) μ := by
  have e1 := s_stair_of (t := .lst (F.map eO)) (.inl rfl) c (by omega)
  have e2 := s_stair_of (t := .tup (S.map eO)) (.inr rfl) c (by omega)
  have hk : mCallK 0 1 [0] g_stair_of mNil (mCons (mCl gTupOf (mCons (mVar 4) mNil)) mNil) ρ μ = .ok (.tup ((stairOf S).map eO)) μ := by
    have hm : mCons (mCl gTupOf (mCons (mVar 4) mNil)) mNil ρ μ = .ok [.tup (S.map eO)] μ := by
      simp only [r_cons, r_cl, rv h4, r_nil, Out.bind_ok, gTupOf, asLst]
    unfold mCallK
    rw [r_nil]
    simp only [Out.bind_ok, hm]
    show (if _ then g_stair_of [.tup (S.map eO)] μ else .bad) = _
    rw [if_pos ⟨rfl, rfl⟩, e2]
  unfold q_law_4
  simp only [r_asg, r_cl, r_cons, r_call, rv h3, r_nil, Out.bind_ok, List.append_nil, e1, hk, r_tupG, show ∀ p q : T, few [p, q] = true from fun _ _ => rfl, if_true]
  rfl
/-- sorted by needs: a stair stands so -/
theorem need_sorted {A : List Off} (h : Strict A) (ht : hasTab 0 Pt (lamQ "law") μ = true) (hl : A.length ≤ 1000000) {t : T} (hA : IsA t A) {i : Nat} (hi : ρ[i]? = some (some t)) :
    mSortK (lamM 1 (mOp gIx (mVar 0) (mC (.int 0)))) (hasTab 0 Pt (lamQ "law")) fzT (mVar i) ρ μ = .ok (.lst (A.map eO)) μ := by
  have k1 : ∀ B : List Off, keysM (lamM 1 (mOp gIx (mVar 0) (mC (.int 0)))) (B.map eO) μ = .ok (B.map fun o => T.int o.1) μ := by
    intro B
    induction B with
    | nil => rfl
    | cons b B ih =>
      rw [List.map_cons, List.map_cons]
      unfold keysM
      have e : lamM 1 (mOp gIx (mVar 0) (mC (.int 0))) [eO b] μ = .ok (.int b.1) μ := rfl
      rw [e]
      simp only [Out.bind_ok]
      rw [ih] <;> rfl
  have k2 : mapO (pyT μ 60) (A.map fun o => T.int o.1) = some (A.map fun o => PyData.int o.1) := by
    have := mapO_maps (f := pyT μ 60) (e := fun o : Off => T.int o.1) (d := fun o => PyData.int o.1) (fun o => rfl) A
    exact this
  have k3 : (alikeB (A.map fun o => PyData.int o.1) && sortableB (A.map fun o => PyData.int o.1) && shallowB (A.map fun o => PyData.int o.1)) = true := by
    rw [Bool.and_eq_true, Bool.and_eq_true]
    refine ⟨⟨?_, ?_⟩, ?_⟩
    · unfold alikeB
      rw [List.all_map, List.all_eq_true]
      intro a _
      show (A.map fun o => PyData.int o.1).all _ = true
      rw [List.all_map, List.all_eq_true]
      intro b _
      rfl
    · unfold sortableB
      rw [Bool.or_eq_true]
      right
      rw [List.all_map, List.all_eq_true]
      intro a _
      rfl
    · unfold shallowB
      rw [List.all_map, List.all_eq_true]
      intro a _
      simp [PyData.depth]
  have k4 : sortBy (A.map fun o => PyData.int o.1) (A.map eO) = A.map eO := by
    unfold sortBy
    have hz : (A.map eO).zip (A.map fun o => PyData.int o.1) = A.map fun o => (eO o, PyData.int o.1) := by
      clear h hl hA k1 k2 k3
      induction A with
      | nil => rfl
      | cons o os ih => rw [List.map_cons, List.map_cons, List.map_cons, List.zip_cons_cons, ih]
    rw [hz, List.mergeSort_of_pairwise, List.map_map]
    · rfl
    · rw [List.pairwise_map]
      refine h.imp fun {a b} hab => ?_
      show PySem.W.dataLe false Prod.snd (eO a, PyData.int a.1) (eO b, PyData.int b.1) = true
      rw [PySem.W.dataLe_eq]
      show (!PySem.W.dataLt (.int b.1) (.int a.1)) = true
      rw [PySem.W.dataLt_int, Bool.not_eq_true', decide_eq_false_iff_not]
      have := hab.1
      omega
  unfold mSortK
  rw [rv hi]
  simp only [Out.bind_ok, ht, if_true, hA.seq]
  unfold sortO
  rw [if_pos (few_map hl), k1]
  simp only [Out.bind_ok, k2, k3, if_true, k4, r_fz]
theorem q5_ok (c : Calm μ) (ht : hasTab 0 Pt (lamQ "law") μ = true) (h3 : ρ[3]? = some (some (.lst (F.map eO)))) (h6 : ρ[6]? = some (some (oneT F))) (hF : F.length ≤ 1000) : q_law_5 Pt ρ μ = .ok (.nx ρ) μ := by
  have hlen := stair_len F
  have v1 := s__law_values μ (oneA F) (by omega)
  have v2 := s__law_values (t := .lst (F.map eO)) μ (.inl rfl) (by omega)
  have n1 : gNe (.lst ((vals (stairOf F)).map eL)) (.lst ((vals F).map eL)) μ = .ok (.bl false) μ := ne_same (eq_Ls _ _ μ) (decide_eq_true (vals_stair F))
  have n2 : gNe (.lst ((stairOf F).map eO)) (.lst ((stairOf F).map eO)) μ = .ok (.bl false) μ := ne_same (eq_lst (py_lstA _ _) (py_lstA _ _)) (decide_eq_true rfl)
  have s1 := s_stair_of (oneA F) c (by omega)
  have n3 : gNe (.tup ((stairOf (stairOf F)).map eO)) (oneT F) μ = .ok (.bl false) μ := ne_same (eq_tup (py_tupA _ _) (py_tupA _ _)) (decide_eq_true (stair_stair F))
  have s2 := s_stair_of (t := .lst (F.reverse.map eO)) (.inl rfl) c (by rw [List.length_reverse]; omega)
  have rv2 : stairOf F.reverse = stairOf F := stair_congr (Dom.of_sub fun b hb => List.mem_reverse.mpr hb) (Dom.of_sub fun b hb => List.mem_reverse.mp hb)
  have n4 : gNe (.tup ((stairOf F.reverse).map eO)) (oneT F) μ = .ok (.bl false) μ := ne_same (eq_tup (py_tupA _ _) (py_tupA _ _)) (decide_eq_true rv2)
  have so := need_sorted (ρ := ρ) (Pt := Pt) (μ := μ) (stair_strict F) ht (by omega) (oneA F) h6
  have lo : gLstOf fzT [oneT F] μ = .ok (.lst ((stairOf F).map eO)) μ := rfl
  have re : gRev fzT (.lst (F.map eO)) μ = .ok (.lst (F.reverse.map eO)) μ := by
    show Out.ok (T.lst (F.map eO).reverse) μ = _
    rw [← List.map_reverse]
  unfold q_law_5
  simp only [r_ifS, r_or, r_tst, r_op, r_call, r_cons, r_nil, r_cl, r_un, rv h6, rv h3, Out.bind_ok, List.append_nil, v1, v2, n1, Bool.false_eq_true, if_false, lo, so, n2, s1, n3, re, s2, n4, r_next]
theorem q6_ok (h6 : ρ[6]? = some (some (oneT F))) (hl : ρ.length = 25) (hF : F.length ≤ 1000) : q_law_6 Pt ρ μ = .ok (.nx ρ) μ := by
  have hlen := stair_len F
  have hst := stair_strict F
  -- the rows that are as good
  have inner : ∀ o ∈ stairOf F, mFin fzT (mLc [9] (mItS (mVar 6)) (gNm 9) (mAnd (mTst (mOp gNe (mVar 9) (mVar 8))) (mAnd (mTst (mOp gLe (mOp gIx (mVar 9) (mC (.int 0))) (mOp gIx (mVar 8) (mC (.int 0))))) (mTru (mCall g__law_loss_let [] (mCons (mOp gIx (mVar 9) (mC (.int 1))) (mCons (mOp gIx (mVar 8) (mC (.int 1))) mNil)))))) (mVar 9)) ((wipeR ρ [8]).set 8 (some (eO o))) μ = .ok (.lst []) μ := by
    intro o ho
    have hlw : (wipeR ρ [8]).length = 25 := by simp [wipeR, hl]
    have hc : compM (gNm 9) (mAnd (mTst (mOp gNe (mVar 9) (mVar 8))) (mAnd (mTst (mOp gLe (mOp gIx (mVar 9) (mC (.int 0))) (mOp gIx (mVar 8) (mC (.int 0))))) (mTru (mCall g__law_loss_let [] (mCons (mOp gIx (mVar 9) (mC (.int 1))) (mCons (mOp gIx (mVar 8) (mC (.int 1))) mNil)))))) (mVar 9) (wipeR ((wipeR ρ [8]).set 8 (some (eO o))) [9]) ((stairOf F).map eO) μ
        = .ok (((stairOf F).filter fun p => !decide (p = o) && (decide (p.1 ≤ o.1) && letL p.2 o.2)).map eO) μ := by
      refine comp_filter eO _ eO (stairOf F) fun p hp => ⟨_, rfl, ?_, fun _ => ?_⟩
      · have g9 : ((wipeR ((wipeR ρ [8]).set 8 (some (eO o))) [9]).set 9 (some (eO p)))[9]? = some (some (eO p)) := set_get (by simp [wipeR, hl])
        have g8 : ((wipeR ((wipeR ρ [8]).set 8 (some (eO o))) [9]).set 9 (some (eO p)))[8]? = some (some (eO o)) := by
          rw [set_oth (by decide)]
          show (((wipeR ρ [8]).set 8 (some (eO o))).set 9 none)[8]? = _
          rw [set_oth (by decide), set_get (by rw [hlw]; decide)]
        have hne : gNe (eO p) (eO o) μ = .ok (.bl (!decide (p = o))) μ := by
          have hd : ∀ q : Off, SeqAt.shaped (offD q) = true := fun q => by
            have h := lay_off q
            unfold SeqAt.shaped
            rw [h.1, Bool.true_and]
            exact decide_eq_true (by omega)
          unfold gNe eqM
          rw [py_off p μ 58, py_off o μ 58]
          simp only [hd, Bool.and_self, if_true, eqv_off]
        simp only [r_and, r_tst, r_op, rv g9, rv g8, r_c, Out.bind_ok, hne, ix0_off, ix1_off, gLe, gI0, r_tru, r_call, r_cons, r_nil, List.append_nil, s__law_loss_let, tru, truT]
        cases decide (p = o) <;> cases decide (p.1 ≤ o.1) <;> simp
      · exact rv (set_get (by simp [wipeR, hl]))
    have h66 : ((wipeR ρ [8]).set 8 (some (eO o)))[6]? = some (some (oneT F)) := by
      rw [set_oth (by decide)]
      show (ρ.set 8 none)[6]? = _
      rw [set_oth (by decide), h6]
    have hnone : ((stairOf F).filter fun p => !decide (p = o) && (decide (p.1 ≤ o.1) && letL p.2 o.2)) = [] := by
      rw [List.filter_eq_nil_iff]
      intro p hp hz
      rw [Bool.and_eq_true, Bool.and_eq_true, Bool.not_eq_true', decide_eq_false_iff_not, decide_eq_true_eq, letL_iff] at hz
      exact hz.1 (strict_anti hst hp ho ⟨hz.2.1, hz.2.2⟩)
    simp only [r_fin, r_lc, r_itS, rv h66, Out.bind_ok, (oneA F).it, few_map (e := eO) (xs := stairOf F) (by omega), if_true, hc, hnone, r_fz, List.map_nil]
  have outer : compM (gNm 8) (mTst (mOp gNe (mFin fzT (mLc [9] (mItS (mVar 6)) (gNm 9) (mAnd (mTst (mOp gNe (mVar 9) (mVar 8))) (mAnd (mTst (mOp gLe (mOp gIx (mVar 9) (mC (.int 0))) (mOp gIx (mVar 8) (mC (.int 0))))) (mTru (mCall g__law_loss_let [] (mCons (mOp gIx (mVar 9) (mC (.int 1))) (mCons (mOp gIx (mVar 8) (mC (.int 1))) mNil)))))) (mVar 9))) (mCl gLst mNil))) (mVar 8) (wipeR ρ [8]) ((stairOf F).map eO) μ = .ok (((stairOf F).filter fun _ => false).map eO) μ := by
    refine comp_filter eO _ eO (stairOf F) fun o ho => ⟨_, rfl, ?_, fun h => nomatch h⟩
    have hnil : gNe (.lst []) (.lst []) μ = .ok (.bl false) μ := ne_same (eq_lst (A := []) (B := []) (py_lstA [] μ) (py_lstA [] μ)) rfl
    rw [r_tst, r_op, inner o ho]
    simp only [Out.bind_ok, r_cl, r_nil, r_lstG, show few ([] : List T) = true from rfl, if_true, hnil]
  have hfil : ((stairOf F).filter fun _ => false) = [] := by simp
  have hnil : gNe (.lst []) (.lst []) μ = .ok (.bl false) μ := ne_same (eq_lst (A := []) (B := []) (py_lstA [] μ) (py_lstA [] μ)) rfl
  unfold q_law_6
  rw [hfil, List.map_nil] at outer
  simp only [r_ifS, r_tst, r_op, r_fin, r_lc, r_itS, rv h6, Out.bind_ok, (oneA F).it, few_map (e := eO) (xs := stairOf F) (by omega), if_true, outer, r_fz, r_cl, r_nil, r_lstG, show few ([] : List T) = true from rfl, hnil, Bool.false_eq_true, if_false, r_next]
end
end Mr

namespace Mr
open PySem PySem.Spec PyProof.Rows L2

/-! ### the law's statements that draw nothing, second part -/
theorem zip_vals (A B : List Off) : zipT ((vals A).map eL) ((vals B).map eL) = (dues 41).map fun d => T.tup [eL (val A d), eL (val B d)] := by
  unfold zipT vals
  generalize dues 41 = ds
  induction ds with
  | nil => rfl
  | cons d ds ih =>
    rw [List.map_cons, List.map_cons, List.map_cons, List.map_cons, List.map_cons, List.zip_cons_cons, List.map_cons, ih]
theorem eq_strs (x : List Nat) (μ : Mu) (h : SeqAt.shaped (.str ⟨x.toArray⟩) = true) : eqM μ (.str x) (.str x) = some true := by
  show (if (SeqAt.shaped (.str ⟨x.toArray⟩) && SeqAt.shaped (.str ⟨x.toArray⟩)) = true then some (PyData.eqv (.str ⟨x.toArray⟩) (.str ⟨x.toArray⟩)) else none) = _
  rw [h]
  simp [PyData.eqv]
def shortB (v : Option Int) : Bool := match gRepr [.lst [eL v, eL v]] [] with
  | .ok (.str x) _ => SeqAt.shaped (.str ⟨x.toArray⟩)
  | _ => false
theorem short_all : ∀ n < 200, shortB (some ((n : Nat) : Int)) = true := by decide +kernel
theorem repr_two {v : Option Int} (μ : Mu) (h : ∀ n, v = some n → 0 ≤ n ∧ n < 200) : ∃ x, gRepr [.lst [eL v, eL v]] μ = .ok (.str x) μ ∧ SeqAt.shaped (.str ⟨x.toArray⟩) = true := by
  have hs : shortB v = true := by
    cases v with
    | none => decide +kernel
    | some n =>
      obtain ⟨h0, h1⟩ := h n rfl
      obtain ⟨k, rfl⟩ : ∃ k : Nat, n = (k : Int) := ⟨n.toNat, by omega⟩
      exact short_all k (by omega)
  have hp : ∀ ν : Mu, gRepr [.lst [eL v, eL v]] ν = if ((PyData.list [lD v, lD v]).showable && SeqAt.shaped (PyData.list [lD v, lD v]) && Nat.ble (PyData.list [lD v, lD v]).shown.cps.size 100000) = true then .ok (.str (PyData.list [lD v, lD v]).shown.cps.toList) ν else .bad := fun ν => by cases v <;> rfl
  unfold shortB at hs
  rw [hp] at hs ⊢
  split at hs
  · rename_i x ν e
    split at e
    · rename_i hc
      cases e
      exact ⟨_, if_pos hc, hs⟩
    · cases e
  · cases hs
theorem val_bounds {A : List Off} (hA : ∀ o ∈ A, FB o) {d : Int} (h0 : 0 ≤ d) (h1 : d < 30) : ∀ n, val A d = some n → 0 ≤ n ∧ n < 200 := fun n h => by
  obtain ⟨⟨m, l⟩, ho, rfl⟩ := List.mem_map.mp (minL_mem h)
  obtain ⟨b1, b2, b3⟩ := hA _ ho
  have b1 : 0 ≤ m := b1
  have b2 : m ≤ 39 := b2
  cases l with
  | none => exact ⟨b1, by show m < 200; omega⟩
  | some l =>
    have b3 : l ≤ m ∧ -48 ≤ l := b3
    show 0 ≤ maxI m (d + l) ∧ maxI m (d + l) < 200
    rw [maxI_eq]
    omega
structure Rw (ρ : Rho) (F S : List Off) : Prop where
  l : ρ.length = 25
  h3 : ρ[3]? = some (some (.lst (F.map eO)))
  h4 : ρ[4]? = some (some (.lst (S.map eO)))
  h6 : ρ[6]? = some (some (oneT F))
  h7 : ρ[7]? = some (some (oneT S))
  hF : F.length ≤ 30
  hS : S.length ≤ 30
section
variable {Pt : Addr} {ρ : Rho} {μ : Mu} {F S : List Off}
theorem Rw.set {i : Nat} {x : Option T} (R : Rw ρ F S) (h : i ≠ 3 ∧ i ≠ 4 ∧ i ≠ 6 ∧ i ≠ 7) : Rw (ρ.set i x) F S :=
  ⟨by rw [List.length_set, R.l], by rw [set_oth h.1, R.h3], by rw [set_oth h.2.1, R.h4], by rw [set_oth h.2.2.1, R.h6], by rw [set_oth h.2.2.2, R.h7], R.hF, R.hS⟩
theorem stair_le (F : List Off) {n : Nat} (h : F.length ≤ n) : (stairOf F).length ≤ n := Nat.le_trans (stair_len F) h
theorem v_one (μ : Mu) (R : Rw ρ F S) : g__law_values [oneT F] μ = .ok (.lst ((vals F).map eL)) μ := by
  rw [s__law_values μ (oneA F) (Nat.le_trans (stair_le F R.hF) (by omega)), vals_stair]
theorem v_two (μ : Mu) (R : Rw ρ F S) : g__law_values [oneT S] μ = .ok (.lst ((vals S).map eL)) μ := by
  rw [s__law_values μ (oneA S) (Nat.le_trans (stair_le S R.hS) (by omega)), vals_stair]
theorem zip_comp {me : ME} {h : Int → T} (R : Rw ρ F S) (i j : Nat)
    (hm : ∀ d ∈ dues 41, me (((wipeR ρ [i, j]).set i (some (eL (val F d)))).set j (some (eL (val S d)))) μ = .ok (h d) μ) :
    mFin fzT (mLc [i, j] (mIt (mCons (mCall g__law_values [] (mCons (mVar 6) mNil)) (mCons (mCall g__law_values [] (mCons (mVar 7) mNil)) mNil)) itZ) (gTp 2 (gsCons (gNm i) (gsCons (gNm j) gsNil))) mYes me) ρ μ = .ok (.lst ((dues 41).map h)) μ := by
  have hit : mIt (mCons (mCall g__law_values [] (mCons (mVar 6) mNil)) (mCons (mCall g__law_values [] (mCons (mVar 7) mNil)) mNil)) itZ ρ μ = .ok ((dues 41).map fun d => T.tup [eL (val F d), eL (val S d)]) μ := by
    simp only [r_it, r_cons, r_call, r_nil, rv R.h6, rv R.h7, Out.bind_ok, List.append_nil, v_one μ R, v_two μ R, itZ, zip_vals]
  have hc : compM (gTp 2 (gsCons (gNm i) (gsCons (gNm j) gsNil))) mYes me (wipeR ρ [i, j]) ((dues 41).map fun d => T.tup [eL (val F d), eL (val S d)]) μ = .ok ((dues 41).map h) μ :=
    comp_map _ _ (dues 41) fun d hd => ⟨_, rfl, rfl, hm d hd⟩
  have hf := few_map (e := fun d => T.tup [eL (val F d), eL (val S d)]) (xs := dues 41) (by rw [dues_len]; omega)
  simp only [r_fin, r_lc, hit, Out.bind_ok, hf, if_true, hc, r_fz]
theorem q8_ok (c : Calm μ) (R : Rw ρ F S) {d : Int} (h10 : ρ[10]? = some (some (.int d))) (hF : ∀ o ∈ F, FB o) (hd : 0 ≤ d ∧ d < 30) : q_law_8 Pt ρ μ = .ok (.nx ρ) μ := by
  have n1 : g_needed_by [oneT F, .int d] μ = .ok (eL (val F d)) μ := by rw [s_needed_by d μ (oneA F) (Nat.le_trans (stair_le F R.hF) (by omega)), val_stair]
  have n2 : g__law_need [.lst (F.map eO), .int d] μ = .ok (eL (val F d)) μ := s__law_need d μ (.inl rfl) (Nat.le_trans R.hF (by omega))
  have hk : mCallK 0 2 [1, 0] g_needed_by mNil (mCons (mVar 10) (mCons (mVar 6) mNil)) ρ μ = .ok (eL (val F d)) μ := by
    have hm : mCons (mVar 10) (mCons (mVar 6) mNil) ρ μ = .ok [.int d, oneT F] μ := by
      simp only [r_cons, rv h10, rv R.h6, r_nil, Out.bind_ok]
    unfold mCallK
    rw [r_nil]
    simp only [Out.bind_ok, hm]
    show (if _ then g_needed_by [oneT F, .int d] μ else .bad) = _
    rw [if_pos ⟨rfl, rfl⟩, n1]
  obtain ⟨x, hx, hs⟩ := repr_two (v := val F d) μ (val_bounds hF hd.1 hd.2)
  have hmul : gMul fzT (.lst [eL (val F d)]) (.int 2) μ = .ok (.lst [eL (val F d), eL (val F d)]) μ := rfl
  have m1 : gNe (.str x) (.str x) μ = .ok (.bl false) μ := ne_same (eq_strs x μ hs) rfl
  have hei := s_either (x := oneT F) (y := oneT S) (oneA F) (oneA S) c (Nat.le_trans (stair_le F R.hF) (by omega)) (Nat.le_trans (stair_le S R.hS) (by omega))
  have hl1 := stair_le F R.hF
  have hl2 := stair_le S R.hS
  have hval := s__law_values (t := .tup ((stairOf (stairOf F ++ stairOf S)).map eO)) μ (.inr rfl) (Nat.le_trans (stair_len _) (by rw [List.length_append]; omega))
  have hz := zip_comp (me := mCall g__law_least [] (mCons (mVar 13) (mCons (mVar 14) mNil))) (h := fun d => eL (leastL (val F d) (val S d))) (μ := μ) R 13 14 (fun e _ => by
    have g13 : (((wipeR ρ [13, 14]).set 13 (some (eL (val F e)))).set 14 (some (eL (val S e))))[13]? = some (some (eL (val F e))) := by simp [wipeR, List.getElem?_set, R.l]
    have g14 : (((wipeR ρ [13, 14]).set 13 (some (eL (val F e)))).set 14 (some (eL (val S e))))[14]? = some (some (eL (val S e))) := by simp [wipeR, List.getElem?_set, R.l]
    simp only [r_call, r_cons, rv g13, rv g14, r_nil, Out.bind_ok, List.append_nil, s__law_least])
  have e2 : vals (stairOf (stairOf F ++ stairOf S)) = (dues 41).map fun d => leastL (val F d) (val S d) := by
    rw [vals_stair]
    exact List.map_congr_left fun d _ => by rw [val_app, val_stair, val_stair]
  have m2 : gNe (.lst ((vals (stairOf (stairOf F ++ stairOf S))).map eL)) (.lst ((dues 41).map fun d => eL (leastL (val F d) (val S d)))) μ = .ok (.bl false) μ := by
    rw [e2, show ((dues 41).map fun d => eL (leastL (val F d) (val S d))) = ((dues 41).map fun d => leastL (val F d) (val S d)).map eL by rw [List.map_map] <;> rfl]
    exact ne_same (eq_Ls _ _ μ) (decide_eq_true rfl)
  unfold q_law_8
  simp only [r_ifS, r_or, r_tst, r_op, r_cl, r_cons, r_call, r_nil, r_c, rv R.h6, rv h10, rv R.h3, rv R.h7, hk, Out.bind_ok, List.append_nil, n1, n2, r_lstG, show ∀ p : T, few [p] = true from fun _ => rfl, show ∀ p q : T, few [p, q] = true from fun _ _ => rfl, if_true, hmul, hx, m1, Bool.false_eq_true, if_false, hei, hval, hz, m2, r_next]
end
end Mr

namespace Mr
open PySem PySem.Spec PyProof.Rows L2
section
variable {Pt : Addr} {ρ : Rho} {μ : Mu} {F S : List Off}
theorem oneLe (R : Rw ρ F S) : (stairOf F).length ≤ 30 := stair_le F R.hF
theorem twoLe (R : Rw ρ F S) : (stairOf S).length ≤ 30 := stair_le S R.hS
theorem eL_map {α : Type} (f : α → Option Int) (xs : List α) : (xs.map fun d => eL (f d)) = (xs.map f).map eL := by rw [List.map_map] <;> rfl
/-- values of a made stair against a list of answers -/
theorem ne_vals {A : List Off} {f : Int → Option Int} (h : ∀ d, val A d = f d) : gNe (.lst ((vals (stairOf A)).map eL)) (.lst ((dues 41).map fun d => eL (f d))) μ = .ok (.bl false) μ := by
  rw [vals_stair, eL_map f]
  exact ne_same (eq_Ls _ _ μ) (decide_eq_true (List.map_congr_left fun d _ => h d))
theorem v_made {A : List Off} (h : A.length ≤ 1000000) : g__law_values [.tup ((stairOf A).map eO)] μ = .ok (.lst ((vals (stairOf A)).map eL)) μ :=
  s__law_values μ (.inr rfl) (stair_le A h)
theorem both_le {A B : List Off} (h1 : A.length ≤ 30) (h2 : B.length ≤ 30) : (bothO A B).length ≤ 900 := by
  rw [bothO_len]
  exact Nat.mul_le_mul h1 h2
theorem thr_le {A B : List Off} (h1 : A.length ≤ 30) (h2 : B.length ≤ 30) : (A.flatMap (thrO B)).length ≤ 930 := Nat.le_trans (thr_len A B) (Nat.mul_le_mul h1 (Nat.succ_le_succ h2))
theorem q9_ok (R : Rw ρ F S) : q_law_9 Pt ρ μ = .ok (.nx (ρ.set 15 (some (.lst ((dues 41).map fun d => eL (twiceL (val F d) (val S d))))))) μ := by
  have hz := zip_comp (me := mIf (mOr (mTst (mOp gIs (mVar 13) (mC .non))) (mTst (mOp gIs (mVar 14) (mC .non)))) (mC .non) (mCl gMax (mCons (mVar 13) (mCons (mVar 14) mNil)))) (h := fun d => eL (twiceL (val F d) (val S d))) (μ := μ) R 13 14 (fun e _ => by
    have g13 : (((wipeR ρ [13, 14]).set 13 (some (eL (val F e)))).set 14 (some (eL (val S e))))[13]? = some (some (eL (val F e))) := by simp [wipeR, List.getElem?_set, R.l]
    have g14 : (((wipeR ρ [13, 14]).set 13 (some (eL (val F e)))).set 14 (some (eL (val S e))))[14]? = some (some (eL (val S e))) := by simp [wipeR, List.getElem?_set, R.l]
    simp only [r_if, r_or, r_tst, r_op, r_c, r_cl, r_cons, rv g13, rv g14, r_nil, Out.bind_ok]
    cases val F e <;> cases val S e <;> rfl)
  unfold q_law_9
  rw [r_set, hz] <;> rfl
theorem q10_ok (c : Calm μ) (R : Rw ρ F S) (h15 : ρ[15]? = some (some (.lst ((dues 41).map fun d => eL (twiceL (val F d) (val S d)))))) : q_law_10 Pt ρ μ = .ok (.nx ρ) μ := by
  have l1 := oneLe R
  have l2 := twoLe R
  have hb := s_both (x := oneT F) (y := oneT S) (oneA F) (oneA S) c (by omega) (by omega)
  have hb' := s_both (x := oneT S) (y := oneT F) (oneA S) (oneA F) c (by omega) (by omega)
  have hk : mCallK 0 2 [1, 0] g_both mNil (mCons (mVar 6) (mCons (mVar 7) mNil)) ρ μ = .ok (.tup ((stairOf (bothO (stairOf S) (stairOf F))).map eO)) μ := by
    have hm : mCons (mVar 6) (mCons (mVar 7) mNil) ρ μ = .ok [oneT F, oneT S] μ := by
      simp only [r_cons, rv R.h6, rv R.h7, r_nil, Out.bind_ok]
    unfold mCallK
    rw [r_nil]
    simp only [Out.bind_ok, hm]
    show (if _ then g_both [oneT S, oneT F] μ else .bad) = _
    rw [if_pos ⟨rfl, rfl⟩, hb']
  have w1 := v_made (μ := μ) (A := bothO (stairOf F) (stairOf S)) (Nat.le_trans (both_le l1 l2) (by omega))
  have w2 := v_made (μ := μ) (A := bothO (stairOf S) (stairOf F)) (Nat.le_trans (both_le l2 l1) (by omega))
  have tw : ∀ a b : Option Int, twiceL a b = twiceL b a := fun a b => by
    cases a <;> cases b <;> simp [twiceL, maxI_eq]
    omega
  have n1 := ne_vals (μ := μ) (A := bothO (stairOf F) (stairOf S)) (f := fun d => twiceL (val F d) (val S d)) fun d => by rw [val_both, val_stair, val_stair]
  have n2 := ne_vals (μ := μ) (A := bothO (stairOf S) (stairOf F)) (f := fun d => twiceL (val F d) (val S d)) fun d => by rw [val_both, val_stair, val_stair, tw]
  unfold q_law_10
  simp only [r_ifS, r_or, r_tst, r_op, r_call, r_cons, r_nil, rv R.h6, rv R.h7, rv h15, hk, Out.bind_ok, List.append_nil, hb, w1, w2, n1, n2, Bool.false_eq_true, if_false, r_next]
theorem wipe1 {i j : Nat} {x : Option T} (h : i ≠ j) : ((wipeR ρ [i]).set i x)[j]? = ρ[j]? := by
  rw [set_oth h]
  show (ρ.set i none)[j]? = _
  rw [set_oth h]
theorem each_comp {me : ME} {h : Option Int → T} {x : T} {V : List (Option Int)} (i : Nat) {m : ME} (hm : m ρ μ = .ok (.lst (V.map eL)) μ) (hV : V.length ≤ 1000000)
    (hs : ∀ v ∈ V, me ((wipeR ρ [i]).set i (some (eL v))) μ = .ok (h v) μ) : mFin fzT (mLc [i] (mItS m) (gNm i) mYes me) ρ μ = .ok (.lst (V.map h)) μ := by
  have hc : compM (gNm i) mYes me (wipeR ρ [i]) (V.map eL) μ = .ok (V.map h) μ := comp_map eL h V fun v hv => ⟨_, rfl, rfl, hs v hv⟩
  simp only [r_fin, r_lc, r_itS, hm, Out.bind_ok, r_itS_lst, few_map (e := eL) hV, if_true, hc, r_fz]
theorem vals_len (A : List Off) : (vals A).length = 41 := by unfold vals; rw [List.length_map, dues_len]
theorem q11_ok (c : Calm μ) (R : Rw ρ F S) {co p : Int} (h11 : ρ[11]? = some (some (.int co))) (h12 : ρ[12]? = some (some (.int p))) : q_law_11 Pt ρ μ = .ok (.nx ρ) μ := by
  have l1 := oneLe R
  have hp := s_paid (x := oneT F) co p (oneA F) c (by omega)
  have he := s_entered_with (x := oneT F) p (oneA F) c (by omega)
  have w1 := v_made (μ := μ) (A := (stairOf F).map (payO co p)) (by rw [List.length_map]; omega)
  have w2 := v_made (μ := μ) (A := (stairOf F).map (entO p)) (by rw [List.length_map]; omega)
  have hv : mCall g__law_values [] (mCons (mVar 6) mNil) ρ μ = .ok (.lst ((vals F).map eL)) μ := by
    simp only [r_call, r_cons, r_nil, rv R.h6, Out.bind_ok, List.append_nil, v_one μ R]
  have c1 := each_comp (me := mIf (mTst (mOp gIs (mVar 16) (mC .non))) (mC .non) (mCl gMax (mCons (mVar 11) (mCons (mOp (gAdd fzT) (mOp gSub (mVar 11) (mVar 12)) (mVar 16)) mNil)))) (h := fun v => eL (v.map fun n => maxI co (co - p + n))) (x := .non) (ρ := ρ) (μ := μ) 16 hv (by rw [vals_len]; omega) (fun v _ => by
    have g16 : ((wipeR ρ [16]).set 16 (some (eL v)))[16]? = some (some (eL v)) := by simp [wipeR, List.getElem?_set, R.l]
    have g11 : ((wipeR ρ [16]).set 16 (some (eL v)))[11]? = some (some (.int co)) := (wipe1 (by decide)).trans h11
    have g12 : ((wipeR ρ [16]).set 16 (some (eL v)))[12]? = some (some (.int p)) := (wipe1 (by decide)).trans h12
    simp only [r_if, r_tst, r_op, r_c, r_cl, r_cons, rv g16, rv g11, rv g12, r_nil, Out.bind_ok]
    cases v <;> rfl)
  have c2 := each_comp (me := mIf (mTst (mOp gIs (mVar 16) (mC .non))) (mC .non) (mCl gMax (mCons (mC (.int 0)) (mCons (mOp gSub (mVar 16) (mVar 12)) mNil)))) (h := fun v => eL (v.map fun n => maxI 0 (n - p))) (x := .non) (ρ := ρ) (μ := μ) 16 hv (by rw [vals_len]; omega) (fun v _ => by
    have g16 : ((wipeR ρ [16]).set 16 (some (eL v)))[16]? = some (some (eL v)) := by simp [wipeR, List.getElem?_set, R.l]
    have g12 : ((wipeR ρ [16]).set 16 (some (eL v)))[12]? = some (some (.int p)) := (wipe1 (by decide)).trans h12
    simp only [r_if, r_tst, r_op, r_c, r_cl, r_cons, rv g16, rv g12, r_nil, Out.bind_ok]
    cases v <;> rfl)
  have n1 := ne_vals (μ := μ) (A := (stairOf F).map (payO co p)) (f := fun d => (val F d).map fun n => maxI co (co - p + n)) fun d => by rw [val_pay, val_stair]
  have n2 := ne_vals (μ := μ) (A := (stairOf F).map (entO p)) (f := fun d => (val F d).map fun n => maxI 0 (n - p)) fun d => by rw [val_ent, val_stair]
  have k1 : ((vals F).map fun v => eL (v.map fun n => maxI co (co - p + n))) = (dues 41).map fun d => eL ((val F d).map fun n => maxI co (co - p + n)) := by
    unfold vals
    rw [List.map_map] <;> rfl
  have k2 : ((vals F).map fun v => eL (v.map fun n => maxI 0 (n - p))) = (dues 41).map fun d => eL ((val F d).map fun n => maxI 0 (n - p)) := by
    unfold vals
    rw [List.map_map] <;> rfl
  rw [k1] at c1
  rw [k2] at c2
  unfold q_law_11
  simp only [r_ifS, r_or, r_tst, r_op, r_call, r_cons, r_nil, rv R.h6, rv h11, rv h12, Out.bind_ok, List.append_nil, hp, he, w1, w2, c1, c2, n1, n2, Bool.false_eq_true, if_false, r_next]
end
end Mr

namespace Mr
open PySem PySem.Spec PyProof.Rows L2
section
variable {Pt : Addr} {ρ : Rho} {μ : Mu} {F S : List Off}
theorem it41 (μ : Mu) : itR1 [.int 41] μ = .ok ((dues 41).map T.int) μ := by
  show Out.ok (rangeT 0 41) μ = _
  rw [← range_dues 41] <;> rfl
theorem it120 (μ : Mu) : itR1 [.int 120] μ = .ok ((dues 120).map T.int) μ := by
  show Out.ok (rangeT 0 120) μ = _
  rw [← range_dues 120] <;> rfl
theorem q12_ok (R : Rw ρ F S) : q_law_12 Pt ρ μ = .ok (.nx (ρ.set 17 (some (.lst ((vals S).map eL))))) μ := by
  have hc : compM (gNm 10) mYes (mCall g__law_need [] (mCons (mVar 4) (mCons (mVar 10) mNil))) (wipeR ρ [10]) ((dues 41).map T.int) μ = .ok ((dues 41).map fun d => eL (val S d)) μ := by
    refine comp_map T.int _ (dues 41) fun d _ => ⟨_, rfl, rfl, ?_⟩
    have g10 : ((wipeR ρ [10]).set 10 (some (.int d)))[10]? = some (some (.int d)) := by simp [wipeR, List.getElem?_set, R.l]
    have g4 : ((wipeR ρ [10]).set 10 (some (.int d)))[4]? = some (some (.lst (S.map eO))) := (wipe1 (by decide)).trans R.h4
    simp only [r_call, r_cons, rv g10, rv g4, r_nil, Out.bind_ok, List.append_nil]
    exact s__law_need d μ (.inl rfl) (Nat.le_trans R.hS (by omega))
  have e : ((dues 41).map fun d => eL (val S d)) = (vals S).map eL := eL_map (val S) (dues 41)
  unfold q_law_12
  simp only [r_set, r_fin, r_lc, r_it, r_cons, r_c, r_nil, Out.bind_ok, it41, few_map (e := T.int) (xs := dues 41) (by rw [dues_len]; omega), if_true, hc, r_fz, e]
theorem q13_ok (R : Rw ρ F S) : q_law_13 Pt ρ μ = .ok (.nx (ρ.set 18 (some (.lst ((never F).map T.int))))) μ := by
  have hc : compM (gTp 2 (gsCons (gNm 16) (gsCons (gNm 19) gsNil))) (mTst (mOp gIs (mVar 19) (mC .non))) (mVar 16) (wipeR ρ [16, 19]) (F.map eO) μ = .ok ((F.filter fun o => o.2.isNone).map fun o => T.int o.1) μ := by
    refine comp_filter eO _ (fun o => T.int o.1) F fun o _ => ⟨_, tp2 gsNil o _ μ 16 19, ?_, fun _ => ?_⟩
    · have g : (((wipeR ρ [16, 19]).set 16 (some (.int o.1))).set 19 (some (eL o.2)))[19]? = some (some (eL o.2)) := by simp [wipeR, List.getElem?_set, R.l]
      simp only [r_tst, r_op, rv g, r_c, Out.bind_ok]
      cases o.2 <;> rfl
    · exact rv (by simp [wipeR, List.getElem?_set, R.l])
  have e : ((F.filter fun o => o.2.isNone).map fun o => T.int o.1) = (never F).map T.int := by
    unfold never
    rw [List.map_map] <;> rfl
  have hl := R.hF
  unfold q_law_13
  simp only [r_set, r_fin, r_lc, r_itS, rv R.h3, Out.bind_ok, r_itS_lst, few_map (e := eO) (xs := F) (by omega), if_true, hc, r_fz, e]
theorem q14_ok (R : Rw ρ F S) (h17 : ρ[17]? = some (some (.lst ((vals S).map eL)))) (h18 : ρ[18]? = some (some (.lst ((never F).map T.int)))) :
    q_law_14 Pt ρ μ = .ok (.nx (ρ.set 20 (some (.lst ((vals S).map fun v => eL (leastL (minL (never F)) (v.bind (val F)))))))) μ := by
  have hm : mVar 17 ρ μ = .ok (.lst ((vals S).map eL)) μ := rv h17
  have c1 := each_comp (me := mCall g__law_least [] (mCons (mIf (mTst (mOp gNe (mVar 18) (mCl gLst mNil))) (mCl gMin (mCons (mVar 18) mNil)) (mC .non)) (mCons (mIf (mTst (mOp gIs (mVar 21) (mC .non))) (mC .non) (mCall g__law_need [] (mCons (mVar 3) (mCons (mVar 21) mNil)))) mNil)))
    (h := fun v => eL (leastL (minL (never F)) (v.bind (val F)))) (x := .non) (ρ := ρ) (μ := μ) 21 hm (by rw [vals_len]; omega) (fun v _ => by
    have g21 : ((wipeR ρ [21]).set 21 (some (eL v)))[21]? = some (some (eL v)) := by simp [wipeR, List.getElem?_set, R.l]
    have g18 : ((wipeR ρ [21]).set 21 (some (eL v)))[18]? = some (some (.lst ((never F).map T.int))) := (wipe1 (by decide)).trans h18
    have g3 : ((wipeR ρ [21]).set 21 (some (eL v)))[3]? = some (some (.lst (F.map eO))) := (wipe1 (by decide)).trans R.h3
    have a1 : mIf (mTst (mOp gNe (mVar 18) (mCl gLst mNil))) (mCl gMin (mCons (mVar 18) mNil)) (mC .non) ((wipeR ρ [21]).set 21 (some (eL v))) μ = .ok (eL (minL (never F))) μ := by
      simp only [r_if, r_tst, r_op, rv g18, r_cl, r_nil, r_lstG, show few ([] : List T) = true from rfl, if_true, Out.bind_ok, gNe, eq_ints_nil, r_cons, r_c]
      by_cases hn : never F = []
      · rw [decide_eq_true hn, hn] <;> rfl
      · rw [decide_eq_false hn]
        simp only [Bool.not_false, if_true]
        rw [gMin_lst _ _ hn]
    have a2 : mIf (mTst (mOp gIs (mVar 21) (mC .non))) (mC .non) (mCall g__law_need [] (mCons (mVar 3) (mCons (mVar 21) mNil))) ((wipeR ρ [21]).set 21 (some (eL v))) μ = .ok (eL (v.bind (val F))) μ := by
      simp only [r_if, r_tst, r_op, rv g21, rv g3, r_c, Out.bind_ok, r_call, r_cons, r_nil, List.append_nil]
      cases v with
      | none => rfl
      | some v => exact s__law_need v μ (.inl rfl) (Nat.le_trans R.hF (by omega))
    simp only [r_call, r_cons, r_nil, a1, a2, Out.bind_ok, List.append_nil, s__law_least])
  unfold q_law_14
  rw [r_set, c1] <;> rfl
theorem q15_ok (c : Calm μ) (R : Rw ρ F S) (h20 : ρ[20]? = some (some (.lst ((vals S).map fun v => eL (leastL (minL (never F)) (v.bind (val F))))))) : q_law_15 Pt ρ μ = .ok (.nx ρ) μ := by
  have l1 := oneLe R
  have l2 := twoLe R
  have ht := s_through (x := oneT F) (y := oneT S) (oneA F) (oneA S) c (by omega) (by omega)
  have w1 := v_made (μ := μ) (A := (stairOf F).flatMap (thrO (stairOf S))) (Nat.le_trans (thr_le l1 l2) (by omega))
  have k1 : ((vals S).map fun v => eL (leastL (minL (never F)) (v.bind (val F)))) = (dues 41).map fun d => eL (leastL (minL (never F)) ((val S d).bind (val F))) := by
    unfold vals
    rw [List.map_map] <;> rfl
  rw [k1] at h20
  have n1 := ne_vals (μ := μ) (A := (stairOf F).flatMap (thrO (stairOf S))) (f := fun d => leastL (minL (never F)) ((val S d).bind (val F))) fun d => by
    rw [val_thr, never_stair, val_stair]
    cases val S d with
    | none => rfl
    | some v => exact congrArg (leastL _) (val_stair F v)
  unfold q_law_15
  simp only [r_ifS, r_tst, r_op, r_call, r_cons, r_nil, rv R.h6, rv R.h7, rv h20, Out.bind_ok, List.append_nil, ht, w1, n1, Bool.false_eq_true, if_false, r_next]
theorem q16_ok (R : Rw ρ F S) : q_law_16 Pt ρ μ = .ok (.nx (ρ.set 22 (some (.lst ((cutL 5 F).map eO))))) μ := by
  have hc : compM (gTp 2 (gsCons (gNm 16) (gsCons (gNm 19) gsNil))) (mTst (mOp gLe (mVar 16) (mC (.int 5)))) (mCl gTup (mCons (mVar 16) (mCons (mIf (mTst (mOp gIs (mVar 19) (mC .non))) (mVar 19) (mCl gMax (mCons (mVar 19) (mCons (mOp gSub (mC (.int 0)) (mC (.int 5))) mNil)))) mNil))) (wipeR ρ [16, 19]) (F.map eO) μ = .ok ((F.filter fun o => decide (o.1 ≤ 5)).map fun o => eO (cutO 5 o)) μ := by
    refine comp_filter eO _ (fun o => eO (cutO 5 o)) F fun o _ => ⟨_, tp2 gsNil o _ μ 16 19, ?_, fun _ => ?_⟩
    · have g : (((wipeR ρ [16, 19]).set 16 (some (.int o.1))).set 19 (some (eL o.2)))[16]? = some (some (.int o.1)) := by simp [wipeR, List.getElem?_set, R.l]
      simp only [r_tst, r_op, rv g, r_c, Out.bind_ok]
      rfl
    · have g : (((wipeR ρ [16, 19]).set 16 (some (.int o.1))).set 19 (some (eL o.2)))[16]? = some (some (.int o.1)) := by simp [wipeR, List.getElem?_set, R.l]
      have g' : (((wipeR ρ [16, 19]).set 16 (some (.int o.1))).set 19 (some (eL o.2)))[19]? = some (some (eL o.2)) := by simp [wipeR, List.getElem?_set, R.l]
      simp only [r_cl, r_cons, r_if, r_tst, r_op, rv g, rv g', r_c, r_nil, Out.bind_ok]
      obtain ⟨n, l⟩ := o
      cases l <;> rfl
  have e : ((F.filter fun o => decide (o.1 ≤ 5)).map fun o => eO (cutO 5 o)) = (cutL 5 F).map eO := by
    rw [cutL_eq, List.map_map] <;> rfl
  have hl := R.hF
  unfold q_law_16
  simp only [r_set, r_fin, r_lc, r_itS, rv R.h3, Out.bind_ok, r_itS_lst, few_map (e := eO) (xs := F) (by omega), if_true, hc, r_fz, e]
theorem repr_bl (b : Bool) (μ : Mu) : ∃ x, gRepr [.bl b] μ = .ok (.str x) μ ∧ SeqAt.shaped (.str ⟨x.toArray⟩) = true := by
  cases b
  · exact ⟨_, rfl, by decide +kernel⟩
  · exact ⟨_, rfl, by decide +kernel⟩
theorem q17_ok (c : Calm μ) (R : Rw ρ F S) (hF : ∀ o ∈ F, FB o) (hS : ∀ o ∈ S, OffB o) (h22 : ρ[22]? = some (some (.lst ((cutL 5 F).map eO)))) : q_law_17 Pt ρ μ = .ok (.nx ρ) μ := by
  have l1 := oneLe R
  have l2 := twoLe R
  have l3 := R.hF
  have hcut := s_cut (x := oneT F) 5 (oneA F) c (by omega)
  have w1 := v_made (μ := μ) (A := cutL 5 (stairOf F)) (Nat.le_trans (cut_len 5 _) (by omega))
  have w2 := s__law_values (t := .lst ((cutL 5 F).map eO)) μ (.inl rfl) (Nat.le_trans (cut_len 5 _) (by omega))
  have n1 : gNe (.lst ((vals (stairOf (cutL 5 (stairOf F)))).map eL)) (.lst ((vals (cutL 5 F)).map eL)) μ = .ok (.bl false) μ := by
    rw [vals_stair]
    exact ne_same (eq_Ls _ _ μ) (decide_eq_true (vals_congr fun d => val_eq (cut_dom (stair_dom F)) (cut_dom (dom_stair F)) d))
  have hb := s_is_below (x := oneT F) (y := oneT S) (μ := μ) (oneA F) (oneA S) (by omega)
  have hc : compM (gNm 5) (mTru (mCall g__law_above [] (mCons (mCall g__law_need [] (mCons (mVar 6) (mCons (mVar 5) mNil))) (mCons (mCall g__law_need [] (mCons (mVar 7) (mCons (mVar 5) mNil))) mNil)))) (mC (.int 1)) (wipeR ρ [5]) ((dues 120).map T.int) μ
      = .ok (((dues 120).filter fun d => aboveL (val (stairOf F) d) (val (stairOf S) d)).map fun _ => T.int 1) μ := by
    refine comp_filter T.int _ (fun _ => T.int 1) (dues 120) fun d _ => ⟨_, rfl, ?_, fun _ => rfl⟩
    have g5 : ((wipeR ρ [5]).set 5 (some (.int d)))[5]? = some (some (.int d)) := by simp [wipeR, List.getElem?_set, R.l]
    have g6 : ((wipeR ρ [5]).set 5 (some (.int d)))[6]? = some (some (oneT F)) := (wipe1 (by decide)).trans R.h6
    have g7 : ((wipeR ρ [5]).set 5 (some (.int d)))[7]? = some (some (oneT S)) := (wipe1 (by decide)).trans R.h7
    have d1 := s__law_need d μ (oneA F) (by omega)
    have d2 := s__law_need d μ (oneA S) (by omega)
    simp only [r_tru, r_call, r_cons, rv g5, rv g6, rv g7, r_nil, Out.bind_ok, List.append_nil, d1, d2, s__law_above, tru, truT]
  have e : (((dues 120).filter fun d => aboveL (val (stairOf F) d) (val (stairOf S) d)).map fun _ => T.int 1) = (((dues 120).filter fun d => aboveL (val (stairOf F) d) (val (stairOf S) d)).map fun _ => (1 : Int)).map T.int := by
    rw [List.map_map] <;> rfl
  rw [e] at hc
  have ht : decide ((((dues 120).filter fun d => aboveL (val (stairOf F) d) (val (stairOf S) d)).map fun _ => (1 : Int)) = []) = belowB (stairOf F) (stairOf S) := by
    rw [below_tells (fun o ho => hF o (stair_sub F o ho)) (fun o ho => hS o (stair_sub S o ho))]
    exact decide_eq_decide.mpr List.map_eq_nil_iff
  obtain ⟨x, hx, hs⟩ := repr_bl (belowB (stairOf F) (stairOf S)) μ
  have m1 : gNe (.str x) (.str x) μ = .ok (.bl false) μ := ne_same (eq_strs x μ hs) rfl
  unfold q_law_17
  simp only [r_ifS, r_or, r_tst, r_op, r_call, r_cons, r_nil, r_c, r_cl, rv R.h6, rv R.h7, rv h22, Out.bind_ok, List.append_nil, hcut, w1, w2, n1, Bool.false_eq_true, if_false, hb, hx, r_fin, r_lc, r_it, it120, few_map (e := T.int) (xs := dues 120) (by rw [dues_len]; omega), if_true, hc, r_fz, r_lstG, show few ([] : List T) = true from rfl, gEq, eq_ints_nil, ht, m1, r_next]
end
end Mr

namespace Mr
open PySem PySem.Spec PyProof.Rows L2
def AllG (A : List Off) : Prop := ∀ o ∈ A, goodB o = true
theorem good_iff {n : Int} {l : Option Int} : goodB (n, l) = true ↔ 0 ≤ n ∧ ∀ k, l = some k → k ≤ n := by
  unfold goodB
  cases l with
  | none => simp
  | some l => simp
theorem AllG.stair {A : List Off} (h : AllG A) : AllG (stairOf A) := fun o ho => h o (stair_sub A o ho)
theorem AllG.app {A B : List Off} (h : AllG A) (h' : AllG B) : AllG (A ++ B) := fun o ho => by
  rcases List.mem_append.mp ho with ho | ho
  · exact h o ho
  · exact h' o ho
theorem AllG.both {A B : List Off} (h : AllG A) (h' : AllG B) : AllG (bothO A B) := fun o ho => by
  obtain ⟨⟨n, l⟩, ha, ⟨m, k⟩, hb, rfl⟩ := mem_both.mp ho
  have h1 := good_iff.mp (h _ ha)
  have h2 := good_iff.mp (h' _ hb)
  refine good_iff.mpr ⟨by show 0 ≤ maxI n m; rw [maxI_eq]; omega, fun j hj => ?_⟩
  have hj : worseL l k = some j := hj
  show j ≤ maxI n m
  rw [maxI_eq]
  unfold worseL at hj
  split at hj
  · have := h1.2 j hj; omega
  · have := h2.2 j hj; omega
theorem AllG.thr {A B : List Off} (h : AllG A) (h' : AllG B) : AllG (A.flatMap (thrO B)) := fun o ho => by
  obtain ⟨⟨n, l⟩, ha, h2⟩ := List.mem_flatMap.mp ho
  have h1 := good_iff.mp (h _ ha)
  cases l with
  | none =>
    have : o = (n, none) := List.mem_singleton.mp h2
    subst this
    exact h _ ha
  | some l =>
    obtain ⟨⟨m, k⟩, hb, rfl⟩ := List.mem_map.mp h2
    have h3 := good_iff.mp (h' _ hb)
    refine good_iff.mpr ⟨by show 0 ≤ maxI n (l + m); rw [maxI_eq]; omega, fun j hj => ?_⟩
    show j ≤ maxI n (l + m)
    rw [maxI_eq]
    cases k with
    | none => cases hj
    | some k =>
      have hj : some (l + k) = some j := hj
      cases hj
      have := h3.2 k rfl
      omega
theorem AllG.pay {A : List Off} {c p : Int} (hc : 0 ≤ c) (h : AllG A) : AllG (A.map (payO c p)) := fun o ho => by
  obtain ⟨⟨n, l⟩, ha, rfl⟩ := List.mem_map.mp ho
  have h1 := good_iff.mp (h _ ha)
  refine good_iff.mpr ⟨by show 0 ≤ maxI c (c - p + n); rw [maxI_eq]; omega, fun j hj => ?_⟩
  show j ≤ maxI c (c - p + n)
  rw [maxI_eq]
  cases l with
  | none => cases hj
  | some l =>
    have hj : some (c - p + l) = some j := hj
    cases hj
    have := h1.2 l rfl
    omega
theorem AllG.ent {A : List Off} {p : Int} (h : AllG A) : AllG (A.map (entO p)) := fun o ho => by
  obtain ⟨⟨n, l⟩, ha, rfl⟩ := List.mem_map.mp ho
  have h1 := good_iff.mp (h _ ha)
  refine good_iff.mpr ⟨by show 0 ≤ maxI 0 (n - p); rw [maxI_eq]; omega, fun j hj => ?_⟩
  show j ≤ maxI 0 (n - p)
  rw [maxI_eq]
  cases l with
  | none => cases hj
  | some l =>
    have hj : some (l - p) = some j := hj
    cases hj
    have := h1.2 l rfl
    omega
section
variable {Pt : Addr} {ρ : Rho} {μ : Mu} {F S : List Off}
theorem map_fst_false (A : List Off) : (A.map fun o => (o, false)).map (·.1) = A := by
  rw [List.map_map]
  exact List.map_id' A
theorem q18_ok {A : List Off} (c : Calm μ) (hl : A.length ≤ 1000) (hg : AllG A) (h23 : ρ[23]? = some (some (.tup ((stairOf A).map eO)))) : q_law_18 Pt ρ μ = .ok (.nx ρ) μ := by
  have hl' := stair_le A hl
  have s1 := s_stair_of (t := .tup ((stairOf A).map eO)) (.inr rfl) c (by omega)
  have n1 : gNe (.tup ((stairOf (stairOf A)).map eO)) (.tup ((stairOf A).map eO)) μ = .ok (.bl false) μ := ne_same (eq_tup (py_tupA _ _) (py_tupA _ _)) (decide_eq_true (stair_stair A))
  have s2 := s_is_stair (t := .tup ((stairOf A).map eO)) (xs := (stairOf A).map fun o => (o, false)) (IsA.b (.inr rfl)) c (by rw [List.length_map]; omega) (fun x hx => by
    obtain ⟨o, ho, rfl⟩ := List.mem_map.mp hx
    exact hg.stair o ho)
  rw [map_fst_false, decide_eq_true (stair_stair A)] at s2
  have i1 : gIsNot (.bl true) (.bl true) μ = .ok (.bl false) μ := rfl
  unfold q_law_18
  simp only [r_ifS, r_or, r_tst, r_op, r_call, r_cons, r_nil, r_c, rv h23, Out.bind_ok, List.append_nil, s1, n1, Bool.false_eq_true, if_false, s2, i1, r_next]
theorem q19_ok (c : Calm μ) (R : Rw ρ F S) (gF : AllG F) (gS : AllG S) {co p : Int} (hc : 0 ≤ co) (h11 : ρ[11]? = some (some (.int co))) (h12 : ρ[12]? = some (some (.int p))) : ∃ x, q_law_19 Pt ρ μ = .ok (.nx (ρ.set 23 x)) μ := by
  have l1 := oneLe R
  have l2 := twoLe R
  have e1 := s_either (x := oneT F) (y := oneT S) (oneA F) (oneA S) c (by omega) (by omega)
  have e2 := s_both (x := oneT F) (y := oneT S) (oneA F) (oneA S) c (by omega) (by omega)
  have e3 := s_through (x := oneT F) (y := oneT S) (oneA F) (oneA S) c (by omega) (by omega)
  have e4 := s_paid (x := oneT F) co p (oneA F) c (by omega)
  have e5 := s_entered_with (x := oneT F) p (oneA F) c (by omega)
  have gF' := gF.stair
  have gS' := gS.stair
  have g23 : ∀ t : T, (ρ.set 23 (some t))[23]? = some (some t) := fun t => set_get (by rw [R.l]; decide)
  have q1 := q18_ok (Pt := Pt) (A := stairOf F ++ stairOf S) c (by rw [List.length_append]; omega) (gF'.app gS') (g23 _)
  have q2 := q18_ok (Pt := Pt) (A := bothO (stairOf F) (stairOf S)) c (Nat.le_trans (both_le l1 l2) (by omega)) (gF'.both gS') (g23 _)
  have q3 := q18_ok (Pt := Pt) (A := (stairOf F).flatMap (thrO (stairOf S))) c (Nat.le_trans (thr_le l1 l2) (by omega)) (gF'.thr gS') (g23 _)
  have q4 := q18_ok (Pt := Pt) (A := (stairOf F).map (payO co p)) c (by rw [List.length_map]; omega) (gF'.pay hc) (g23 _)
  have q5 := q18_ok (Pt := Pt) (A := (stairOf F).map (entO p)) c (by rw [List.length_map]; omega) gF'.ent (g23 _)
  refine ⟨some (.tup ((stairOf ((stairOf F).map (entO p))).map eO)), ?_⟩
  unfold q_law_19
  simp only [r_for, r_itS, r_cl, r_cons, r_call, r_nil, rv R.h6, rv R.h7, rv h11, rv h12, Out.bind_ok, List.append_nil, r_lstG, show ∀ p q : T, few [p, q] = true from fun _ _ => rfl, if_true, e1, e2, e3, e4, e5, r_tupG, show ∀ p q r s t : T, few [p, q, r, s, t] = true from fun _ _ _ _ _ => rfl, r_itS_tup, loopM, r_nm, q1, r_step_nx, List.set_set, q2, q3, q4, q5]
end
end Mr

namespace Mr
open PySem PySem.Spec PyProof.Rows L2
section
variable {Pt : Addr} {ρ : Rho} {cells : List Int} {a r : Int} {F S : List Off}
/-- a draw in the law's store -/
theorem d_stk {many : Int} (h0 : 0 ≤ a) (h1 : a < 1048576) (hr : 0 ≤ r) (m0 : 2 ≤ many) (m1 : many < 1073741824) :
    ∃ d a' r', 0 ≤ d ∧ d < many ∧ a ≤ a' ∧ a' ≤ a + 1 ∧ 0 ≤ r' ∧ g__law_draw [.mr 1, .int many] (stk Pt cells a r) = .ok (.int d) (stk Pt cells a' r') :=
  s_draw (μ := stk Pt cells a r) rfl h0 h1 hr m0 m1
theorem q1_ok (h1 : ρ[1]? = some (some (.mr 1))) (h0 : 0 ≤ a) (ha : a < 800000) (hr : 0 ≤ r) :
    ∃ (F S : List Off) (a' r' : Int), F.length ≤ 4 ∧ S.length ≤ 4 ∧ (∀ o ∈ F, OffB o) ∧ (∀ o ∈ S, OffB o) ∧ a ≤ a' ∧ a' ≤ a + 40 ∧ 0 ≤ r' ∧
      q_law_1 Pt ρ (stk Pt cells a r) = .ok (.nx ((ρ.set 3 (some (.lst (F.map eO)))).set 4 (some (.lst (S.map eO))))) (stk Pt cells a' r') := by
  obtain ⟨n, a1, r1, e1, e2, e3, e4, e5, e6⟩ := d_stk (Pt := Pt) (cells := cells) (many := 5) h0 (by omega) hr (by omega) (by omega)
  obtain ⟨n, rfl⟩ : ∃ k : Nat, n = (k : Int) := ⟨n.toNat, by omega⟩
  obtain ⟨F, a2, r2, f1, f2, f3, f4, f5, f6⟩ := s_offers (Pt := Pt) (cells := cells) (a := a1) (r := r1) (m := n) (by omega) (by omega) e5 (by omega)
  obtain ⟨m, a3, r3, k1, k2, k3, k4, k5, k6⟩ := d_stk (Pt := Pt) (cells := cells) (a := a2) (r := r2) (many := 5) (by omega) (by omega) f5 (by omega) (by omega)
  obtain ⟨m, rfl⟩ : ∃ k : Nat, m = (k : Int) := ⟨m.toNat, by omega⟩
  obtain ⟨S, a4, r4, g1, g2, g3, g4, g5, g6⟩ := s_offers (Pt := Pt) (cells := cells) (a := a3) (r := r3) (m := m) (by omega) (by omega) k5 (by omega)
  refine ⟨F, S, a4, r4, by omega, by omega, f2, g2, by omega, by omega, g5, ?_⟩
  unfold q_law_1
  simp only [r_asg, r_cl, r_cons, r_call, r_nil, r_c, rv h1, Out.bind_ok, List.append_nil, e6, f6, k6, g6, r_tupG, show ∀ p q : T, few [p, q] = true from fun _ _ => rfl, if_true]
  rfl
/-- the long row -/
theorem long_row : ∀ (ds : List Int) (a r : Int), (∀ d ∈ ds, 0 ≤ d ∧ d < 30) → 0 ≤ a → a + ds.length < 900000 → 0 ≤ r → ρ[1]? = some (some (.mr 1)) → ρ.length = 25 →
    ∃ (os : List Off) (a' r' : Int), os.length = ds.length ∧ (∀ o ∈ os, FB o) ∧ a ≤ a' ∧ a' ≤ a + ds.length ∧ 0 ≤ r' ∧
      compM (gNm 5) mYes (mCl gTup (mCons (mOp (gAdd fzT) (mC (.int 10)) (mVar 5)) (mCons (mOp gSub (mC (.int 10)) (mOp (gMul fzT) (mVar 5) (mOp (gAdd fzT) (mC (.int 1)) (mCall g__law_draw [] (mCons (mVar 1) (mCons (mC (.int 2)) mNil)))))) mNil))) ρ (ds.map T.int) (stk Pt cells a r) = .ok (os.map eO) (stk Pt cells a' r')
  | [], a, r, _, _, _, hr, _, _ => ⟨[], a, r, rfl, fun o ho => (List.not_mem_nil ho).elim, Int.le_refl _, by simp, hr, rfl⟩
  | d :: ds, a, r, hd, h0, ha, hr, h1, hl => by
    rw [List.length_cons] at ha
    obtain ⟨x, a1, r1, e1, e2, e3, e4, e5, e6⟩ := d_stk (Pt := Pt) (cells := cells) (a := a) (r := r) (many := 2) h0 (by omega) hr (by omega) (by omega)
    obtain ⟨os, a', r', f1, f2, f3, f4, f5, f6⟩ := long_row ds a1 r1 (fun e he => hd e (List.mem_cons_of_mem _ he)) (by omega) (by omega) e5 h1 hl
    have hdd := hd d List.mem_cons_self
    have b1 : 0 ≤ d * (1 + x) := Int.mul_nonneg hdd.1 (by omega)
    have b2 : d * (1 + x) ≤ 29 * 2 := Int.mul_le_mul (by omega) (by omega) (by omega) (by omega)
    refine ⟨(10 + d, some (10 - d * (1 + x))) :: os, a', r', by rw [List.length_cons, List.length_cons, f1], fun o ho => ?_, by omega, by rw [List.length_cons]; omega, f5, ?_⟩
    · rcases List.mem_cons.mp ho with rfl | ho
      · exact ⟨by show 0 ≤ 10 + d; omega, by show 10 + d ≤ 39; omega, by show 10 - d * (1 + x) ≤ 10 + d; omega, by show -48 ≤ 10 - d * (1 + x); omega⟩
      · exact f2 o ho
    · have g5 : (ρ.set 5 (some (.int d)))[5]? = some (some (.int d)) := set_get (by rw [hl]; decide)
      have g1 : (ρ.set 5 (some (.int d)))[1]? = some (some (.mr 1)) := by rw [set_oth (by decide), h1]
      have sm : small64 d = true := small64_of (by omega) (by omega)
      rw [List.map_cons]
      unfold compM
      simp only [r_nm, Out.bind_ok, r_yes, if_true, r_cl, r_cons, r_op, r_call, r_c, r_nil, rv g5, rv g1, gAdd_i, List.append_nil, e6, gMul_l _ sm, gSub_i, r_tupG, show ∀ p q : T, few [p, q] = true from fun _ _ => rfl, f6, List.map_cons]
      rfl
theorem q3_ok {i : Int} (h1 : ρ[1]? = some (some (.mr 1))) (h2 : ρ[2]? = some (some (.int i))) (h3 : ρ[3]? = some (some (.lst (F.map eO)))) (hl : ρ.length = 25) (h0 : 0 ≤ a) (ha : a < 800000) (hr : 0 ≤ r) (hF : F.length ≤ 4) (bF : ∀ o ∈ F, OffB o) :
    ∃ (F' : List Off) (a' r' : Int), F'.length ≤ 30 ∧ (∀ o ∈ F', FB o) ∧ a ≤ a' ∧ a' ≤ a + 40 ∧ 0 ≤ r' ∧ ∃ ρ', q_law_3 Pt ρ (stk Pt cells a r) = .ok (.nx ρ') (stk Pt cells a' r') ∧ ρ'.length = 25 ∧ ρ'[3]? = some (some (.lst (F'.map eO))) ∧ ∀ j, j ≠ 3 → ρ'[j]? = ρ[j]? := by
  have ht : mTst (mOp gEq (mOp gMod (mCl gInt (mCons (mVar 2) mNil)) (mC (.int 4))) (mC (.int 3))) ρ (stk Pt cells a r) = .ok (decide (i % 4 = 3)) (stk Pt cells a r) := by
    simp only [r_tst, r_op, r_cl, r_cons, r_nil, r_c, rv h2, Out.bind_ok, gInt_i, gMod_ok _ (show (0 : Int) < 4 by omega), gEq, eqM_int]
  by_cases hi : i % 4 = 3
  · obtain ⟨n, a1, r1, e1, e2, e3, e4, e5, e6⟩ := d_stk (Pt := Pt) (cells := cells) (a := a) (r := r) (many := 18) h0 (by omega) hr (by omega) (by omega)
    obtain ⟨n, rfl⟩ : ∃ k : Nat, n = (k : Int) := ⟨n.toNat, by omega⟩
    have hw1 : (wipeR ρ [5])[1]? = some (some (.mr 1)) := by
      show (ρ.set 5 none)[1]? = _
      rw [set_oth (by decide), h1]
    have hwl : (wipeR ρ [5]).length = 25 := by
      show (ρ.set 5 none).length = _
      rw [List.length_set, hl]
    obtain ⟨os, a2, r2, f1, f2, f3, f4, f5, f6⟩ := long_row (Pt := Pt) (cells := cells) (ρ := wipeR ρ [5]) (dues (13 + n)) a1 r1 (fun d hd => by have := mem_dues.mp hd; omega) (by omega) (by rw [dues_len]; omega) e5 hw1 hwl
    rw [dues_len] at f1 f4
    have hir : inR (13 + (n : Int)) = true := by
      unfold inR
      rw [decide_eq_true (by omega), decide_eq_true (by omega)] <;> rfl
    have hit : ∀ μ : Mu, itR1 [.int (13 + (n : Int))] μ = .ok ((dues (13 + n)).map T.int) μ := fun μ => by
      show (if inR (13 + (n : Int)) = true then Out.ok (rangeT 0 (13 + (n : Int))) μ else .bad) = _
      rw [if_pos hir, ← range_dues, Int.natCast_add] <;> rfl
    refine ⟨os, a2, r2, by omega, f2, by omega, by omega, f5, ρ.set 3 (some (.lst (os.map eO))), ?_, by rw [List.length_set, hl], set_get (by rw [hl]; decide), fun j hj => set_oth (Ne.symm hj)⟩
    unfold q_law_3
    rw [r_ifS, ht]
    simp only [Out.bind_ok, decide_eq_true hi, if_true]
    unfold q_law_2
    simp only [r_set, r_fin, r_lc, r_it, r_cons, r_op, r_call, r_c, r_nil, rv h1, Out.bind_ok, List.append_nil, e6, gAdd_i, hit, few_map (e := T.int) (xs := dues (13 + n)) (by rw [dues_len]; omega), if_true, f6, r_fz]
  · refine ⟨F, a, r, by omega, fun o ho => (bF o ho).fb, Int.le_refl _, by omega, hr, ρ, ?_, hl, h3, fun j _ => rfl⟩
    unfold q_law_3
    rw [r_ifS, ht]
    simp only [Out.bind_ok, decide_eq_false hi, Bool.false_eq_true, if_false, r_next]
theorem q7_ok (h1 : ρ[1]? = some (some (.mr 1))) (h0 : 0 ≤ a) (ha : a < 800000) (hr : 0 ≤ r) :
    ∃ d co p a' r', (0 ≤ d ∧ d < 30) ∧ 0 ≤ co ∧ a ≤ a' ∧ a' ≤ a + 3 ∧ 0 ≤ r' ∧ q_law_7 Pt ρ (stk Pt cells a r) = .ok (.nx (((ρ.set 10 (some (.int d))).set 11 (some (.int co))).set 12 (some (.int p)))) (stk Pt cells a' r') := by
  obtain ⟨d, a1, r1, e1, e2, e3, e4, e5, e6⟩ := d_stk (Pt := Pt) (cells := cells) (many := 30) h0 (by omega) hr (by omega) (by omega)
  obtain ⟨co, a2, r2, f1, f2, f3, f4, f5, f6⟩ := d_stk (Pt := Pt) (cells := cells) (a := a1) (r := r1) (many := 6) (by omega) (by omega) e5 (by omega) (by omega)
  obtain ⟨p, a3, r3, k1, k2, k3, k4, k5, k6⟩ := d_stk (Pt := Pt) (cells := cells) (a := a2) (r := r2) (many := 9) (by omega) (by omega) f5 (by omega) (by omega)
  refine ⟨d, co, p, a3, r3, ⟨e1, e2⟩, f1, by omega, by omega, k5, ?_⟩
  unfold q_law_7
  simp only [r_asg, r_cl, r_cons, r_call, r_nil, r_c, rv h1, Out.bind_ok, List.append_nil, e6, f6, k6, r_tupG, show ∀ p q s : T, few [p, q, s] = true from fun _ _ _ => rfl, if_true]
  rfl
def odds : List T := [.non, .int 5, .tup [.int 1], .tup [.int 1, .int 2, .int 3], .tup [.int (-1), .non], .tup [.bl true, .int 0], .tup [.int 1, .bl true], .tup [.int 1, .str [48]], .tup [.int 1, .int 2], .dic [] [], .str [49, 48]]
theorem q20_ok (h1 : ρ[1]? = some (some (.mr 1))) (h0 : 0 ≤ a) (ha : a < 800000) (hr : 0 ≤ r) :
    ∃ t a' r', t ∈ odds ∧ a ≤ a' ∧ a' ≤ a + 1 ∧ 0 ≤ r' ∧ q_law_20 Pt ρ (stk Pt cells a r) = .ok (.nx (ρ.set 24 (some t))) (stk Pt cells a' r') := by
  obtain ⟨j, t, a', r', e1, e2, e3, e4, e5⟩ := s_pick (μ := stk Pt cells a r) (ts := odds) rfl h0 (by omega) hr (by decide) (by decide)
  refine ⟨t, a', r', List.mem_of_getElem? e1, e2, e3, e4, ?_⟩
  have e5' : g__law_pick [.mr 1, .lst odds] (stk Pt cells a r) = .ok t (stk Pt cells a' r') := e5
  have hl : (mCl gLst (mCons (mC .non) (mCons (mC (.int 5)) (mCons (mCl gTup (mCons (mC (.int 1)) mNil)) (mCons (mCl gTup (mCons (mC (.int 1)) (mCons (mC (.int 2)) (mCons (mC (.int 3)) mNil)))) (mCons (mCl gTup (mCons (mUn gNeg (mC (.int 1))) (mCons (mC .non) mNil))) (mCons (mCl gTup (mCons (mC (.bl true)) (mCons (mC (.int 0)) mNil))) (mCons (mCl gTup (mCons (mC (.int 1)) (mCons (mC (.bl true)) mNil))) (mCons (mCl gTup (mCons (mC (.int 1)) (mCons (mC (.str [48])) mNil))) (mCons (mCl gTup (mCons (mC (.int 1)) (mCons (mC (.int 2)) mNil))) (mCons mDic0 (mCons (mC (.str [49, 48])) mNil)))))))))))) ρ (stk Pt cells a r) = .ok (.lst odds) (stk Pt cells a r) := rfl
  unfold q_law_20
  simp only [r_set, r_call, r_cons, r_nil, rv h1, Out.bind_ok, List.append_nil, hl, e5']
theorem odd_offer : ∀ t ∈ odds, g_is_offer [t] (stk Pt cells a r) = .ok (.bl false) (stk Pt cells a r) := fun t ht => by
  simp only [odds, List.mem_cons, List.not_mem_nil, or_false] at ht
  rcases ht with rfl | rfl | rfl | rfl | rfl | rfl | rfl | rfl | rfl | rfl | rfl <;> exact fn_same' rfl (by rfl)
theorem odd_stair : ∀ t ∈ odds, g_is_stair [t] (stk Pt cells a r) = .ok (.bl false) (stk Pt cells a r) := fun t ht => by
  simp only [odds, List.mem_cons, List.not_mem_nil, or_false] at ht
  rcases ht with rfl | rfl | rfl | rfl | rfl | rfl | rfl | rfl | rfl | rfl | rfl <;> exact fn_same' rfl (by rfl)
end
end Mr

namespace Mr
open PySem PySem.Spec PyProof.Rows L2
section
variable {Pt : Addr} {ρ : Rho} {cells : List Int} {a r : Int} {F S : List Off}
theorem not_strict {A : List Off} (h : ¬ Strict A) : decide (stairOf A = A) = false := decide_eq_false fun e => h (e ▸ stair_strict A)
theorem q21_ok {t : T} (h24 : ρ[24]? = some (some t)) (ht : t ∈ odds) : q_law_21 Pt ρ (stk Pt cells a r) = .ok (.nx ρ) (stk Pt cells a r) := by
  have c := calm_stk Pt cells a r
  have o1 := odd_offer (Pt := Pt) (cells := cells) (a := a) (r := r) t ht
  have o2 := odd_stair (Pt := Pt) (cells := cells) (a := a) (r := r) t ht
  have o3 : g_is_stair [.lst [t]] (stk Pt cells a r) = .ok (.bl false) (stk Pt cells a r) := by
    refine fn_same' rfl ?_
    show endO (m_is_stair [some (.lst [t]), none] (stk Pt cells a r)) = _
    have c1 : compM (gNm 1) mYes (mCall g_is_offer [] (mCons (mVar 1) mNil)) [some (.lst [t]), none] [t] (stk Pt cells a r) = .ok [.bl false] (stk Pt cells a r) := by
      unfold compM
      simp only [r_nm, Out.bind_ok, r_yes, if_true, List.set_cons_succ, List.set_cons_zero, r_call, r_cons, r_var, r_nil, List.getElem?_cons_succ, List.getElem?_cons_zero, List.append_nil, o1, compM]
    unfold m_is_stair
    simp only [r_seq, r_ifS, r_or, r_not, r_tru, r_call, r_cons, r_var, r_nil, r_cl, r_c, r_fin, r_lc, r_itS, List.getElem?_cons_zero, Out.bind_ok, List.append_nil, listed_lst, tru, truT, Bool.not_true, Bool.false_eq_true, if_false, r_itS_lst, show few [t] = true from rfl, if_true, wipeR, List.set_cons_succ, List.set_cons_zero, c1, r_fz]
    rfl
  have o4 : g_is_stair [.lst [.tup [.int 3, .int 1], .tup [.int 3, .int 1]]] (stk Pt cells a r) = .ok (.bl false) (stk Pt cells a r) := by
    have h := s_is_stair (t := .lst [.tup [.int 3, .int 1], .tup [.int 3, .int 1]]) (xs := [((3, some 1), false), ((3, some 1), false)]) (.inl rfl) c (by decide) (by decide)
    rwa [not_strict (by simp [Strict])] at h
  have o5 : g_is_stair [.lst [.tup [.int 3, .int 1], .tup [.int 2, .int 0]]] (stk Pt cells a r) = .ok (.bl false) (stk Pt cells a r) := by
    have h := s_is_stair (t := .lst [.tup [.int 3, .int 1], .tup [.int 2, .int 0]]) (xs := [((3, some 1), false), ((2, some 0), false)]) (.inl rfl) c (by decide) (by decide)
    rwa [not_strict (by simp [Strict])] at h
  have i1 : gIsNot (.bl false) (.bl false) (stk Pt cells a r) = .ok (.bl false) (stk Pt cells a r) := rfl
  unfold q_law_21
  simp only [r_ifS, r_or, r_tst, r_op, r_call, r_cons, r_nil, r_c, r_cl, rv h24, Out.bind_ok, List.append_nil, o1, o2, i1, Bool.false_eq_true, if_false, r_lstG, show ∀ p : T, few [p] = true from fun _ => rfl, show ∀ p q : T, few [p, q] = true from fun _ _ => rfl, if_true, r_tupG, o3, o4, o5, r_next]
/-- one turn -/
def turnM (Pt : Addr) : MS := (mSeq (q_law_1 Pt)
  (mSeq (q_law_3 Pt)
  (mSeq (q_law_4 Pt)
  (mSeq (q_law_5 Pt)
  (mSeq (q_law_6 Pt)
  (mSeq (q_law_7 Pt)
  (mSeq (q_law_8 Pt)
  (mSeq (q_law_9 Pt)
  (mSeq (q_law_10 Pt)
  (mSeq (q_law_11 Pt)
  (mSeq (q_law_12 Pt)
  (mSeq (q_law_13 Pt)
  (mSeq (q_law_14 Pt)
  (mSeq (q_law_15 Pt)
  (mSeq (q_law_16 Pt)
  (mSeq (q_law_17 Pt)
  (mSeq (q_law_19 Pt)
  (mSeq (q_law_20 Pt)
  (q_law_21 Pt)))))))))))))))))))
theorem tab_stk (Pt : Addr) (cells : List Int) (a r : Int) : hasTab 0 Pt (lamQ "law") (stk Pt cells a r) = true := by
  unfold hasTab stk
  simp
theorem seq_step {m n : MS} {ρ ρ' : Rho} {μ μ' : Mu} {x : Out Flo} (h : m ρ μ = .ok (.nx ρ') μ') (h' : n ρ' μ' = x) : mSeq m n ρ μ = x := by
  rw [r_seq, h, r_seq_nx, h']
theorem turn_ok {i : Int} (hl : ρ.length = 25) (h1 : ρ[1]? = some (some (.mr 1))) (h2 : ρ[2]? = some (some (.int i))) (h0 : 0 ≤ a) (ha : a < 700000) (hr : 0 ≤ r) :
    ∃ a' r' ρ', 0 ≤ a' ∧ a' ≤ a + 100 ∧ 0 ≤ r' ∧ ρ'.length = 25 ∧ ρ'[1]? = some (some (.mr 1)) ∧ turnM Pt ρ (stk Pt cells a r) = .ok (.nx ρ') (stk Pt cells a' r') := by
  obtain ⟨F0, S, a1, r1, e1, e2, e3, e4, e5, e6, e7, e8⟩ := q1_ok (Pt := Pt) (cells := cells) (ρ := ρ) (a := a) (r := r) h1 h0 (by omega) hr
  generalize hρ1 : (ρ.set 3 (some (.lst (F0.map eO)))).set 4 (some (.lst (S.map eO))) = ρ1 at e8
  have l1 : ρ1.length = 25 := by rw [← hρ1, List.length_set, List.length_set, hl]
  have g1 : ρ1[1]? = some (some (.mr 1)) := by rw [← hρ1, set_oth (by decide), set_oth (by decide), h1]
  have g2 : ρ1[2]? = some (some (.int i)) := by rw [← hρ1, set_oth (by decide), set_oth (by decide), h2]
  have g3 : ρ1[3]? = some (some (.lst (F0.map eO))) := by rw [← hρ1, set_oth (by decide), set_get (by rw [hl]; decide)]
  have g4 : ρ1[4]? = some (some (.lst (S.map eO))) := by rw [← hρ1, set_get (by rw [List.length_set, hl]; decide)]
  obtain ⟨F, a2, r2, f1, f2, f3, f4, f5, ρ2, f6, l2, k3, kk⟩ := q3_ok (Pt := Pt) (cells := cells) (ρ := ρ1) (a := a1) (r := r1) g1 g2 g3 l1 (by omega) (by omega) e7 e1 e3
  have k1 : ρ2[1]? = some (some (.mr 1)) := (kk 1 (by decide)).trans g1
  have k4 : ρ2[4]? = some (some (.lst (S.map eO))) := (kk 4 (by decide)).trans g4
  have c2 := calm_stk Pt cells a2 r2
  have s4 := q4_ok (Pt := Pt) (ρ := ρ2) c2 k3 k4 (by omega) (by omega)
  generalize hρ3 : (ρ2.set 6 (some (oneT F))).set 7 (some (oneT S)) = ρ3 at s4
  have l3 : ρ3.length = 25 := by rw [← hρ3, List.length_set, List.length_set, l2]
  have R3 : Rw ρ3 F S := ⟨l3, by rw [← hρ3, set_oth (by decide), set_oth (by decide), k3], by rw [← hρ3, set_oth (by decide), set_oth (by decide), k4], by rw [← hρ3, set_oth (by decide), set_get (by rw [l2]; decide)], by rw [← hρ3, set_get (by rw [List.length_set, l2]; decide)], f1, by omega⟩
  have n1 : ρ3[1]? = some (some (.mr 1)) := by rw [← hρ3, set_oth (by decide), set_oth (by decide), k1]
  have s5 := q5_ok (Pt := Pt) (ρ := ρ3) (F := F) c2 (tab_stk Pt cells a2 r2) R3.h3 R3.h6 (by omega)
  have s6 := q6_ok (Pt := Pt) (ρ := ρ3) (F := F) (μ := stk Pt cells a2 r2) R3.h6 l3 (by omega)
  obtain ⟨d, co, p, a3, r3, bd, bc, b3, b4, b5, s7⟩ := q7_ok (Pt := Pt) (cells := cells) (ρ := ρ3) (a := a2) (r := r2) n1 (by omega) (by omega) f5
  have c3 := calm_stk Pt cells a3 r3
  generalize hρ4 : ((ρ3.set 10 (some (.int d))).set 11 (some (.int co))).set 12 (some (.int p)) = ρ4 at s7
  have R4 : Rw ρ4 F S := by rw [← hρ4]; exact ((R3.set (by decide)).set (by decide)).set (by decide)
  have m1 : ρ4[1]? = some (some (.mr 1)) := by rw [← hρ4, set_oth (by decide), set_oth (by decide), set_oth (by decide), n1]
  have m10 : ρ4[10]? = some (some (.int d)) := by rw [← hρ4, set_oth (by decide), set_oth (by decide), set_get (by rw [l3]; decide)]
  have m11 : ρ4[11]? = some (some (.int co)) := by rw [← hρ4, set_oth (by decide), set_get (by rw [List.length_set, l3]; decide)]
  have m12 : ρ4[12]? = some (some (.int p)) := by rw [← hρ4, set_get (by rw [List.length_set, List.length_set, l3]; decide)]
  have s8 := q8_ok (Pt := Pt) (ρ := ρ4) c3 R4 m10 f2 bd
  have s9 := q9_ok (Pt := Pt) (μ := stk Pt cells a3 r3) R4
  generalize hx5 : T.lst ((dues 41).map fun d => eL (twiceL (val F d) (val S d))) = x5 at s9
  have R5 := R4.set (i := 15) (x := some x5) (by decide)
  have s10 := q10_ok (Pt := Pt) (ρ := ρ4.set 15 (some x5)) c3 R5 (by rw [set_get (by rw [R4.l]; decide), ← hx5])
  have o11 : (ρ4.set 15 (some x5))[11]? = some (some (.int co)) := by rw [set_oth (by decide), m11]
  have o12 : (ρ4.set 15 (some x5))[12]? = some (some (.int p)) := by rw [set_oth (by decide), m12]
  have o1 : (ρ4.set 15 (some x5))[1]? = some (some (.mr 1)) := by rw [set_oth (by decide), m1]
  have s11 := q11_ok (Pt := Pt) (ρ := ρ4.set 15 (some x5)) c3 R5 o11 o12
  have s12 := q12_ok (Pt := Pt) (μ := stk Pt cells a3 r3) R5
  generalize ρ4.set 15 (some x5) = ρ5 at R5 s9 s10 s11 s12 o1 o11 o12
  have R6 := R5.set (i := 17) (x := some (.lst ((vals S).map eL))) (by decide)
  have p17 : (ρ5.set 17 (some (.lst ((vals S).map eL))))[17]? = some (some (.lst ((vals S).map eL))) := set_get (by rw [R5.l]; decide)
  have p1 : (ρ5.set 17 (some (.lst ((vals S).map eL))))[1]? = some (some (.mr 1)) := by rw [set_oth (by decide), o1]
  have p11 : (ρ5.set 17 (some (.lst ((vals S).map eL))))[11]? = some (some (.int co)) := by rw [set_oth (by decide), o11]
  have p12 : (ρ5.set 17 (some (.lst ((vals S).map eL))))[12]? = some (some (.int p)) := by rw [set_oth (by decide), o12]
  generalize ρ5.set 17 (some (.lst ((vals S).map eL))) = ρ6 at R6 s12 p17 p1 p11 p12
  have s13 := q13_ok (Pt := Pt) (μ := stk Pt cells a3 r3) R6
  have R7 := R6.set (i := 18) (x := some (.lst ((never F).map T.int))) (by decide)
  have t17 : (ρ6.set 18 (some (.lst ((never F).map T.int))))[17]? = some (some (.lst ((vals S).map eL))) := by rw [set_oth (by decide), p17]
  have t18 : (ρ6.set 18 (some (.lst ((never F).map T.int))))[18]? = some (some (.lst ((never F).map T.int))) := set_get (by rw [R6.l]; decide)
  have t1 : (ρ6.set 18 (some (.lst ((never F).map T.int))))[1]? = some (some (.mr 1)) := by rw [set_oth (by decide), p1]
  have t11 : (ρ6.set 18 (some (.lst ((never F).map T.int))))[11]? = some (some (.int co)) := by rw [set_oth (by decide), p11]
  have t12 : (ρ6.set 18 (some (.lst ((never F).map T.int))))[12]? = some (some (.int p)) := by rw [set_oth (by decide), p12]
  generalize ρ6.set 18 (some (.lst ((never F).map T.int))) = ρ7 at R7 s13 t17 t18 t1 t11 t12
  have s14 := q14_ok (Pt := Pt) (μ := stk Pt cells a3 r3) R7 t17 t18
  generalize hx8 : T.lst ((vals S).map fun v => eL (leastL (minL (never F)) (v.bind (val F)))) = x8 at s14
  have R8 := R7.set (i := 20) (x := some x8) (by decide)
  have s15 := q15_ok (Pt := Pt) (ρ := ρ7.set 20 (some x8)) c3 R8 (by rw [set_get (by rw [R7.l]; decide), ← hx8])
  have u1 : (ρ7.set 20 (some x8))[1]? = some (some (.mr 1)) := by rw [set_oth (by decide), t1]
  have u11 : (ρ7.set 20 (some x8))[11]? = some (some (.int co)) := by rw [set_oth (by decide), t11]
  have u12 : (ρ7.set 20 (some x8))[12]? = some (some (.int p)) := by rw [set_oth (by decide), t12]
  generalize ρ7.set 20 (some x8) = ρ8 at R8 s14 s15 u1 u11 u12
  have s16 := q16_ok (Pt := Pt) (μ := stk Pt cells a3 r3) R8
  have R9 := R8.set (i := 22) (x := some (.lst ((cutL 5 F).map eO))) (by decide)
  have v22 : (ρ8.set 22 (some (.lst ((cutL 5 F).map eO))))[22]? = some (some (.lst ((cutL 5 F).map eO))) := set_get (by rw [R8.l]; decide)
  have v1 : (ρ8.set 22 (some (.lst ((cutL 5 F).map eO))))[1]? = some (some (.mr 1)) := by rw [set_oth (by decide), u1]
  have v11 : (ρ8.set 22 (some (.lst ((cutL 5 F).map eO))))[11]? = some (some (.int co)) := by rw [set_oth (by decide), u11]
  have v12 : (ρ8.set 22 (some (.lst ((cutL 5 F).map eO))))[12]? = some (some (.int p)) := by rw [set_oth (by decide), u12]
  generalize ρ8.set 22 (some (.lst ((cutL 5 F).map eO))) = ρ9 at R9 s16 v22 v1 v11 v12
  have s17 := q17_ok (Pt := Pt) (ρ := ρ9) c3 R9 f2 e4 v22
  obtain ⟨x10, s19⟩ := q19_ok (Pt := Pt) (ρ := ρ9) c3 R9 (fun o ho => (f2 o ho).good) (fun o ho => (e4 o ho).fb.good) bc v11 v12
  have w1 : (ρ9.set 23 x10)[1]? = some (some (.mr 1)) := by rw [set_oth (by decide), v1]
  have R10 := R9.set (i := 23) (x := x10) (by decide)
  generalize ρ9.set 23 x10 = ρ10 at R10 s19 w1
  obtain ⟨t, a4, r4, y1, y2, y3, y4, s20⟩ := q20_ok (Pt := Pt) (cells := cells) (ρ := ρ10) (a := a3) (r := r3) w1 (by omega) (by omega) b5
  have s21 := q21_ok (Pt := Pt) (cells := cells) (a := a4) (r := r4) (ρ := ρ10.set 24 (some t)) (set_get (by rw [R10.l]; decide)) y1
  refine ⟨a4, r4, ρ10.set 24 (some t), by omega, by omega, y4, by rw [List.length_set, R10.l], by rw [set_oth (by decide), w1], ?_⟩
  unfold turnM
  exact seq_step e8 (seq_step f6 (seq_step s4 (seq_step s5 (seq_step s6 (seq_step s7 (seq_step s8 (seq_step s9 (seq_step s10 (seq_step s11 (seq_step s12 (seq_step s13 (seq_step s14 (seq_step s15 (seq_step s16 (seq_step s17 (seq_step s19 (seq_step s20 s21)))))))))))))))))
theorem it12 (μ : Mu) : itR1 [.int 12] μ = .ok ((dues 12).map T.int) μ := by
  show Out.ok (rangeT 0 12) μ = _
  rw [← range_dues 12] <;> rfl
theorem q22_ok (hl : ρ.length = 25) (h1 : ρ[1]? = some (some (.mr 1))) : ∃ ρ' a' r', q_law_22 Pt ρ (stk Pt cells 0 0) = .ok (.nx ρ') (stk Pt cells a' r') := by
  obtain ⟨ρ', μ', e, _, _, a', r', _, _, _, rfl⟩ := loop_all (g := gNm 2) (mb := turnM Pt) (I := fun i ρ μ => ρ.length = 25 ∧ ρ[1]? = some (some (.mr 1)) ∧ ∃ (a r : Int), 0 ≤ a ∧ a ≤ 100 * i ∧ 0 ≤ r ∧ μ = stk Pt cells a r)
    ((dues 12).map T.int) 0 ρ (stk Pt cells 0 0) ⟨hl, h1, 0, 0, Int.le_refl _, Int.le_refl _, Int.le_refl _, rfl⟩ (fun j t ρ μ ht ⟨hl, h1, a, r, h0, ha, hr, e⟩ => by
      subst e
      have hj : j < 12 := by
        have := (List.getElem?_eq_some_iff.mp ht).1
        rwa [List.length_map, dues_len] at this
      obtain ⟨i, rfl⟩ : ∃ i : Int, t = .int i := by
        obtain ⟨i, _, e⟩ := List.mem_map.mp (List.mem_of_getElem? ht)
        exact ⟨i, e.symm⟩
      obtain ⟨a', r', ρ', e1, e2, e3, e4, e5, e6⟩ := turn_ok (Pt := Pt) (cells := cells) (ρ := ρ.set 2 (some (.int i))) (i := i) (a := a) (r := r) (by rw [List.length_set, hl]) (by rw [set_oth (by decide), h1]) (set_get (by rw [hl]; decide)) h0 (by omega) hr
      exact ⟨_, _, rfl, ρ', _, .inl e6, e4, e5, a', r', e1, by omega, e3, rfl⟩)
  refine ⟨ρ', a', r', ?_⟩
  unfold q_law_22
  simp only [r_for, r_it, r_cons, r_c, r_nil, Out.bind_ok, it12]
  exact e
theorem q23_ok : q_law_23 Pt ρ (stk Pt cells a r) = .ok (.rt (.bl true)) (stk Pt cells a r) := by
  have c := calm_stk Pt cells a r
  have o1 : g_is_offer [.lst [.int 3, .int 3]] (stk Pt cells a r) = .ok (.bl true) (stk Pt cells a r) := s_is_offer ((3, some 3), true) _
  have o2 : g_is_offer [.tup [.int 0, .non]] (stk Pt cells a r) = .ok (.bl true) (stk Pt cells a r) := s_is_offer ((0, none), false) _
  have o3 : g_is_stair [.tup []] (stk Pt cells a r) = .ok (.bl true) (stk Pt cells a r) := by
    have h := s_is_stair (t := .tup []) (xs := []) (.inr rfl) c (by decide) (fun x hx => (List.not_mem_nil hx).elim)
    rwa [decide_eq_true (stair_of_strict (by simp [Strict]))] at h
  have o4 : g_is_stair [.lst [.lst [.int 5, .int 2], .tup [.int 6, .int 1], .lst [.int 7, .non]]] (stk Pt cells a r) = .ok (.bl true) (stk Pt cells a r) := by
    have h := s_is_stair (t := .lst [.lst [.int 5, .int 2], .tup [.int 6, .int 1], .lst [.int 7, .non]]) (xs := [((5, some 2), true), ((6, some 1), false), ((7, none), true)]) (.inl rfl) c (by decide) (by decide)
    rwa [decide_eq_true (stair_of_strict (by simp [Strict, Lle]))] at h
  have i1 : gIs (.bl true) (.bl true) (stk Pt cells a r) = .ok (.bl true) (stk Pt cells a r) := rfl
  unfold q_law_23
  simp only [r_ret, r_andV, r_op, r_call, r_cons, r_nil, r_c, r_cl, Out.bind_ok, List.append_nil, r_lstG, r_tupG, show few ([] : List T) = true from rfl, show ∀ p q : T, few [p, q] = true from fun _ _ => rfl, show ∀ p q s : T, few [p, q, s] = true from fun _ _ _ => rfl, if_true, o1, o2, o3, o4, i1, truT]
end
theorem pen_ok (Pt : Addr) (ns : List Int) : ∃ cells, g__law_pen [.kls (ns.map T.int)] [.tab Pt (lamQ "law")] = .ok (.mr 1) (stk Pt cells 0 0) := by
  refine ⟨cutT ns none (some 63), ?_⟩
  have e : cutT (ns.map T.int) none (some 63) = (cutT ns none (some 63)).map T.int := by
    unfold cutT
    rw [List.length_map, List.map_take, List.map_drop]
  show endO (m__law_pen [some (.kls (ns.map T.int))] [.tab Pt (lamQ "law")]) = _
  have hs : mSl fzT (mVar 0) mPN (mPS (mC (.int 63))) [some (.kls (ns.map T.int))] [.tab Pt (lamQ "law")] = .ok (.lst ((cutT ns none (some 63)).map T.int)) [.tab Pt (lamQ "law")] := by
    rw [← e] <;> rfl
  unfold m__law_pen
  simp only [r_ret, r_cl, r_cons, r_nil, r_c, hs, Out.bind_ok]
  rfl
theorem plain : PlainLaw := fun Pt ns _ _ => by
  obtain ⟨cells, hp⟩ := pen_ok Pt ns
  obtain ⟨ρ', a', r', h22⟩ := q22_ok (Pt := Pt) (cells := cells) (ρ := (startR 25 [.kls (ns.map T.int)]).set 1 (some (.mr 1))) rfl rfl
  refine ⟨_, fn_made (t := .bl true) (u := .bl true) (ν := [penO cells a' r']) (μ := [.tab Pt (lamQ "law")]) rfl (fun ν n _ => rfl) ?_ rfl (by simp)⟩
  show endO (m_law Pt (startR 25 [.kls (ns.map T.int)]) [.tab Pt (lamQ "law")]) = .ok (.bl true) (stk Pt cells a' r')
  have h1 : mSet 1 (mCall g__law_pen [] (mCons (mVar 0) mNil)) (startR 25 [.kls (ns.map T.int)]) [.tab Pt (lamQ "law")] = .ok (.nx ((startR 25 [.kls (ns.map T.int)]).set 1 (some (.mr 1)))) (stk Pt cells 0 0) := by
    have g0 : (startR 25 [.kls (ns.map T.int)])[0]? = some (some (.kls (ns.map T.int))) := rfl
    simp only [r_set, r_call, r_cons, r_nil, rv g0, Out.bind_ok, List.append_nil, hp]
  unfold m_law
  simp only [r_seq, h1, r_seq_nx, h22, q23_ok, endO]
end Mr
theorem PySem.Challenge.cw_anydepth_k05_stairs_by_trying_dues_holds : PySem.Challenge.rw_anydepth_k05_stairs_by_trying_dues.Holds := by
  exact Mr.holdsOf Mr.plain
