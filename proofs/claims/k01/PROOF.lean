import PyProof.Rows.All
import Wide.All
import OpenK.AllK
import Wide.FinOn
import HandS.ForMost
import HandS.ForExc
import HandS.IsInst
import HandS.TupAny
import HandS.More
import KE.KEqNest
import PySem.Challenge.RW_turnedrun_k01_sums_and_questions
set_option Elab.async false
set_option linter.all false
set_option maxRecDepth 100000
set_option maxHeartbeats 4000000
namespace DL
open PySem L2
/-! looks at the text that are cheap to decide -/
def isStar : Expr → Bool
  | .Starred _ _ => true
  | _ => false
def noStar : List Expr → Bool
  | [] => true
  | e :: es => !isStar e && noStar es
theorem star_cons {e : Expr} {es : List Expr} (h : isStar e = false) (env : Env) : starEach (e :: es) env = (false, eval e env) :: starEach es env := by
  cases e <;> first
    | rfl
    | exact absurd h (by simp [isStar])
theorem star_one {e : Expr} (h : isStar e = false) (env : Env) : starEach [e] env = [(false, eval e env)] := by rw [star_cons h]; rfl
theorem star_two {a b : Expr} (h : isStar a = false) (h2 : isStar b = false) (env : Env) : starEach [a, b] env = [(false, eval a env), (false, eval b env)] := by rw [star_cons h, star_one h2]
theorem star_no : ∀ {es : List Expr}, noStar es = true → ∀ env, (starEach es env).any (·.1) = false
  | [], _, _ => rfl
  | e :: es, h, env => by
    rw [noStar, Bool.and_eq_true, Bool.not_eq_true'] at h
    rw [star_cons h.1, List.any_cons, star_no h.2 env]
    rfl
theorem star_any {es : List Expr} (h : noStar es = true) (pos : Pos) (env : Env) : (backTo pos (starEach es env)).any (·.1) = false := by
  rw [← star_no h env]
  unfold backTo
  rw [List.any_map]
  rfl
/-- no comprehension at the outside -/
def isCmp : Expr → Bool
  | .ListComp _ _ _ _ => true
  | .SetComp _ _ _ _ => true
  | .DictComp _ _ _ _ _ => true
  | _ => false
theorem swap_no {e : Expr} (h : isCmp e = false) (t : Option Expr) (n : Nat) (env : Env) : swapsWith e t n env = pure false := by
  cases e <;> first
    | rfl
    | exact absurd h (by simp [isCmp])
theorem sole_no {e : Expr} (h : isCmp e = false) (t : Expr) (n : Nat) (env : Env) : swapsWithSole [t] e n env = pure false := swap_no h _ n env
def isTup : Expr → Bool
  | .Tuple _ _ _ => true
  | _ => false
theorem stores_no {e : Expr} (h : isTup e = false) (t : Expr) (env : Env) : swappedStores [t] e env = pure none := by
  cases e
  case Tuple => cases h
  all_goals (cases t <;> rfl)
/-- a plain test -/
def isPlain : Expr → Bool
  | .UnaryOp .Not _ _ => false
  | .BoolOp _ _ _ => false
  | .IfExp _ _ _ _ => false
  | .Compare _ _ _ _ => false
  | _ => true
theorem test_plain {e : Expr} (h : isPlain e = true) (env : Env) (whole : Sem Value) : isTrue e env whole = (do let v ← whole; standAt e.pos; holding [v] (truthy v)) := by
  cases e
  case UnaryOp op _ _ => cases op <;> first | rfl | (exact Bool.noConfusion h)
  case BoolOp => exact Bool.noConfusion h
  case IfExp => exact Bool.noConfusion h
  case Compare => exact Bool.noConfusion h
  all_goals rfl
def isSetD : Expr → Bool
  | .Set _ _ _ => true
  | _ => false
theorem fold_no {e : Expr} (h : isSetD e = false) (env : Env) (x : Value) : foldedSetIterable e env x = pure x := by
  cases e <;> first
    | rfl
    | exact absurd h (by simp [isSetD])
/-- no call without arguments -/
def isCall0 : Expr → Bool
  | .Call _ [] _ _ => true
  | _ => false
theorem base_no {o : Expr} (h : isCall0 o = false) (m : Str) (env : Env) (w : Sem Value) : attributeBase o m env w = w := by
  unfold attributeBase
  split
  · exact absurd h (by simp [isCall0])
  · rfl
def isSlc : Expr → Bool
  | .Slice _ _ _ _ => true
  | _ => false
theorem ix_plain {b : Expr} (h : isSlc b = false) : PlainIx b := fun o i => by
  cases b <;> first
    | rfl
    | exact absurd h (by simp [isSlc])
theorem ix_nosl {b : Expr} (h : isSlc b = false) : NoSl b := fun o i => by
  cases b <;> first
    | rfl
    | exact absurd h (by simp [isSlc])
theorem m2_ok {X : Cx} {o e f : Expr} {m : Str} {apos pos : Pos} (ho : isCall0 o = false) (he : isStar e = false) (hf : isStar f = false) (hl : (apos.endLine == pos.line) = true) : M2 X o m apos e f pos := by
  refine ⟨base_no ho m _ _, ?_, hl, ?_⟩
  · rw [star_two he hf]; rfl
  · rw [star_two he hf]; rfl
/-! lists of constants -/
end DL

set_option Elab.async false
set_option linter.all false
set_option maxRecDepth 100000
set_option maxHeartbeats 4000000
/-! A logic of plain data over the hand layer: what an expression comes to, where a block ends, said of data alone. -/
namespace DL
open PySem L2

/-- plain data -/
inductive D where
  | non | bl (b : Bool) | int (i : Int) | str (x : Str) | tup (xs : List D) | lst (xs : List D) | dic (kvs : List (Str × D)) | scr (ns : List Int) | ty (n : String)

mutual
/-- a value bears data, in the part F of the heap that stays -/
inductive Rep (K : PySem.W.Frag) (F : Hp) : V → D → Prop
  | non : Rep K F .non .non
  | bl (b : Bool) : Rep K F (.bl b) (.bl b)
  | int (i : Int) : Rep K F (.int i) (.int i)
  | str (x : Str) : Rep K F (.str x) (.str x)
  | ty (n : String) : Rep K F (.ty n) (.ty n)
  | tup {a : Addr} {vs : List V} {ds : List D} : SqT K F a vs → RepL K F vs ds → Rep K F (.ref a) (.tup ds)
  | lst {a : Addr} {vs : List V} {ds : List D} : F a = some (.lst vs) → RepL K F vs ds → Rep K F (.ref a) (.lst ds)
  | dic {a : Addr} {kvs : List (Key × V)} {ks : List (Str × D)} : F a = some (.dK kvs) → RepK K F kvs ks → Rep K F (.ref a) (.dic ks)
  | scr {a : Addr} {ns : List Int} : SqL K F a (ns.map V.int) → Rep K F (.ref a) (.scr ns)
inductive RepL (K : PySem.W.Frag) (F : Hp) : List V → List D → Prop
  | nil : RepL K F [] []
  | cons {v : V} {vs : List V} {d : D} {ds : List D} : Rep K F v d → RepL K F vs ds → RepL K F (v :: vs) (d :: ds)
inductive RepK (K : PySem.W.Frag) (F : Hp) : List (Key × V) → List (Str × D) → Prop
  | nil : RepK K F [] []
  | cons {x : Str} {v : V} {vs : List (Key × V)} {d : D} {ds : List (Str × D)} : Rep K F v d → RepK K F vs ds → RepK K F ((Sum.inr x, v) :: vs) ((x, d) :: ds)
end

section
variable {K : PySem.W.Frag} {F F' : Hp}
theorem same_rd {a : Addr} {u : HO} (e : Same F F') (h : Rd F a u) : Rd F' a u := by
  rcases h with h | ⟨o, h⟩
  · exact .inl (e a _ h)
  · exact .inr ⟨o, e a _ h⟩
theorem same_T {a : Addr} {vs : List V} (e : Same F F') (h : SqT K F a vs) : SqT K F' a vs := by
  rcases h with h | h
  · exact .inl (same_rd e h)
  · exact .inr h
mutual
theorem Rep.mono (e : Same F F') : ∀ {v : V} {d : D}, Rep K F v d → Rep K F' v d
  | _, _, .non => .non
  | _, _, .bl b => .bl b
  | _, _, .int i => .int i
  | _, _, .str x => .str x
  | _, _, .ty n => .ty n
  | _, _, .tup h r => .tup (same_T e h) (RepL.mono e r)
  | _, _, .lst h r => .lst (e _ _ h) (RepL.mono e r)
  | _, _, .dic h r => .dic (e _ _ h) (RepK.mono e r)
  | _, _, .scr h => .scr (e.seq h)
theorem RepL.mono (e : Same F F') : ∀ {vs : List V} {ds : List D}, RepL K F vs ds → RepL K F' vs ds
  | _, _, .nil => .nil
  | _, _, .cons h r => .cons (Rep.mono e h) (RepL.mono e r)
theorem RepK.mono (e : Same F F') : ∀ {vs : List (Key × V)} {ds : List (Str × D)}, RepK K F vs ds → RepK K F' vs ds
  | _, _, .nil => .nil
  | _, _, .cons h r => .cons (Rep.mono e h) (RepK.mono e r)
end
theorem RepL.length : ∀ {vs : List V} {ds : List D}, RepL K F vs ds → vs.length = ds.length
  | _, _, .nil => rfl
  | _, _, .cons _ r => congrArg (· + 1) r.length
theorem RepL.get : ∀ {vs : List V} {ds : List D} {i : Nat} {d : D}, RepL K F vs ds → ds[i]? = some d → ∃ v, vs[i]? = some v ∧ Rep K F v d
  | _, _, _, _, .nil, e => by simp at e
  | _, _, 0, _, .cons h _, e => by simp at e; subst e; exact ⟨_, rfl, h⟩
  | _, _, i + 1, _, .cons _ r, e => by
    obtain ⟨v, h1, h2⟩ := r.get (i := i) (by simpa using e)
    exact ⟨v, by simpa using h1, h2⟩
theorem RepL.getV : ∀ {vs : List V} {ds : List D} {i : Nat} {v : V}, RepL K F vs ds → vs[i]? = some v → ∃ d, ds[i]? = some d ∧ Rep K F v d
  | _, _, _, _, .nil, e => by simp at e
  | _, _, 0, _, .cons h _, e => by simp at e; subst e; exact ⟨_, rfl, h⟩
  | _, _, i + 1, _, .cons _ r, e => by
    obtain ⟨v, h1, h2⟩ := r.getV (i := i) (by simpa using e)
    exact ⟨v, by simpa using h1, h2⟩
theorem RepL.append : ∀ {vs ws : List V} {ds es : List D}, RepL K F vs ds → RepL K F ws es → RepL K F (vs ++ ws) (ds ++ es)
  | _, _, _, _, .nil, s => s
  | _, _, _, _, .cons h r, s => .cons h (r.append s)
theorem RepL.take : ∀ (n : Nat) {vs : List V} {ds : List D}, RepL K F vs ds → RepL K F (vs.take n) (ds.take n)
  | 0, _, _, _ => .nil
  | _ + 1, _, _, .nil => .nil
  | n + 1, _, _, .cons h r => .cons h (RepL.take n r)
theorem RepL.drop : ∀ (n : Nat) {vs : List V} {ds : List D}, RepL K F vs ds → RepL K F (vs.drop n) (ds.drop n)
  | 0, _, _, r => r
  | _ + 1, _, _, .nil => .nil
  | n + 1, _, _, .cons _ r => RepL.drop n r
theorem RepL.reverse : ∀ {vs : List V} {ds : List D}, RepL K F vs ds → RepL K F vs.reverse ds.reverse
  | _, _, .nil => .nil
  | _, _, .cons h r => by
    rw [List.reverse_cons, List.reverse_cons]
    exact r.reverse.append (.cons h .nil)
theorem RepL.set {v : V} {d : D} (h : Rep K F v d) : ∀ (i : Nat) {vs : List V} {ds : List D}, RepL K F vs ds → RepL K F (vs.set i v) (ds.set i d)
  | _, _, _, .nil => .nil
  | 0, _, _, .cons _ r => .cons h r
  | i + 1, _, _, .cons q r => .cons q (RepL.set h i r)
theorem RepL.ints : ∀ (ns : List Int), RepL K F (ns.map V.int) (ns.map D.int)
  | [] => .nil
  | n :: r => .cons (.int n) (RepL.ints r)
theorem RepL.ints_inv : ∀ {ns : List Int} {vs : List V}, RepL K F vs (ns.map D.int) → vs = ns.map V.int
  | [], _, .nil => rfl
  | n :: r, _, .cons h t => by cases h; rw [RepL.ints_inv t]; rfl
theorem RepL.strs_inv : ∀ {ns : List Str} {vs : List V}, RepL K F vs (ns.map D.str) → vs = ns.map V.str
  | [], _, .nil => rfl
  | n :: r, _, .cons h t => by cases h; rw [RepL.strs_inv t]; rfl
theorem RepL.bls_inv : ∀ {ns : List Bool} {vs : List V}, RepL K F vs (ns.map D.bl) → vs = ns.map V.bl
  | [], _, .nil => rfl
  | n :: r, _, .cons h t => by cases h; rw [RepL.bls_inv t]; rfl
end

/-- from one place to a later one: what stays grows, all objects stay, nothing that stood outside is taken in -/
structure Grow (F H F' H' : Hp) : Prop where
  f : Same F F'
  h : Same H H'
  fh : Same F' H'
  sep : ∀ a o, H a = some o → F a = none → F' a = none
theorem Grow.refl {F H : Hp} (h : Same F H) : Grow F H F H := ⟨Same.refl F, Same.refl H, h, fun _ _ _ e => e⟩
theorem Grow.trans {F H F1 H1 F2 H2 : Hp} (a : Grow F H F1 H1) (b : Grow F1 H1 F2 H2) : Grow F H F2 H2 :=
  ⟨a.f.trans b.f, a.h.trans b.h, b.fh, fun x o e n => b.sep x o (a.h x o e) (a.sep x o e n)⟩
theorem same_upd {H : Hp} {a : Addr} {o : HO} (n : H a = none) : Same H (upd H a o) := fun b u e => by
  rw [upd_ne (ne_of_none e n)]
  exact e
theorem same_updB {F H : Hp} {a : Addr} {o : HO} (s : Same F H) : Same (upd F a o) (upd H a o) := fun b u e => by
  by_cases h : b = a
  · subst h; rw [upd_same] at e ⊢; exact e
  · rw [upd_ne h] at e ⊢; exact s b u e
theorem same_mut {F H : Hp} {a : Addr} {o : HO} (s : Same F H) (n : F a = none) : Same F (upd H a o) := fun b u e => by
  rw [upd_ne (ne_of_none e n)]
  exact s b u e
/-- a new object, laid and kept -/
theorem Grow.new {F H : Hp} {a : Addr} {o : HO} (s : Same F H) (n : H a = none) : Grow F H (upd F a o) (upd H a o) :=
  ⟨same_upd (s.free n), same_upd n, same_updB s, fun b u e z => by rw [upd_ne (ne_of_none e n)]; exact z⟩
/-- a new object, laid and held apart -/
theorem Grow.apart {F H : Hp} {a : Addr} {o : HO} (s : Same F H) (n : H a = none) : Grow F H F (upd H a o) :=
  ⟨Same.refl F, same_upd n, same_mut s (s.free n), fun _ _ _ z => z⟩
/-- nothing new is known -/
theorem Grow.shrink {F H F' H' : Hp} (s : Same F H) (g : Same H H') : Grow F H F H' := ⟨Same.refl F, g, s.trans g, fun _ _ _ z => z⟩

/-- a slot: nothing known, data that stays, an object of one's own (list, dict) with what it holds -/
inductive Sl where
  | no | va (d : D) | ow (d : D)

/-- an object of one's own holds d -/
def Obj (K : PySem.W.Frag) (F : Hp) (o : Option HO) (d : D) : Prop :=
  (∃ vs ds, o = some (.lst vs) ∧ d = .lst ds ∧ RepL K F vs ds) ∨ (∃ kvs ks, o = some (.dK kvs) ∧ d = .dic ks ∧ RepK K F kvs ks)
theorem Obj.mono {K : PySem.W.Frag} {F F' : Hp} {o : Option HO} {d : D} (e : Same F F') (h : Obj K F o d) : Obj K F' o d := by
  rcases h with ⟨vs, ds, h1, h2, h3⟩ | ⟨vs, ds, h1, h2, h3⟩
  · exact .inl ⟨vs, ds, h1, h2, h3.mono e⟩
  · exact .inr ⟨vs, ds, h1, h2, h3.mono e⟩
theorem Obj.some {K : PySem.W.Frag} {F : Hp} {o : Option HO} {d : D} (h : Obj K F o d) : ∃ u, o = some u := by
  rcases h with ⟨vs, ds, h1, _⟩ | ⟨vs, ds, h1, _⟩
  · exact ⟨_, h1⟩
  · exact ⟨_, h1⟩
/-- put among what stays -/
theorem Obj.froze {K : PySem.W.Frag} {F : Hp} {a : Addr} {u : HO} {d : D} (n : F a = none) (h : Obj K F (Option.some u) d) : Rep K (upd F a u) (.ref a) d := by
  rcases h with ⟨vs, ds, h1, rfl, h3⟩ | ⟨vs, ds, h1, rfl, h3⟩
  · cases h1
    exact .lst upd_same (h3.mono (same_upd n))
  · cases h1
    exact .dic upd_same (h3.mono (same_upd n))

def SlOk (K : PySem.W.Frag) (H0 F H : Hp) (v : Option (Option V)) : Sl → Prop
  | .no => True
  | .va d => ∃ u, v = some (some u) ∧ Rep K F u d
  | .ow d => ∃ a, v = some (some (.ref a)) ∧ F a = none ∧ H0 a = none ∧ Obj K F (H a) d

/-- the state: the entry's heaps F0, H0; the slots, what stays, all -/
structure Stt (K : PySem.W.Frag) (F0 H0 : Hp) (ρ : List Sl) (σ : St) (F H : Hp) : Prop where
  g : Grow F0 H0 F H
  len : σ.length = ρ.length
  sl : ∀ (i : Nat) (s : Sl), ρ[i]? = some s → SlOk K H0 F H σ[i]? s
  ne : ∀ (i j : Nat) (d e : D) (a : Addr), ρ[i]? = some (.ow d) → ρ[j]? = some (.ow e) → σ[i]? = some (some (.ref a)) → σ[j]? = some (some (.ref a)) → i = j

section
variable {K : PySem.W.Frag} {F0 H0 F H F' H' : Hp} {ρ : List Sl} {σ : St}
theorem Stt.fh (S : Stt K F0 H0 ρ σ F H) : Same F H := S.g.fh
theorem Stt.grow (S : Stt K F0 H0 ρ σ F H) (g : Grow F H F' H') : Stt K F0 H0 ρ σ F' H' := by
  refine ⟨S.g.trans g, S.len, fun i s e => ?_, S.ne⟩
  have h := S.sl i s e
  cases s with
  | no => exact trivial
  | va d =>
    obtain ⟨u, e1, r⟩ := h
    exact ⟨u, e1, r.mono g.f⟩
  | ow d =>
    obtain ⟨a, e1, n, n0, o⟩ := h
    obtain ⟨u, hu⟩ := o.some
    refine ⟨a, e1, g.sep a u hu n, n0, ?_⟩
    rw [g.h a u hu, ← hu]
    exact o.mono g.f
theorem Stt.set_va (S : Stt K F0 H0 ρ σ F H) {i : Nat} {v : V} {d : D} (hi : i < ρ.length) (r : Rep K F v d) : Stt K F0 H0 (ρ.set i (.va d)) (σ.set i (some v)) F H := by
  refine ⟨S.g, by rw [List.length_set, List.length_set, S.len], fun j s e => ?_, fun j k d1 d2 a e1 e2 e3 e4 => ?_⟩
  · by_cases h : i = j
    · subst h
      rw [List.getElem?_set_self hi] at e
      cases e
      exact ⟨v, by rw [List.getElem?_set_self (by rw [S.len]; exact hi)], r⟩
    · rw [List.getElem?_set_ne h] at e ⊢
      exact S.sl j s e
  · have h1 : i ≠ j := fun z => by subst z; rw [List.getElem?_set_self hi] at e1; cases e1
    have h2 : i ≠ k := fun z => by subst z; rw [List.getElem?_set_self hi] at e2; cases e2
    rw [List.getElem?_set_ne h1] at e1 e3
    rw [List.getElem?_set_ne h2] at e2 e4
    exact S.ne j k d1 d2 a e1 e2 e3 e4
theorem Stt.own_there (S : Stt K F0 H0 ρ σ F H) {i : Nat} {d : D} {a : Addr} (e : ρ[i]? = some (.ow d)) (h : σ[i]? = some (some (.ref a))) : (∃ u, H a = some u) ∧ F a = none ∧ H0 a = none ∧ Obj K F (H a) d := by
  obtain ⟨b, e1, n, n0, o⟩ := S.sl i _ e
  rw [h] at e1
  cases e1
  exact ⟨o.some, n, n0, o⟩
theorem Stt.set_ow (S : Stt K F0 H0 ρ σ F H) {i : Nat} {a : Addr} {d : D} (g : Grow F H F' H') (hi : i < ρ.length) (n : F' a = none) (n0 : H a = none) (o : Obj K F' (H' a) d) : Stt K F0 H0 (ρ.set i (.ow d)) (σ.set i (some (.ref a))) F' H' := by
  have S' := S.grow g
  have fresh : ∀ (j : Nat) (e : D) (b : Addr), ρ[j]? = some (.ow e) → σ[j]? = some (some (.ref b)) → b ≠ a := fun j e b h1 h2 => by
    obtain ⟨⟨u, hu⟩, _⟩ := S.own_there h1 h2
    exact ne_of_none hu n0
  refine ⟨S'.g, by rw [List.length_set, List.length_set, S.len], fun j s e => ?_, fun j k d1 d2 b e1 e2 e3 e4 => ?_⟩
  · by_cases h : i = j
    · subst h
      rw [List.getElem?_set_self hi] at e
      cases e
      exact ⟨a, by rw [List.getElem?_set_self (by rw [S.len]; exact hi)], n, S.g.h.free n0, o⟩
    · rw [List.getElem?_set_ne h] at e ⊢
      exact S'.sl j s e
  · by_cases h1 : i = j
    · subst h1
      by_cases h2 : i = k
      · exact h2
      · rw [List.getElem?_set_ne h2] at e2 e4
        rw [List.getElem?_set_self (by rw [S.len]; exact hi)] at e3
        cases e3
        exact absurd rfl (fresh k d2 _ e2 e4)
    · rw [List.getElem?_set_ne h1] at e1 e3
      by_cases h2 : i = k
      · subst h2
        rw [List.getElem?_set_self (by rw [S.len]; exact hi)] at e4
        cases e4
        exact absurd rfl (fresh j d1 _ e1 e3)
      · rw [List.getElem?_set_ne h2] at e2 e4
        exact S.ne j k d1 d2 b e1 e2 e3 e4
/-- one's own object in slot i is changed -/
theorem Stt.mut (S : Stt K F0 H0 ρ σ F H) {i : Nat} {a : Addr} {d d' : D} {u : HO} (e : ρ[i]? = some (.ow d)) (h : σ[i]? = some (some (.ref a))) (o : Obj K F (some u) d') : Stt K F0 H0 (ρ.set i (.ow d')) σ F (upd H a u) := by
  obtain ⟨⟨w, hw⟩, n, n0, _⟩ := S.own_there e h
  have hi : i < ρ.length := (List.getElem?_eq_some_iff.mp e).1
  have other : ∀ (j : Nat) (e' : D) (b : Addr), i ≠ j → ρ[j]? = some (.ow e') → σ[j]? = some (some (.ref b)) → b ≠ a := fun j e' b hj h1 h2 z => by
    subst z
    exact hj (S.ne i j _ _ _ e h1 h h2)
  refine ⟨⟨S.g.f, fun b x z => ?_, same_mut S.fh n, S.g.sep⟩, by rw [List.length_set, S.len], fun j s e1 => ?_, fun j k d1 d2 b e1 e2 e3 e4 => ?_⟩
  · rw [upd_ne (ne_of_none z n0)]
    exact S.g.h b x z
  · by_cases hj : i = j
    · subst hj
      rw [List.getElem?_set_self hi] at e1
      cases e1
      exact ⟨a, h, n, n0, by rw [upd_same]; exact o⟩
    · rw [List.getElem?_set_ne hj] at e1
      have q := S.sl j s e1
      cases s with
      | no => exact trivial
      | va d => exact q
      | ow d2 =>
        obtain ⟨b, h1, h2, h3, h4⟩ := q
        exact ⟨b, h1, h2, h3, by rw [upd_ne (other j d2 b hj e1 h1)]; exact h4⟩
  · by_cases hj : i = j
    · subst hj
      by_cases hk : i = k
      · exact hk
      · rw [List.getElem?_set_ne hk] at e2
        rw [h] at e3
        cases e3
        exact absurd rfl (other k d2 _ hk e2 e4)
    · rw [List.getElem?_set_ne hj] at e1
      by_cases hk : i = k
      · subst hk
        rw [h] at e4
        cases e4
        exact absurd rfl (other j d1 _ hj e1 e3)
      · rw [List.getElem?_set_ne hk] at e2
        exact S.ne j k d1 d2 b e1 e2 e3 e4
/-- one's own object is put among what stays -/
theorem Stt.freeze (S : Stt K F0 H0 ρ σ F H) {i : Nat} {d : D} (e : ρ[i]? = some (.ow d)) : ∃ F', Same F F' ∧ Stt K F0 H0 (ρ.set i (.va d)) σ F' H := by
  obtain ⟨a, h, n, n0, o⟩ := S.sl i _ e
  obtain ⟨u, hu⟩ := o.some
  have hi : i < ρ.length := (List.getElem?_eq_some_iff.mp e).1
  have other : ∀ (j : Nat) (e' : D) (b : Addr), i ≠ j → ρ[j]? = some (.ow e') → σ[j]? = some (some (.ref b)) → b ≠ a := fun j e' b hj h1 h2 z => by
    subst z
    exact hj (S.ne i j _ _ _ e h1 h h2)
  have s1 : Same F (upd F a u) := same_upd n
  have s2 : Same (upd F a u) H := fun b x z => by
    by_cases hb : b = a
    · subst hb; rw [upd_same] at z; cases z; exact hu
    · rw [upd_ne hb] at z; exact S.fh b x z
  rw [hu] at o
  refine ⟨upd F a u, s1, ⟨S.g.f.trans s1, S.g.h, s2, fun b x z q => ?_⟩, by rw [List.length_set, S.len], fun j s e1 => ?_, fun j k d1 d2 b e1 e2 e3 e4 => ?_⟩
  · rw [upd_ne (ne_of_none z n0)]
    exact S.g.sep b x z q
  · by_cases hj : i = j
    · subst hj
      rw [List.getElem?_set_self hi] at e1
      cases e1
      exact ⟨_, h, o.froze n⟩
    · rw [List.getElem?_set_ne hj] at e1
      have q := S.sl j s e1
      cases s with
      | no => exact trivial
      | va d =>
        obtain ⟨u', e5, r⟩ := q
        exact ⟨u', e5, r.mono s1⟩
      | ow d2 =>
        obtain ⟨b, h1, h2, h3, h4⟩ := q
        exact ⟨b, h1, by rw [upd_ne (other j d2 b hj e1 h1)]; exact h2, h3, h4.mono s1⟩
  · have hj : i ≠ j := fun z => by subst z; rw [List.getElem?_set_self hi] at e1; cases e1
    have hk : i ≠ k := fun z => by subst z; rw [List.getElem?_set_self hi] at e2; cases e2
    rw [List.getElem?_set_ne hj] at e1
    rw [List.getElem?_set_ne hk] at e2
    exact S.ne j k d1 d2 b e1 e2 e3 e4
end
/-- the slots at a def's entry -/
def rho (N : List Str) (ds : List D) : List Sl := ds.map .va ++ List.replicate (N.length - ds.length) .no
end DL

set_option Elab.async false
set_option linter.all false
set_option maxRecDepth 100000
set_option maxHeartbeats 4000000
namespace DL
open PySem L2

/-- what a place of the text stands in: the program, the written part, the module's names; room for k calls -/
structure Cc where
  P : Program
  w : World
  K : PySem.W.Frag
  mg : Str → Option Value
  base : Heap
  k : Nat
/-- the slots' names, the scope; which cells may be stored to -/
structure Nm where
  N : List Str
  sc : Scope
  own : Str → Bool

structure Cin (c : Cc) (η : Nm) (X : Cx) : Prop where
  prog : X.prog = c.P
  w : X.w = c.w
  K : X.K = c.K
  mg : X.mg = c.mg
  base : X.base = c.base
  N : X.N = η.N
  sc : X.env.scope = η.sc
  room : Room c.k X.A
  calm : X.calm = true
  fn : ∀ x, η.own x = true → X.fn x = true
  po : PassesOwn (model X.prog X.w) X.A X.env X.xe

variable {c : Cc} {η : Nm}

/-! ### weakest readings -/
def WE (c : Cc) (η : Nm) (e : Expr) : TE := fun σ H Q => ∀ X, Cin c η X → ∀ pins s, Inv X pins σ H s → wpAny (model X.prog X.w) X.A (eval e X.env) (EP X pins σ Q) X.xe s
def WT (c : Cc) (η : Nm) (e : Expr) : TT := fun σ H Q => ∀ X, Cin c η X → ∀ pins s, Inv X pins σ H s → wpAny (model X.prog X.w) X.A (isTrue e X.env (eval e X.env)) (TP X pins σ Q) X.xe s
def WP (c : Cc) (η : Nm) (e : Expr) : TT := fun σ H Q => ∀ X, Cin c η X → ∀ whole pins s, Inv X pins σ H s → wpAny (model X.prog X.w) X.A (isTrue e X.env whole) (TP X pins σ Q) X.xe s
def WA (c : Cc) (η : Nm) (es : List Expr) : TA := fun σ H Q => ∀ X, Cin c η X → ∀ (pos : Pos) pins s, Inv X pins σ H s → wpAny (model X.prog X.w) X.A (spliced (backTo pos (starEach es X.env))) (AP X pins σ Q) X.xe s
def WS (c : Cc) (η : Nm) (st : Stmt) : TS := fun D σ H => ∀ X, Cin c η X → ∀ pins s, Inv X pins σ H s → wpAny (model X.prog X.w) X.A (exec st X.env) (SP X pins D) X.xe s
def WB (c : Cc) (η : Nm) (st : List Stmt) : TS := fun D σ H => ∀ X, Cin c η X → ∀ pins s, Inv X pins σ H s → wpAny (model X.prog X.w) X.A (execs st X.env) (SP X pins D) X.xe s
def WG (c : Cc) (η : Nm) (tg : Expr) : TG := fun v σ H Q => ∀ X, Cin c η X → ∀ pins s u, Inv X pins σ H s → RelV v u → wpAny (model X.prog X.w) X.A (assign tg X.env u) (fun _ s' => ∃ σ' H', Inv X pins σ' H' s' ∧ Q σ' H') X.xe s
def WI (c : Cc) (η : Nm) (tg iter : Expr) : TI := fun σ H R => ∀ X, Cin c η X → ∀ pins s, Inv X pins σ H s →
  wpAny (model X.prog X.w) X.A (eval iter X.env) (fun v s1 => wpAny (model X.prog X.w) X.A (pyIter v) (PIE X pins σ tg R) X.xe s1) X.xe s

theorem WE.pe {e : Expr} {X : Cx} (hX : Cin c η X) : PE X e (WE c η e) := ⟨fun pins s _ _ _ I h => h X hX pins s I⟩
theorem WT.pt {e : Expr} {X : Cx} (hX : Cin c η X) : PT X e (WT c η e) := ⟨fun pins s _ _ _ I h => h X hX pins s I⟩
theorem WP.pw {e : Expr} {X : Cx} (hX : Cin c η X) : PW X e (WP c η e) := ⟨fun wh pins s _ _ _ I h => h X hX wh pins s I⟩
theorem WA.pa {es : List Expr} {X : Cx} (hX : Cin c η X) : PA X es (WA c η es) := ⟨fun pos pins s _ _ _ I h => h X hX pos pins s I⟩
theorem WS.ps {e : Stmt} {X : Cx} (hX : Cin c η X) : PS X e (WS c η e) := ⟨fun pins s _ _ _ I h => h X hX pins s I⟩
theorem WB.pb {e : List Stmt} {X : Cx} (hX : Cin c η X) : PSs X e (WB c η e) := ⟨fun pins s _ _ _ I h => h X hX pins s I⟩
theorem WG.pg {e : Expr} {X : Cx} (hX : Cin c η X) : PG X e (WG c η e) := ⟨fun pins s _ _ _ u _ I r h => h X hX pins s u I r⟩
theorem WI.pi {tg e : Expr} {X : Cx} (hX : Cin c η X) : PI X tg e (WI c η tg e) := ⟨fun pins s _ _ _ I h => h X hX pins s I⟩
theorem WE.of {e : Expr} {t : TE} {σ : St} {H : Hp} {Q : VK} (h : ∀ X, Cin c η X → PE X e t) (q : t σ H Q) : WE c η e σ H Q := fun X hX pins s I => (h X hX).run pins s σ H Q I q
theorem WT.of {e : Expr} {t : TT} {σ : St} {H : Hp} {Q : Bool → Hp → Prop} (h : ∀ X, Cin c η X → PT X e t) (q : t σ H Q) : WT c η e σ H Q := fun X hX pins s I => (h X hX).run pins s σ H Q I q
theorem WP.of {e : Expr} {t : TT} {σ : St} {H : Hp} {Q : Bool → Hp → Prop} (h : ∀ X, Cin c η X → PW X e t) (q : t σ H Q) : WP c η e σ H Q := fun X hX wh pins s I => (h X hX).run wh pins s σ H Q I q
theorem WA.of {e : List Expr} {t : TA} {σ : St} {H : Hp} {Q : List V → Hp → Prop} (h : ∀ X, Cin c η X → PA X e t) (q : t σ H Q) : WA c η e σ H Q := fun X hX pos pins s I => (h X hX).run pos pins s σ H Q I q
theorem WS.of {e : Stmt} {t : TS} {σ : St} {H : Hp} {D : Ends} (h : ∀ X, Cin c η X → PS X e t) (q : t D σ H) : WS c η e D σ H := fun X hX pins s I => (h X hX).run pins s σ H D I q
theorem WB.of {e : List Stmt} {t : TS} {σ : St} {H : Hp} {D : Ends} (h : ∀ X, Cin c η X → PSs X e t) (q : t D σ H) : WB c η e D σ H := fun X hX pins s I => (h X hX).run pins s σ H D I q
theorem WG.of {e : Expr} {t : TG} {v : V} {σ : St} {H : Hp} {Q : St → Hp → Prop} (h : ∀ X, Cin c η X → PG X e t) (q : t v σ H Q) : WG c η e v σ H Q := fun X hX pins s u I r => (h X hX).run pins s σ H v u Q I r q
theorem WI.of {tg e : Expr} {t : TI} {σ : St} {H : Hp} {R : It → Hp → Prop} (h : ∀ X, Cin c η X → PI X tg e t) (q : t σ H R) : WI c η tg e σ H R := fun X hX pins s I => (h X hX).run pins s σ H R I q

/-! ### what things come to -/
/-- an expression comes to d -/
structure ED (c : Cc) (η : Nm) (e : Expr) (ρ : List Sl) (d : D) : Prop where
  run : ∀ F0 H0 σ F H, Stt c.K F0 H0 ρ σ F H → ∀ Q : VK, (∀ v F' H', Grow F H F' H' → Rep c.K F' v d → Q v H') → WE c η e σ H Q
/-- .. to a new object of one's own, which holds d -/
structure EO (c : Cc) (η : Nm) (e : Expr) (ρ : List Sl) (d : D) : Prop where
  run : ∀ F0 H0 σ F H, Stt c.K F0 H0 ρ σ F H → ∀ Q : VK, (∀ a F' H', Grow F H F' H' → F' a = none → H a = none → Obj c.K F' (H' a) d → Q (.ref a) H') → WE c η e σ H Q
structure ET (c : Cc) (η : Nm) (e : Expr) (ρ : List Sl) (b : Bool) : Prop where
  run : ∀ F0 H0 σ F H, Stt c.K F0 H0 ρ σ F H → ∀ Q : Bool → Hp → Prop, (∀ F' H', Grow F H F' H' → Q b H') → WT c η e σ H Q
structure EP' (c : Cc) (η : Nm) (e : Expr) (ρ : List Sl) (b : Bool) : Prop where
  run : ∀ F0 H0 σ F H, Stt c.K F0 H0 ρ σ F H → ∀ Q : Bool → Hp → Prop, (∀ F' H', Grow F H F' H' → Q b H') → WP c η e σ H Q
structure EA (c : Cc) (η : Nm) (es : List Expr) (ρ : List Sl) (ds : List D) : Prop where
  run : ∀ F0 H0 σ F H, Stt c.K F0 H0 ρ σ F H → ∀ Q : List V → Hp → Prop, (∀ vs F' H', Grow F H F' H' → RepL c.K F' vs ds → Q vs H') → WA c η es σ H Q

variable {ρ : List Sl} {a b e : Expr} {pos : Pos} {d d1 d2 : D}

theorem EO.ed (h : EO c η e ρ d) : ED c η e ρ d := ⟨fun F0 H0 σ F H S Q q => h.run F0 H0 σ F H S Q fun a F' H' g n n0 o => by
  obtain ⟨u, hu⟩ := o.some
  rw [hu] at o
  refine q (.ref a) (upd F' a u) H' ⟨g.f.trans (same_upd n), g.h, fun b x z => ?_, fun b x z y => ?_⟩ (o.froze n)
  · by_cases hb : b = a
    · subst hb; rw [upd_same] at z; cases z; exact hu
    · rw [upd_ne hb] at z; exact g.fh b x z
  · rw [upd_ne (ne_of_none z n0)]
    exact g.sep b x z y⟩
theorem ED.is (h : ED c η e ρ d1) (q : d1 = d2) : ED c η e ρ d2 := by rw [← q]; exact h
theorem EO.is (h : EO c η e ρ d1) (q : d1 = d2) : EO c η e ρ d2 := by rw [← q]; exact h
theorem ET.is {b1 b2 : Bool} (h : ET c η e ρ b1) (q : b1 = b2) : ET c η e ρ b2 := by rw [← q]; exact h

/-! names and constants -/
def visB (sc : Scope) (x : Str) : Bool := sc.names.lookup x == some .local || sc.names.lookup x == some .cell || sc.names.lookup x == some .free
theorem vis_of {sc : Scope} {x : Str} (h : visB sc x = true) : Vis sc x := by
  unfold visB at h
  simp only [Bool.or_eq_true, beq_iff_eq] at h
  rcases h with (h | h) | h
  · exact .inl h
  · exact .inr (.inl h)
  · exact .inr (.inr h)
theorem ed_var (i : Nat) {x : Str} (hρ : ρ[i]? = some (.va d)) (hN : η.N[i]? = some x := by rfl) (hv : visB η.sc x = true := by decide +kernel)
    (hd : (x == ("__debug__" : Str)) = false := by decide) (hcd : (x == ("__classdict__" : Str)) = false := by decide) : ED c η (.Name x pos) ρ d := ⟨fun F0 H0 σ F H S Q q => by
  obtain ⟨u, e1, r⟩ := S.sl i _ hρ
  exact WE.of (t := tVar i) (fun X hX => pe_var (by rw [hX.N]; exact hN) (by rw [hX.sc]; exact vis_of hv) hd hcd) ⟨u, e1, q u F H (.refl S.fh) r⟩⟩
theorem ed_int {i : Int} {j : Nat} : ED c η (.Constant (.int i) j pos) ρ (.int i) := ⟨fun F0 H0 σ F H S Q q => WE.of (fun _ _ => pe_int) (q _ F H (.refl S.fh) (.int i))⟩
theorem ed_bl {i : Bool} {j : Nat} : ED c η (.Constant (.bool i) j pos) ρ (.bl i) := ⟨fun F0 H0 σ F H S Q q => WE.of (fun _ _ => pe_bl) (q _ F H (.refl S.fh) (.bl i))⟩
theorem ed_non {j : Nat} : ED c η (.Constant .none j pos) ρ .non := ⟨fun F0 H0 σ F H S Q q => WE.of (fun _ _ => pe_non) (q _ F H (.refl S.fh) .non)⟩
theorem ed_str {i : Str} {j : Nat} : ED c η (.Constant (.str i) j pos) ρ (.str i) := ⟨fun F0 H0 σ F H S Q q => WE.of (fun _ _ => pe_str) (q _ F H (.refl S.fh) (.str i))⟩
def glB (sc : Scope) (x : Str) : Bool := sc.names.lookup x == some .globalImplicit
theorem gl_of {x : Str} {X : Cx} (hX : Cin c η X) (h : glB η.sc x = true) : Gl X x := by
  show X.env.scope.names.lookup x = _
  rw [hX.sc]
  exact by simpa [glB] using h
/-- a constant of the module -/
theorem ed_glob {x : Str} {v : V} {u : Value} (hm : c.mg x = some u) (r : RelV v u) (rep : ∀ F, Rep c.K F v d) (hg : glB η.sc x = true := by decide +kernel) (hd : (x == ("__debug__" : Str)) = false := by decide) : ED c η (.Name x pos) ρ d := ⟨fun F0 H0 σ F H S Q q =>
  WE.of (t := tC v) (fun X hX => pe_glob (gl_of hX hg) (by rw [hX.mg]; exact hm) r hd) (q v F H (.refl S.fh) (rep F))⟩
theorem ed_type {x : Str} {n : String} (hm : c.mg x = none) (hv : bootBuiltins x = some (.type n)) (hg : glB η.sc x = true := by decide +kernel) (hn : x ≠ "__name__" := by decide) (hd : (x == ("__debug__" : Str)) = false := by decide) : ED c η (.Name x pos) ρ (.ty n) := ⟨fun F0 H0 σ F H S Q q =>
  WE.of (t := tC (.ty n)) (fun X hX => pe_bltn (v := .ty n) (gl_of hX hg) (by rw [hX.mg]; exact hm) hv rfl hn hd) (q _ F H (.refl S.fh) (.ty n))⟩

/-! two places -/
/-- an operation upon values: of d1 and d2 it gives d -/
def RD (K : PySem.W.Frag) (r : R2) (d1 d2 d : D) : Prop := ∀ F H v1 v2, Same F H → Rep K F v1 d1 → Rep K F v2 d2 → ∀ Q : VK, (∀ v F' H', Grow F H F' H' → Rep K F' v d → Q v H') → r v1 v2 H Q
def RO (K : PySem.W.Frag) (r : R2) (d1 d2 d : D) : Prop := ∀ F H v1 v2, Same F H → Rep K F v1 d1 → Rep K F v2 d2 → ∀ Q : VK, (∀ a F' H', Grow F H F' H' → F' a = none → H a = none → Obj K F' (H' a) d → Q (.ref a) H') → r v1 v2 H Q
theorem tOp_of {r : R2} (ha : ED c η a ρ d1) (hb : ED c η b ρ d2) {F0 H0 F H : Hp} {σ : St} (S : Stt c.K F0 H0 ρ σ F H) {Q : VK}
    (k : ∀ F' H' v1 v2, Grow F H F' H' → Rep c.K F' v1 d1 → Rep c.K F' v2 d2 → r v1 v2 H' Q) : tOp r (WE c η a) (WE c η b) σ H Q :=
  ha.run F0 H0 σ F H S _ fun v1 F1 H1 g1 r1 => hb.run F0 H0 σ F1 H1 (S.grow g1) _ fun v2 F2 H2 g2 r2 => k F2 H2 v1 v2 (g1.trans g2) (r1.mono g2.f) r2
theorem ed_op {op : Operator} {r : R2} (ho : ∀ X, Cin c η X → OpR X (binaryOp op) r) (hr : RD c.K r d1 d2 d) (ha : ED c η a ρ d1) (hb : ED c η b ρ d2) : ED c η (.BinOp a op b pos) ρ d := ⟨fun F0 H0 σ F H S Q q =>
  WE.of (fun X hX => pe_op (ho X hX) (WE.pe hX) (WE.pe hX)) (tOp_of ha hb S fun F1 H1 v1 v2 g r1 r2 => hr F1 H1 v1 v2 g.fh r1 r2 Q fun v F' H' g' r' => q v F' H' (g.trans g') r')⟩
theorem eo_op {op : Operator} {r : R2} (ho : ∀ X, Cin c η X → OpR X (binaryOp op) r) (hr : RO c.K r d1 d2 d) (ha : ED c η a ρ d1) (hb : ED c η b ρ d2) : EO c η (.BinOp a op b pos) ρ d := ⟨fun F0 H0 σ F H S Q q =>
  WE.of (fun X hX => pe_op (ho X hX) (WE.pe hX) (WE.pe hX)) (tOp_of ha hb S fun F1 H1 v1 v2 g r1 r2 => hr F1 H1 v1 v2 g.fh r1 r2 Q fun v F' H' g' n n0 o => q v F' H' (g.trans g') n (Same.free g.h n0) o)⟩
theorem ed_cmp {op : CmpOp} {r : R2} (ho : ∀ X, Cin c η X → OpR X (compareOp op) r) (hr : RD c.K r d1 d2 d) (hm : behindInMarks op b = false) (ha : ED c η a ρ d1) (hb : ED c η b ρ d2) : ED c η (.Compare a [op] [b] pos) ρ d := ⟨fun F0 H0 σ F H S Q q =>
  WE.of (fun X hX => pe_cmpR (ho X hX) (WE.pe hX) (WE.pe hX) hm) (tOp_of ha hb S fun F1 H1 v1 v2 g r1 r2 => hr F1 H1 v1 v2 g.fh r1 r2 Q fun v F' H' g' r' => q v F' H' (g.trans g') r')⟩
theorem et_cmp {op : CmpOp} {r : R2} {k : Bool} (ho : ∀ X, Cin c η X → OpR X (compareOp op) r) (hr : RD c.K r d1 d2 (.bl k)) (hm : behindInMarks op b = false) (ha : ED c η a ρ d1) (hb : ED c η b ρ d2) : ET c η (.Compare a [op] [b] pos) ρ k := ⟨fun F0 H0 σ F H S Q q =>
  WT.of (fun X hX => pt_cmpR (ho X hX) (WE.pe hX) (WE.pe hX) hm) (tOp_of ha hb S fun F1 H1 v1 v2 g r1 r2 => hr F1 H1 v1 v2 g.fh r1 r2 _ fun v F' H' g' r' => by
    cases r'
    exact ⟨k, rfl, q F' H' (g.trans g')⟩)⟩
theorem rd_I0 {K : PySem.W.Frag} {g : Int → Int → V} {i j : Int} (h : ∀ F, Rep K F (g i j) d) : RD K (rI0 g) (.int i) (.int j) d := fun F H v1 v2 s r1 r2 Q q => by
  cases r1
  cases r2
  exact ⟨i, j, rfl, rfl, q _ F H (.refl s) (h F)⟩
theorem rd_I {K : PySem.W.Frag} {C : Int → Int → Prop} {g : Int → Int → V} {i j : Int} (hc : C i j) (h : ∀ F, Rep K F (g i j) d) : RD K (rI C g) (.int i) (.int j) d := fun F H v1 v2 s r1 r2 Q q => by
  cases r1
  cases r2
  exact ⟨i, j, rfl, rfl, hc, q _ F H (.refl s) (h F)⟩
section
variable {i j : Int}
theorem ed_add (ha : ED c η a ρ (.int i)) (hb : ED c η b ρ (.int j)) : ED c η (.BinOp a .Add b pos) ρ (.int (i + j)) := ed_op (fun _ _ => op_add) (rd_I0 fun _ => .int _) ha hb
theorem ed_sub (ha : ED c η a ρ (.int i)) (hb : ED c η b ρ (.int j)) : ED c η (.BinOp a .Sub b pos) ρ (.int (i - j)) := ed_op (fun _ _ => op_sub) (rd_I0 fun _ => .int _) ha hb
theorem ed_mul (hc : CMul i j) (ha : ED c η a ρ (.int i)) (hb : ED c η b ρ (.int j)) : ED c η (.BinOp a .Mult b pos) ρ (.int (i * j)) := ed_op (fun _ _ => op_mul) (rd_I hc fun _ => .int _) ha hb
theorem ed_mod (hc : 0 < j) (ha : ED c η a ρ (.int i)) (hb : ED c η b ρ (.int j)) : ED c η (.BinOp a .Mod b pos) ρ (.int (i % j)) := ed_op (fun _ _ => op_mod) (rd_I hc fun _ => .int _) ha hb
theorem ed_fdiv (hc : CDiv i j) (ha : ED c η a ρ (.int i)) (hb : ED c η b ρ (.int j)) : ED c η (.BinOp a .FloorDiv b pos) ρ (.int (i / j)) := ed_op (fun _ _ => op_fdiv) (rd_I hc fun _ => .int _) ha hb
theorem ed_pow (hc : CPow i j) (ha : ED c η a ρ (.int i)) (hb : ED c η b ρ (.int j)) : ED c η (.BinOp a .Pow b pos) ρ (.int (i ^ j.toNat)) := ed_op (fun _ _ => op_pow) (rd_I hc fun _ => .int _) ha hb
theorem ed_neg (ha : ED c η a ρ (.int i)) : ED c η (.UnaryOp .USub a pos) ρ (.int (-i)) := ⟨fun F0 H0 σ F H S Q q =>
  WE.of (fun X hX => pe_un un_neg (WE.pe hX)) (ha.run F0 H0 σ F H S _ fun v F' H' g r => by cases r; exact ⟨i, rfl, q _ F' H' g (.int _)⟩)⟩
theorem ed_lt (ha : ED c η a ρ (.int i)) (hb : ED c η b ρ (.int j)) : ED c η (.Compare a [.Lt] [b] pos) ρ (.bl (decide (i < j))) := ed_cmp (fun _ _ => op_lt) (rd_I0 fun _ => .bl _) (nomark _) ha hb
theorem ed_le (ha : ED c η a ρ (.int i)) (hb : ED c η b ρ (.int j)) : ED c η (.Compare a [.LtE] [b] pos) ρ (.bl (decide (i ≤ j))) := ed_cmp (fun _ _ => op_le) (rd_I0 fun _ => .bl _) (nomark _) ha hb
theorem ed_gt (ha : ED c η a ρ (.int i)) (hb : ED c η b ρ (.int j)) : ED c η (.Compare a [.Gt] [b] pos) ρ (.bl (decide (j < i))) := ed_cmp (fun _ _ => op_gt) (rd_I0 fun _ => .bl _) (nomark _) ha hb
theorem ed_ge (ha : ED c η a ρ (.int i)) (hb : ED c η b ρ (.int j)) : ED c η (.Compare a [.GtE] [b] pos) ρ (.bl (decide (j ≤ i))) := ed_cmp (fun _ _ => op_ge) (rd_I0 fun _ => .bl _) (nomark _) ha hb
theorem et_lt (ha : ED c η a ρ (.int i)) (hb : ED c η b ρ (.int j)) : ET c η (.Compare a [.Lt] [b] pos) ρ (decide (i < j)) := et_cmp (fun _ _ => op_lt) (rd_I0 fun _ => .bl _) (nomark _) ha hb
theorem et_le (ha : ED c η a ρ (.int i)) (hb : ED c η b ρ (.int j)) : ET c η (.Compare a [.LtE] [b] pos) ρ (decide (i ≤ j)) := et_cmp (fun _ _ => op_le) (rd_I0 fun _ => .bl _) (nomark _) ha hb
theorem et_gt (ha : ED c η a ρ (.int i)) (hb : ED c η b ρ (.int j)) : ET c η (.Compare a [.Gt] [b] pos) ρ (decide (j < i)) := et_cmp (fun _ _ => op_gt) (rd_I0 fun _ => .bl _) (nomark _) ha hb
theorem et_ge (ha : ED c η a ρ (.int i)) (hb : ED c η b ρ (.int j)) : ET c η (.Compare a [.GtE] [b] pos) ρ (decide (j ≤ i)) := et_cmp (fun _ _ => op_ge) (rd_I0 fun _ => .bl _) (nomark _) ha hb
end
/-! == of scalars -/
def D.sc : D → Option V
  | .non => some .non
  | .bl b => some (.bl b)
  | .int i => some (.int i)
  | .str x => some (.str x)
  | _ => none
theorem Rep.sc {K : PySem.W.Frag} {F : Hp} {v u : V} {d : D} (h : Rep K F v d) (e : d.sc = some u) : v = u := by
  cases h <;> first
    | (cases e; rfl)
    | (exact absurd e (by simp [D.sc]))
/-- two scalars are equal -/
def eqS (d1 d2 : D) : Bool := match d1.sc, d2.sc with
  | some u, some v => decide (u = v)
  | _, _ => false
def scalS (d1 d2 : D) : Bool := match d1.sc, d2.sc with
  | some u, some v => scal u v
  | _, _ => false
theorem sc2 {d1 d2 : D} (h : scalS d1 d2 = true) : ∃ u v, d1.sc = some u ∧ d2.sc = some v ∧ scal u v = true ∧ eqS d1 d2 = decide (u = v) := by
  unfold scalS at h
  cases e1 : d1.sc with
  | none => rw [e1] at h; cases h
  | some u =>
    cases e2 : d2.sc with
    | none => rw [e1, e2] at h; cases h
    | some v =>
      rw [e1, e2] at h
      exact ⟨u, v, rfl, rfl, h, by unfold eqS; rw [e1, e2]⟩
theorem rd_eq {K : PySem.W.Frag} (h : scalS d1 d2 = true) : RD K rEq d1 d2 (.bl (eqS d1 d2)) := fun F H v1 v2 s r1 r2 Q q => by
  obtain ⟨u, v, e1, e2, hs, e⟩ := sc2 h
  cases r1.sc e1
  cases r2.sc e2
  exact ⟨hs, q _ F H (.refl s) (by rw [e]; exact .bl _)⟩
theorem rd_ne {K : PySem.W.Frag} (h : scalS d1 d2 = true) : RD K rNe d1 d2 (.bl (!eqS d1 d2)) := fun F H v1 v2 s r1 r2 Q q => by
  obtain ⟨u, v, e1, e2, hs, e⟩ := sc2 h
  cases r1.sc e1
  cases r2.sc e2
  exact ⟨hs, q _ F H (.refl s) (by rw [e]; exact .bl _)⟩
theorem ed_eq (h : scalS d1 d2 = true) (ha : ED c η a ρ d1) (hb : ED c η b ρ d2) : ED c η (.Compare a [.Eq] [b] pos) ρ (.bl (eqS d1 d2)) := ed_cmp (fun _ _ => op_eq) (rd_eq h) (nomark _) ha hb
theorem et_eq (h : scalS d1 d2 = true) (ha : ED c η a ρ d1) (hb : ED c η b ρ d2) : ET c η (.Compare a [.Eq] [b] pos) ρ (eqS d1 d2) := et_cmp (fun _ _ => op_eq) (rd_eq h) (nomark _) ha hb
theorem ed_ne (h : scalS d1 d2 = true) (ha : ED c η a ρ d1) (hb : ED c η b ρ d2) : ED c η (.Compare a [.NotEq] [b] pos) ρ (.bl (!eqS d1 d2)) := ed_cmp (fun _ _ => op_ne) (rd_ne h) (nomark _) ha hb
theorem et_ne (h : scalS d1 d2 = true) (ha : ED c η a ρ d1) (hb : ED c η b ρ d2) : ET c η (.Compare a [.NotEq] [b] pos) ρ (!eqS d1 d2) := et_cmp (fun _ _ => op_ne) (rd_ne h) (nomark _) ha hb
@[simp] theorem eqS_int (i j : Int) : eqS (.int i) (.int j) = decide (i = j) := by simp [eqS, D.sc]
@[simp] theorem eqS_str (i j : Str) : eqS (.str i) (.str j) = decide (i = j) := by simp [eqS, D.sc]
@[simp] theorem eqS_bl (i j : Bool) : eqS (.bl i) (.bl j) = decide (i = j) := by simp [eqS, D.sc]
/-! is None -/
theorem rd_isN {K : PySem.W.Frag} {k : Bool} (h : k = true ↔ d1 = .non) : RD K (fun x y H Q => y = .non ∧ Q (.bl (decide (x = .non))) H) d1 .non (.bl k) := fun F H v1 v2 s r1 r2 Q q => by
  cases r2
  refine ⟨rfl, q _ F H (.refl s) ?_⟩
  have e : decide (v1 = .non) = k := by
    rw [Bool.eq_iff_iff, decide_eq_true_eq, h]
    constructor
    · intro z; subst z; cases r1; rfl
    · intro z; subst z; cases r1; rfl
  rw [e]
  exact .bl k
theorem rd_notN {K : PySem.W.Frag} {k : Bool} (h : k = true ↔ d1 = .non) : RD K (fun x y H Q => y = .non ∧ Q (.bl (!decide (x = .non))) H) d1 .non (.bl (!k)) := fun F H v1 v2 s r1 r2 Q q => by
  cases r2
  refine ⟨rfl, q _ F H (.refl s) ?_⟩
  have e : decide (v1 = .non) = k := by
    rw [Bool.eq_iff_iff, decide_eq_true_eq, h]
    constructor
    · intro z; subst z; cases r1; rfl
    · intro z; subst z; cases r1; rfl
  rw [e]
  exact .bl _
def D.isN : D → Bool
  | .non => true
  | _ => false
theorem isN_iff (d : D) : d.isN = true ↔ d = .non := by cases d <;> simp [D.isN]
theorem ed_isN (ha : ED c η a ρ d1) (hb : ED c η b ρ .non) : ED c η (.Compare a [.Is] [b] pos) ρ (.bl d1.isN) := ed_cmp (fun _ _ => op_isN) (rd_isN (isN_iff d1)) (nomark _) ha hb
theorem et_isN (ha : ED c η a ρ d1) (hb : ED c η b ρ .non) : ET c η (.Compare a [.Is] [b] pos) ρ d1.isN := et_cmp (fun _ _ => op_isN) (rd_isN (isN_iff d1)) (nomark _) ha hb
theorem ed_notN (ha : ED c η a ρ d1) (hb : ED c η b ρ .non) : ED c η (.Compare a [.IsNot] [b] pos) ρ (.bl (!d1.isN)) := ed_cmp (fun _ _ => op_notN) (rd_notN (isN_iff d1)) (nomark _) ha hb
theorem et_notN (ha : ED c η a ρ d1) (hb : ED c η b ρ .non) : ET c η (.Compare a [.IsNot] [b] pos) ρ (!d1.isN) := et_cmp (fun _ _ => op_notN) (rd_notN (isN_iff d1)) (nomark _) ha hb

/-! tests: and, or, not, a value -/
theorem EP'.et (h : EP' c η e ρ k) : ET c η e ρ k := ⟨fun F0 H0 σ F H S Q q => WT.of (fun X hX => (WP.pw hX).pt) (h.run F0 H0 σ F H S Q q)⟩
variable {ka kb k : Bool} {rest : List Expr}
theorem ep_and1 (h : ET c η a ρ k) : EP' c η (.BoolOp .And [a] pos) ρ k := ⟨fun F0 H0 σ F H S Q q => WP.of (fun X hX => pw_and1 (WT.pt hX)) (h.run F0 H0 σ F H S Q q)⟩
theorem ep_or1 (h : ET c η a ρ k) : EP' c η (.BoolOp .Or [a] pos) ρ k := ⟨fun F0 H0 σ F H S Q q => WP.of (fun X hX => pw_or1 (WT.pt hX)) (h.run F0 H0 σ F H S Q q)⟩
theorem ep_and (h : ET c η a ρ ka) (h2 : ka = true → EP' c η (.BoolOp .And (b :: rest) pos) ρ kb) : EP' c η (.BoolOp .And (a :: b :: rest) pos) ρ (ka && kb) := ⟨fun F0 H0 σ F H S Q q =>
  WP.of (fun X hX => pw_and (WT.pt hX) (WP.pw hX)) (h.run F0 H0 σ F H S _ fun F1 H1 g => by
    cases ka with
    | true => exact (h2 rfl).run F0 H0 σ F1 H1 (S.grow g) Q fun F' H' g' => q F' H' (g.trans g')
    | false => exact q F1 H1 g)⟩
theorem ep_or (h : ET c η a ρ ka) (h2 : ka = false → EP' c η (.BoolOp .Or (b :: rest) pos) ρ kb) : EP' c η (.BoolOp .Or (a :: b :: rest) pos) ρ (ka || kb) := ⟨fun F0 H0 σ F H S Q q =>
  WP.of (fun X hX => pw_or (WT.pt hX) (WP.pw hX)) (h.run F0 H0 σ F H S _ fun F1 H1 g => by
    cases ka with
    | false => exact (h2 rfl).run F0 H0 σ F1 H1 (S.grow g) Q fun F' H' g' => q F' H' (g.trans g')
    | true => exact q F1 H1 g)⟩
theorem et_not (h : ET c η a ρ k) : ET c η (.UnaryOp .Not a pos) ρ (!k) := ⟨fun F0 H0 σ F H S Q q => WT.of (fun X hX => pt_not (WT.pt hX)) (h.run F0 H0 σ F H S _ q)⟩
theorem et_val (h : ED c η e ρ (.bl k)) (he : isPlain e = true := by rfl) : ET c η e ρ k := ⟨fun F0 H0 σ F H S Q q =>
  WT.of (fun X hX => pt_val (WE.pe hX) fun wh => test_plain he X.env wh) (h.run F0 H0 σ F H S _ fun v F' H' g r => by cases r; exact ⟨k, rfl, q F' H' g⟩)⟩
/-! .. as values -/
theorem ed_one {op : BoolOp} (h : ED c η a ρ d) : ED c η (.BoolOp op [a] pos) ρ d := ⟨fun F0 H0 σ F H S Q q => WE.of (fun X hX => pe_one (WE.pe hX)) (h.run F0 H0 σ F H S Q q)⟩
theorem ed_and (h : ED c η a ρ (.bl ka)) (h2 : ka = true → ED c η (.BoolOp .And (b :: rest) pos) ρ (.bl kb)) : ED c η (.BoolOp .And (a :: b :: rest) pos) ρ (.bl (ka && kb)) := ⟨fun F0 H0 σ F H S Q q =>
  WE.of (fun X hX => pe_and (WE.pe hX) (WE.pe hX)) (h.run F0 H0 σ F H S _ fun v F1 H1 g r => by
    cases r
    refine ⟨ka, rfl, ?_⟩
    cases ka with
    | true => exact (h2 rfl).run F0 H0 σ F1 H1 (S.grow g) Q fun v F' H' g' r => q v F' H' (g.trans g') r
    | false => exact q _ F1 H1 g (.bl _))⟩
theorem ed_or (h : ED c η a ρ (.bl ka)) (h2 : ka = false → ED c η (.BoolOp .Or (b :: rest) pos) ρ (.bl kb)) : ED c η (.BoolOp .Or (a :: b :: rest) pos) ρ (.bl (ka || kb)) := ⟨fun F0 H0 σ F H S Q q =>
  WE.of (fun X hX => pe_or (WE.pe hX) (WE.pe hX)) (h.run F0 H0 σ F H S _ fun v F1 H1 g r => by
    cases r
    refine ⟨ka, rfl, ?_⟩
    cases ka with
    | false => exact (h2 rfl).run F0 H0 σ F1 H1 (S.grow g) Q fun v F' H' g' r => q v F' H' (g.trans g') r
    | true => exact q _ F1 H1 g (.bl _))⟩
theorem ed_not (h : ED c η a ρ (.bl k)) : ED c η (.UnaryOp .Not a pos) ρ (.bl (!k)) := ⟨fun F0 H0 σ F H S Q q =>
  WE.of (fun X hX => pe_not (WE.pe hX)) (h.run F0 H0 σ F H S _ fun v F1 H1 g r => by cases r; exact ⟨k, rfl, q _ F1 H1 g (.bl _)⟩)⟩
theorem ed_ifExp {t : Expr} (h : ET c η t ρ k) (h1 : k = true → ED c η a ρ d) (h2 : k = false → ED c η b ρ d) : ED c η (.IfExp t a b pos) ρ d := ⟨fun F0 H0 σ F H S Q q =>
  WE.of (fun X hX => pe_ifExp (WT.pt hX) (WE.pe hX) (WE.pe hX)) (h.run F0 H0 σ F H S _ fun F1 H1 g => by
    cases k with
    | true => exact (h1 rfl).run F0 H0 σ F1 H1 (S.grow g) Q fun v F' H' g' r => q v F' H' (g.trans g') r
    | false => exact (h2 rfl).run F0 H0 σ F1 H1 (S.grow g) Q fun v F' H' g' r => q v F' H' (g.trans g') r)⟩
/-! a < b < c -/
theorem tChain_of {r r' : R2} {a2 : Expr} {d3 : D} (hr : RD c.K r d1 d2 (.bl ka)) (hr' : ka = true → RD c.K r' d2 d3 (.bl kb)) (ha : ED c η a ρ d1) (hb : ED c η b ρ d2) (hc : ka = true → ED c η a2 ρ d3)
    {F0 H0 F H : Hp} {σ : St} (S : Stt c.K F0 H0 ρ σ F H) {Q : VK} (q : ∀ F' H', Grow F H F' H' → Q (.bl (ka && kb)) H') : tChain r r' (WE c η a) (WE c η b) (WE c η a2) σ H Q :=
  ha.run F0 H0 σ F H S _ fun v1 F1 H1 g1 r1 => hb.run F0 H0 σ F1 H1 (S.grow g1) _ fun v2 F2 H2 g2 r2 => hr F2 H2 v1 v2 g2.fh (r1.mono g2.f) r2 _ fun z F3 H3 g3 r3 => by
    cases r3
    refine ⟨ka, rfl, ?_⟩
    cases ka with
    | true =>
      show WE c η a2 σ H3 _
      exact (hc rfl).run F0 H0 σ F3 H3 (S.grow ((g1.trans g2).trans g3)) _ fun v4 F4 H4 g4 r4 => hr' rfl F4 H4 v2 v4 g4.fh (r2.mono (g3.trans g4).f) r4 _ fun v F' H' g' r' => by
        cases r'
        exact q F' H' ((((g1.trans g2).trans g3).trans g4).trans g')
    | false =>
      show Q (.bl false) H3
      exact q F3 H3 ((g1.trans g2).trans g3)
theorem ed_chain {op op' : CmpOp} {r r' : R2} {a2 : Expr} {d3 : D} (ho : ∀ X, Cin c η X → OpR X (compareOp op) r) (hr : RD c.K r d1 d2 (.bl ka)) (ho' : ∀ X, Cin c η X → OpR X (compareOp op') r') (hr' : ka = true → RD c.K r' d2 d3 (.bl kb)) (ha : ED c η a ρ d1) (hb : ED c η b ρ d2) (hc : ka = true → ED c η a2 ρ d3)
    (hm : lastMarks [op, op'] [b, a2] = false) : ED c η (.Compare a [op, op'] [b, a2] pos) ρ (.bl (ka && kb)) := ⟨fun F0 H0 σ F H S Q q =>
  WE.of (fun X hX => pe_chain (ho X hX) (ho' X hX) (WE.pe hX) (WE.pe hX) (WE.pe hX) hm) (tChain_of hr hr' ha hb hc S fun F' H' g => q _ F' H' g (.bl _))⟩
theorem et_chain {op op' : CmpOp} {r r' : R2} {a2 : Expr} {d3 : D} (ho : ∀ X, Cin c η X → OpR X (compareOp op) r) (hr : RD c.K r d1 d2 (.bl ka)) (ho' : ∀ X, Cin c η X → OpR X (compareOp op') r') (hr' : ka = true → RD c.K r' d2 d3 (.bl kb)) (ha : ED c η a ρ d1) (hb : ED c η b ρ d2) (hc : ka = true → ED c η a2 ρ d3)
    (hm : lastMarks [op, op'] [b, a2] = false) : ET c η (.Compare a [op, op'] [b, a2] pos) ρ (ka && kb) := ⟨fun F0 H0 σ F H S Q q =>
  WT.of (fun X hX => pt_chain (ho X hX) (ho' X hX) (WE.pe hX) (WE.pe hX) (WE.pe hX) hm) (tChain_of (Q := fun x H' => ∃ k, x = .bl k ∧ Q k H') hr hr' ha hb hc S fun F' H' g => ⟨_, rfl, q F' H' g⟩)⟩
end DL

set_option Elab.async false
set_option linter.all false
set_option maxRecDepth 100000
set_option maxHeartbeats 4000000
namespace DL
open PySem L2
variable {c : Cc} {η : Nm} {ρ : List Sl} {a b e : Expr} {es : List Expr} {pos : Pos} {d d1 d2 : D} {ds : List D}

/-! ### arguments, displays -/
theorem ea_nil : EA c η [] ρ [] := ⟨fun F0 H0 σ F H S Q q => WA.of (fun _ _ => pa_nil) (q [] F H (.refl S.fh) .nil)⟩
theorem ea_cons (h : ED c η e ρ d) (hr : EA c η es ρ ds) (hs : isStar e = false := by rfl) : EA c η (e :: es) ρ (d :: ds) := ⟨fun F0 H0 σ F H S Q q =>
  WA.of (fun X hX => pa_cons (WE.pe hX) (WA.pa hX) (star_cons hs X.env)) (h.run F0 H0 σ F H S _ fun v F1 H1 g1 r1 => hr.run F0 H0 σ F1 H1 (S.grow g1) _ fun vs F2 H2 g2 r2 => q (v :: vs) F2 H2 (g1.trans g2) (.cons (r1.mono g2.f) r2))⟩
theorem len_line {n : Nat} (h : n ≤ 100000) : n ≤ sizeLine := Nat.le_trans h (by decide)
theorem ed_tup {x1 : Nat} (h : EA c η es ρ ds) (hl : ds.length ≤ 100000 := by simp) : ED c η (.Tuple es x1 pos) ρ (.tup ds) := ⟨fun F0 H0 σ F H S Q q =>
  WE.of (fun X hX => pe_tup (WA.pa hX)) (h.run F0 H0 σ F H S _ fun vs F1 H1 g1 r1 => ⟨by rw [r1.length]; exact len_line hl, fun p hp =>
    q (.ref p) (upd F1 p (.tup vs)) _ (g1.trans (.new g1.fh hp)) (.tup (SqT.of upd_same) (r1.mono (same_upd (g1.fh.free hp))))⟩)⟩
theorem obj_lst {K : PySem.W.Frag} {F H : Hp} {p : Addr} {vs : List V} {ds : List D} (r : RepL K F vs ds) : Obj K F (upd H p (.lst vs) p) (.lst ds) := .inl ⟨vs, ds, upd_same, rfl, r⟩
theorem obj_dic {K : PySem.W.Frag} {F H : Hp} {p : Addr} {vs : List (Key × V)} {ds : List (Str × D)} (r : RepK K F vs ds) : Obj K F (upd H p (.dK vs) p) (.dic ds) := .inr ⟨vs, ds, upd_same, rfl, r⟩
theorem eo_lst (h : EA c η es ρ ds) (hl : ds.length ≤ 100000 := by simp) : EO c η (.List es pos) ρ (.lst ds) := ⟨fun F0 H0 σ F H S Q q =>
  WE.of (fun X hX => pe_lst (WA.pa hX)) (h.run F0 H0 σ F H S _ fun vs F1 H1 g1 r1 => ⟨by rw [r1.length]; exact len_line hl, fun p hp =>
    q p F1 _ (g1.trans (.apart g1.fh hp)) (g1.fh.free hp) (g1.h.free hp) (obj_lst r1)⟩)⟩
theorem eo_dic : EO c η (.Dict [] [] pos) ρ (.dic []) := ⟨fun F0 H0 σ F H S Q q =>
  WE.of (fun X hX => pe_dnewK) fun p hp => q p F _ (.apart S.fh hp) (S.fh.free hp) hp (obj_dic .nil)⟩

/-! ### subscripts -/
theorem RepL.atI {K : PySem.W.Frag} {F : Hp} {vs : List V} {ds : List D} {i : Int} {d : D} (r : RepL K F vs ds) (h : L2.atI ds i = some d) : ∃ v, L2.atI vs i = some v ∧ Rep K F v d := by
  unfold L2.atI at h ⊢
  rw [r.length]
  cases e : ixN ds.length i with
  | none => rw [e] at h; cases h
  | some j =>
    rw [e] at h
    exact r.get (show ds[j]? = some d from h)
theorem RepL.len_sz {K : PySem.W.Frag} {F : Hp} {vs : List V} {ds : List D} (r : RepL K F vs ds) : vs.length = ds.length := r.length
section
variable {i : Int}
theorem rd_ixL {K : PySem.W.Frag} (h : L2.atI ds i = some d) : RD K (rIxL K) (.lst ds) (.int i) d := fun F H v1 v2 s r1 r2 Q q => by
  cases r2
  cases r1 with
  | lst hf r =>
    obtain ⟨v, hv, rv⟩ := r.atI h
    exact ⟨_, _, i, v, rfl, rfl, SqL.of (s _ _ hf), hv, q v F H (.refl s) rv⟩
theorem rd_ixT {K : PySem.W.Frag} (h : L2.atI ds i = some d) : RD K (rIxT K) (.tup ds) (.int i) d := fun F H v1 v2 s r1 r2 Q q => by
  cases r2
  cases r1 with
  | tup hf r =>
    obtain ⟨v, hv, rv⟩ := r.atI h
    exact ⟨_, _, i, v, rfl, rfl, same_T s hf, hv, q v F H (.refl s) rv⟩
theorem rd_ixS {K : PySem.W.Frag} {z : Str} {n : Nat} (hz : z.length ≤ 100000) (h : L2.atI z.cps.toList i = some n) : RD K rIxS (.str z) (.int i) (.str ⟨#[n]⟩) := fun F H v1 v2 s r1 r2 Q q => by
  cases r2
  cases r1
  exact ⟨z, i, n, rfl, rfl, len_line hz, h, q _ F H (.refl s) (.str _)⟩
theorem rd_ixC {K : PySem.W.Frag} {ns : List Int} {n : Int} (h : L2.atI ns i = some n) : RD K (rIxL K) (.scr ns) (.int i) (.int n) := fun F H v1 v2 s r1 r2 Q q => by
  cases r2
  cases r1 with
  | scr hf =>
    refine ⟨_, _, i, .int n, rfl, rfl, s.seq hf, ?_, q _ F H (.refl s) (.int n)⟩
    unfold L2.atI at h ⊢
    rw [List.length_map]
    cases e : ixN ns.length i with
    | none => rw [e] at h; cases h
    | some j =>
      rw [e] at h
      have h' : ns[j]? = some n := h
      show (ns.map V.int)[j]? = some (.int n)
      rw [List.getElem?_map, h']
      rfl
theorem ed_ix {r : R2} (ho : ∀ X, Cin c η X → IxR X r) (hr : RD c.K r d1 d2 d) (ha : ED c η a ρ d1) (hb : ED c η b ρ d2) (hs : PlainIx b) : ED c η (.Subscript a b pos) ρ d := ⟨fun F0 H0 σ F H S Q q =>
  WE.of (fun X hX => pe_ix (ho X hX) (WE.pe hX) (WE.pe hX) hs) (tOp_of ha hb S fun F1 H1 v1 v2 g r1 r2 => hr F1 H1 v1 v2 g.fh r1 r2 Q fun v F' H' g' r' => q v F' H' (g.trans g') r')⟩
theorem ed_ixL (h : L2.atI ds i = some d) (ha : ED c η a ρ (.lst ds)) (hb : ED c η b ρ (.int i)) (hs : isSlc b = false := by rfl) : ED c η (.Subscript a b pos) ρ d := ed_ix (fun X hX => hX.K ▸ ix_list) (rd_ixL h) ha hb (ix_plain hs)
theorem ed_ixT (h : L2.atI ds i = some d) (ha : ED c η a ρ (.tup ds)) (hb : ED c η b ρ (.int i)) (hs : isSlc b = false := by rfl) : ED c η (.Subscript a b pos) ρ d := ed_ix (fun X hX => hX.K ▸ ix_tup) (rd_ixT h) ha hb (ix_plain hs)
theorem ed_ixC {ns : List Int} {n : Int} (h : L2.atI ns i = some n) (ha : ED c η a ρ (.scr ns)) (hb : ED c η b ρ (.int i)) (hs : isSlc b = false := by rfl) : ED c η (.Subscript a b pos) ρ (.int n) := ed_ix (fun X hX => hX.K ▸ ix_list) (rd_ixC h) ha hb (ix_plain hs)
theorem ed_ixS {z : Str} {n : Nat} (hz : z.length ≤ 100000) (h : L2.atI z.cps.toList i = some n) (ha : ED c η a ρ (.str z)) (hb : ED c η b ρ (.int i)) (hs : isSlc b = false := by rfl) : ED c η (.Subscript a b pos) ρ (.str ⟨#[n]⟩) := ed_ix (fun X hX => ix_str) (rd_ixS hz h) ha hb (ix_plain hs)
end
/-! slices -/
def EO' (c : Cc) (η : Nm) (e : Option Expr) (ρ : List Sl) (o : Option Int) : Prop := match e, o with
  | none, none => True
  | some e, some i => ED c η e ρ (.int i)
  | _, _ => False
def cutL {α : Type} (xs : List α) (lo hi : Option Int) : List α := (xs.drop (HT.sIx xs.length 0 lo)).take (HT.sIx xs.length xs.length hi - HT.sIx xs.length 0 lo)
theorem cutV_L (xs : List V) (lo hi : Option Int) : cutV xs lo hi = cutL xs lo hi := rfl
theorem RepL.cut {K : PySem.W.Frag} {F : Hp} {vs : List V} {ds : List D} {lo hi : Option Int} (r : RepL K F vs ds) : RepL K F (cutL vs lo hi) (cutL ds lo hi) := by
  unfold cutL
  rw [r.length]
  exact (r.drop _).take _
theorem slice_of {r : V → Option Int → Option Int → Hp → VK → Prop} {l u : Option Expr} {lo hi : Option Int} {p2 : Pos} (hr : ∀ X, Cin c η X → SlR X r) (ha : ED c η a ρ d1) (hl : EO' c η l ρ lo) (hu : EO' c η u ρ hi)
    {F0 H0 F H : Hp} {σ : St} (S : Stt c.K F0 H0 ρ σ F H) {Q : VK} (k : ∀ F' H' v1, Grow F H F' H' → Rep c.K F' v1 d1 → r v1 lo hi H' Q) : WE c η (.Subscript a (.Slice l u none p2) pos) σ H Q := by
  have part : ∀ (e : Option Expr) (o : Option Int), EO' c η e ρ o → ∃ t : TO, (∀ X, Cin c η X → PO X e t) ∧ ∀ F H, Stt c.K F0 H0 ρ σ F H → ∀ Q : Option Int → Hp → Prop, (∀ F' H', Grow F H F' H' → Q o H') → t σ H Q := fun e o h => by
    cases e with
    | none =>
      cases o with
      | none => exact ⟨tNoPart, fun _ _ => po_none, fun F H S Q q => q F H (.refl S.fh)⟩
      | some i => exact h.elim
    | some e =>
      cases o with
      | none => exact h.elim
      | some i => exact ⟨tPart (WE c η e), fun X hX => po_some (WE.pe hX), fun F H S Q q => (show ED c η e ρ (.int i) from h).run F0 H0 σ F H S _ fun v F' H' g r => by cases r; exact ⟨i, rfl, q F' H' g⟩⟩
  obtain ⟨t1, p1, q1⟩ := part l lo hl
  obtain ⟨t2, p2', q2⟩ := part u hi hu
  refine WE.of (fun X hX => pe_slice (hr X hX) (WE.pe hX) (p1 X hX) (p2' X hX)) ?_
  exact ha.run F0 H0 σ F H S _ fun v F1 H1 g1 r1 => q1 F1 H1 (S.grow g1) _ fun F2 H2 g2 => q2 F2 H2 (S.grow (g1.trans g2)) _ fun F3 H3 g3 => k F3 H3 v ((g1.trans g2).trans g3) (r1.mono (g2.trans g3).f)
section
variable {l u : Option Expr} {lo hi : Option Int} {p2 : Pos}
theorem eo_slL (ha : ED c η a ρ (.lst ds)) (hl : EO' c η l ρ lo) (hu : EO' c η u ρ hi) : EO c η (.Subscript a (.Slice l u none p2) pos) ρ (.lst (cutL ds lo hi)) := ⟨fun F0 H0 σ F H S Q q =>
  slice_of (fun X hX => hX.K ▸ sl_list) ha hl hu S fun F1 H1 v g r => by
    cases r with
    | lst hf r => exact ⟨_, _, rfl, SqL.of (g.fh _ _ hf), fun p hp => q p F1 _ (g.trans (.apart g.fh hp)) (g.fh.free hp) (g.h.free hp) (obj_lst r.cut)⟩⟩
theorem eo_slC {ns : List Int} (ha : ED c η a ρ (.scr ns)) (hl : EO' c η l ρ lo) (hu : EO' c η u ρ hi) : EO c η (.Subscript a (.Slice l u none p2) pos) ρ (.lst ((cutL ns lo hi).map .int)) := ⟨fun F0 H0 σ F H S Q q =>
  slice_of (fun X hX => hX.K ▸ sl_list) ha hl hu S fun F1 H1 v g r => by
    cases r with
    | scr hf =>
      have e : cutV (ns.map V.int) lo hi = (cutL ns lo hi).map V.int := by unfold cutV cutL; rw [List.length_map, List.map_take, List.map_drop]
      refine ⟨_, _, rfl, g.fh.seq hf, fun p hp => ?_⟩
      rw [e]
      exact q p F1 _ (g.trans (.apart g.fh hp)) (g.fh.free hp) (g.h.free hp) (obj_lst (RepL.ints _))⟩
theorem ed_slS {z : Str} (hz : z.length ≤ 100000) (ha : ED c η a ρ (.str z)) (hl : EO' c η l ρ lo) (hu : EO' c η u ρ hi) : ED c η (.Subscript a (.Slice l u none p2) pos) ρ (.str (cutS z lo hi)) := ⟨fun F0 H0 σ F H S Q q =>
  slice_of (fun X hX => sl_str) ha hl hu S fun F1 H1 v g r => by
    cases r
    exact ⟨z, rfl, len_line hz, q _ F1 H1 g (.str _)⟩⟩
theorem ed_slT (ha : ED c η a ρ (.tup ds)) (hl : EO' c η l ρ lo) (hu : EO' c η u ρ hi) : ED c η (.Subscript a (.Slice l u none p2) pos) ρ (.tup (cutL ds lo hi)) := ⟨fun F0 H0 σ F H S Q q =>
  slice_of (fun X hX => hX.K ▸ sl_tupA) ha hl hu S fun F1 H1 v g r => by
    cases r with
    | tup hf r =>
      have e : ∀ {α : Type} (zs : List α), HT.sIx zs.length 0 lo = 0 ∧ HT.sIx zs.length zs.length hi = zs.length → cutL zs lo hi = zs := fun zs ⟨h1, h2⟩ => by
        unfold cutL
        rw [h1, h2]
        simp
      refine ⟨_, _, rfl, same_T g.fh hf, fun hw => ?_, fun _ p hp => q (.ref p) (upd F1 p (.tup (cutL _ lo hi))) _ (g.trans (.new g.fh hp)) (.tup (SqT.of upd_same) (r.cut.mono (same_upd (g.fh.free hp))))⟩
      exact q _ F1 H1 g ((e ds (by rw [← r.length]; exact hw)).symm ▸ .tup hf r)⟩
end

/-! ### + of texts, lists, tuples; * -/
theorem ed_addS {x y : Str} (hz : x.length + y.length ≤ 100000) (ha : ED c η a ρ (.str x)) (hb : ED c η b ρ (.str y)) : ED c η (.BinOp a .Add b pos) ρ (.str (x ++ y)) :=
  ed_op (fun _ _ => op_add_str) (fun F H v1 v2 s r1 r2 Q q => by cases r1; cases r2; exact ⟨x, y, rfl, rfl, len_line hz, q _ F H (.refl s) (.str _)⟩) ha hb
theorem eo_cat {xs ys : List D} (hz : xs.length + ys.length ≤ 100000) (ha : ED c η a ρ (.lst xs)) (hb : ED c η b ρ (.lst ys)) : EO c η (.BinOp a .Add b pos) ρ (.lst (xs ++ ys)) :=
  eo_op (fun _ _ => op_cat) (fun F H v1 v2 s r1 r2 Q q => by
    cases r1 with
    | lst h1 r1 =>
      cases r2 with
      | lst h2 r2 => exact ⟨_, _, _, _, rfl, rfl, s _ _ h1, s _ _ h2, by rw [r1.length, r2.length]; exact len_line hz, fun p hp => q p F _ (.apart s hp) (s.free hp) hp (obj_lst (r1.append r2))⟩) ha hb
theorem ed_catT {xs ys : List D} (hz : xs.length + ys.length ≤ 100000) (ha : ED c η a ρ (.tup xs)) (hb : ED c η b ρ (.tup ys)) : ED c η (.BinOp a .Add b pos) ρ (.tup (xs ++ ys)) :=
  ed_op (fun X hX => hX.K ▸ op_catA) (fun F H v1 v2 s r1 r2 Q q => by
    cases r1 with
    | tup h1 r1 =>
      cases r2 with
      | tup h2 r2 =>
        refine ⟨_, _, _, _, rfl, rfl, same_T s h1, same_T s h2, by rw [r1.length, r2.length]; exact len_line hz, fun e => ?_, fun _ e => ?_, fun _ _ p hp => q (.ref p) _ _ (.new s hp) (.tup (SqT.of upd_same) ((r1.append r2).mono (same_upd (s.free hp))))⟩
        · subst e
          cases r1
          exact q _ F H (.refl s) (.tup h2 r2)
        · subst e
          cases r2
          exact q _ F H (.refl s) ((List.append_nil xs).symm ▸ .tup h1 r1)) ha hb
theorem RepL.rep {K : PySem.W.Frag} {F : Hp} {vs : List V} {ds : List D} (r : RepL K F vs ds) : ∀ n : Nat, RepL K F (List.replicate n vs).flatten (List.replicate n ds).flatten
  | 0 => .nil
  | n + 1 => by
    rw [List.replicate_succ, List.replicate_succ, List.flatten_cons, List.flatten_cons]
    exact r.append (r.rep n)
theorem eo_rep {xs : List D} {k : Int} (hz : -(2 ^ 63) ≤ k ∧ k < 2 ^ 63 ∧ xs.length * k.toNat ≤ 100000) (ha : ED c η a ρ (.lst xs)) (hb : ED c η b ρ (.int k)) : EO c η (.BinOp a .Mult b pos) ρ (.lst (List.replicate k.toNat xs).flatten) :=
  eo_op (fun _ _ => op_rep) (fun F H v1 v2 s r1 r2 Q q => by
    cases r2
    cases r1 with
    | lst h1 r1 => exact ⟨_, _, _, rfl, rfl, s _ _ h1, hz.1, hz.2.1, by rw [r1.length]; exact len_line hz.2.2, fun p hp => q p F _ (.apart s hp) (s.free hp) hp (obj_lst (r1.rep _))⟩) ha hb

/-! ### in, not in -/
def D.flat : D → Bool
  | .non => true | .bl _ => true | .int _ => true | .str _ => true
  | _ => false
theorem flat_sc {K : PySem.W.Frag} {F : Hp} {v : V} {d : D} (r : Rep K F v d) (h : d.flat = true) : d.sc = some v ∧ flatV v = true := by
  cases r <;> first
    | exact ⟨rfl, rfl⟩
    | exact absurd h (by simp [D.flat])
/-- == of flat data -/
def eqF (x y : D) : Bool := match x.sc, y.sc with
  | some u, some v => eqV u v
  | _, _ => false
def inD (x : D) (xs : List D) : Bool := xs.any fun y => eqF y x
theorem RepL.inV {K : PySem.W.Frag} {F : Hp} {v : V} {d : D} (r : Rep K F v d) (h : d.flat = true) : ∀ {vs : List V} {ds : List D}, RepL K F vs ds → ds.all D.flat = true → L2.inV v vs = inD d ds ∧ vs.all flatV = true
  | _, _, .nil, _ => ⟨rfl, rfl⟩
  | _, _, .cons q t, hd => by
    rw [List.all_cons, Bool.and_eq_true] at hd
    obtain ⟨e1, e2⟩ := RepL.inV r h t hd.2
    obtain ⟨s1, f1⟩ := flat_sc r h
    obtain ⟨s2, f2⟩ := flat_sc q hd.1
    constructor
    · show (eqV _ _ || L2.inV _ _) = (eqF _ _ || inD _ _)
      have e3 : ∀ (x y : V) (d d' : D), d.sc = some x → d'.sc = some y → eqV x y = eqF d d' := fun x y d d' h1 h2 => by unfold eqF; rw [h1, h2]
      rw [e3 _ _ _ _ s2 s1, e1]
    · rw [List.all_cons, f2, e2]
      rfl
theorem inD_strs (x : Str) (xs : List Str) : inD (.str x) (xs.map .str) = decide (x ∈ xs) := by
  induction xs with
  | nil => rfl
  | cons y r ih =>
    show (eqF (.str y) (.str x) || inD (.str x) (r.map .str)) = _
    rw [ih]
    have : eqF (.str y) (.str x) = decide (x = y) := by
      show (y == x) = _
      rw [Bool.eq_iff_iff, beq_iff_eq, decide_eq_true_eq]
      exact eq_comm
    rw [this, Bool.eq_iff_iff, Bool.or_eq_true, decide_eq_true_eq, decide_eq_true_eq, decide_eq_true_eq, List.mem_cons]
/-- a sequence that is looked into: a list or a tuple -/
inductive SeqD : D → List D → Prop
  | lst (ds : List D) : SeqD (.lst ds) ds
  | tup (ds : List D) : SeqD (.tup ds) ds
theorem SeqD.sq {K : PySem.W.Frag} {F H : Hp} {v : V} (h : SeqD d ds) (s : Same F H) (r : Rep K F v d) : ∃ p vs, v = .ref p ∧ (SqL K H p vs ∨ SqT K H p vs) ∧ RepL K F vs ds := by
  cases h with
  | lst => cases r with | lst hf r => exact ⟨_, _, rfl, .inl (SqL.of (s _ _ hf)), r⟩
  | tup => cases r with | tup hf r => exact ⟨_, _, rfl, .inr (same_T s hf), r⟩
theorem rd_in {K : PySem.W.Frag} {neg : Bool} (q : SeqD d2 ds) (h : d1.flat = true) (hd : ds.all D.flat = true) : RD K (rIn K neg) d1 d2 (.bl (if neg then !inD d1 ds else inD d1 ds)) := fun F H v1 v2 s r1 r2 Q k => by
  obtain ⟨p, vs, rfl, sq, r⟩ := q.sq s r2
  obtain ⟨e1, e2⟩ := RepL.inV r1 h r hd
  exact ⟨p, vs, rfl, sq, (flat_sc r1 h).2, e2, by rw [e1]; exact k _ F H (.refl s) (.bl _)⟩
section
variable (q : SeqD d2 ds) (h : d1.flat = true) (hd : ds.all D.flat = true)
include q h hd
theorem ed_in (hm : behindInMarks .In b = false) (ha : ED c η a ρ d1) (hb : ED c η b ρ d2) : ED c η (.Compare a [.In] [b] pos) ρ (.bl (inD d1 ds)) := ed_cmp (fun X hX => hX.K ▸ op_in_seq) (rd_in (neg := false) q h hd) hm ha hb
theorem et_in (hm : behindInMarks .In b = false) (ha : ED c η a ρ d1) (hb : ED c η b ρ d2) : ET c η (.Compare a [.In] [b] pos) ρ (inD d1 ds) := et_cmp (fun X hX => hX.K ▸ op_in_seq) (rd_in (neg := false) q h hd) hm ha hb
theorem ed_notIn (hm : behindInMarks .NotIn b = false) (ha : ED c η a ρ d1) (hb : ED c η b ρ d2) : ED c η (.Compare a [.NotIn] [b] pos) ρ (.bl (!inD d1 ds)) := ed_cmp (fun X hX => hX.K ▸ op_notIn_seq) (rd_in (neg := true) q h hd) hm ha hb
theorem et_notIn (hm : behindInMarks .NotIn b = false) (ha : ED c η a ρ d1) (hb : ED c η b ρ d2) : ET c η (.Compare a [.NotIn] [b] pos) ρ (!inD d1 ds) := et_cmp (fun X hX => hX.K ▸ op_notIn_seq) (rd_in (neg := true) q h hd) hm ha hb
end
/-! a sign in a text -/
theorem ed_inSign {n : Nat} {z : Str} (hm : behindInMarks .In b = false) (ha : ED c η a ρ (.str ⟨#[n]⟩)) (hb : ED c η b ρ (.str z)) : ED c η (.Compare a [.In] [b] pos) ρ (.bl (decide (n ∈ z.cps.toList))) :=
  ed_cmp (fun X hX => op_in_sign) (fun F H v1 v2 s r1 r2 Q q => by cases r1; cases r2; exact ⟨n, z, rfl, rfl, q _ F H (.refl s) (.bl _)⟩) hm ha hb
theorem et_inSign {n : Nat} {z : Str} (hm : behindInMarks .In b = false) (ha : ED c η a ρ (.str ⟨#[n]⟩)) (hb : ED c η b ρ (.str z)) : ET c η (.Compare a [.In] [b] pos) ρ (decide (n ∈ z.cps.toList)) :=
  et_cmp (fun X hX => op_in_sign) (fun F H v1 v2 s r1 r2 Q q => by cases r1; cases r2; exact ⟨n, z, rfl, rfl, q _ F H (.refl s) (.bl _)⟩) hm ha hb
theorem ed_notInSign {n : Nat} {z : Str} (hm : behindInMarks .NotIn b = false) (ha : ED c η a ρ (.str ⟨#[n]⟩)) (hb : ED c η b ρ (.str z)) : ED c η (.Compare a [.NotIn] [b] pos) ρ (.bl (!decide (n ∈ z.cps.toList))) :=
  ed_cmp (fun X hX => op_notIn_sign) (fun F H v1 v2 s r1 r2 Q q => by cases r1; cases r2; exact ⟨n, z, rfl, rfl, q _ F H (.refl s) (.bl _)⟩) hm ha hb
theorem et_notInSign {n : Nat} {z : Str} (hm : behindInMarks .NotIn b = false) (ha : ED c η a ρ (.str ⟨#[n]⟩)) (hb : ED c η b ρ (.str z)) : ET c η (.Compare a [.NotIn] [b] pos) ρ (!decide (n ∈ z.cps.toList)) :=
  et_cmp (fun X hX => op_notIn_sign) (fun F H v1 v2 s r1 r2 Q q => by cases r1; cases r2; exact ⟨n, z, rfl, rfl, q _ F H (.refl s) (.bl _)⟩) hm ha hb

/-! ### == of data of any depth -/
mutual
def D.py : D → PyData
  | .non => .none
  | .bl b => .bool b
  | .int i => .int i
  | .str x => .str x
  | .tup xs => .tuple (D.pys xs)
  | .lst xs => .list (D.pys xs)
  | .dic _ => .none
  | .scr ns => .list (ns.map .int)
  | .ty _ => .none
def D.pys : List D → List PyData
  | [] => []
  | d :: r => d.py :: D.pys r
end
mutual
/-- no dict, no type stands in it -/
def D.pure : D → Bool
  | .dic _ => false
  | .ty _ => false
  | .tup xs => D.pures xs
  | .lst xs => D.pures xs
  | _ => true
def D.pures : List D → Bool
  | [] => true
  | d :: r => d.pure && D.pures r
end
theorem dp_ints {K : PySem.W.Frag} {H : Hp} : ∀ ns : List Int, DpAll K H (ns.map V.int) (ns.map PyData.int)
  | [] => .nil
  | n :: r => .cons (.int n) (dp_ints r)
mutual
theorem Rep.dp {K : PySem.W.Frag} {F H : Hp} (s : Same F H) : ∀ {v : V} {d : D}, Rep K F v d → d.pure = true → Dp K H v d.py
  | _, _, .non, _ => .non
  | _, _, .bl b, _ => .bl b
  | _, _, .int i, _ => .int i
  | _, _, .str x, _ => .str x
  | _, _, .ty _, h => absurd h (by simp [D.pure])
  | _, _, .dic _ _, h => absurd h (by simp [D.pure])
  | _, _, .tup hf r, h => by
    rw [D.py]
    exact .tup (same_T s hf) (RepL.dp s r (by simpa [D.pure] using h))
  | _, _, .lst hf r, h => by
    rw [D.py]
    exact .lst (SqL.of (s _ _ hf)) (RepL.dp s r (by simpa [D.pure] using h))
  | _, _, .scr hf, _ => by
    rw [D.py]
    exact .lst (s.seq hf) (dp_ints _)
theorem RepL.dp {K : PySem.W.Frag} {F H : Hp} (s : Same F H) : ∀ {vs : List V} {ds : List D}, RepL K F vs ds → D.pures ds = true → DpAll K H vs (D.pys ds)
  | _, _, .nil, _ => by rw [D.pys]; exact .nil
  | _, _, .cons h r, e => by
    rw [D.pures, Bool.and_eq_true] at e
    rw [D.pys]
    exact .cons (h.dp s e.1) (r.dp s e.2)
end
/-- what == says of data without dicts -/
structure EqOk (d1 d2 : D) : Prop where
  p1 : d1.pure = true
  p2 : d2.pure = true
  s1 : SeqAt.shaped d1.py = true
  s2 : SeqAt.shaped d2.py = true
theorem rd_eqD {K : PySem.W.Frag} (h : EqOk d1 d2) : RD K (rEqD K) d1 d2 (.bl (PyData.eqv d1.py d2.py)) := fun F H v1 v2 s r1 r2 Q q => ⟨_, _, r1.dp s h.p1, r2.dp s h.p2, h.s1, h.s2, q _ F H (.refl s) (.bl _)⟩
theorem rd_neD {K : PySem.W.Frag} (h : EqOk d1 d2) : RD K (rNeD K) d1 d2 (.bl (!PyData.eqv d1.py d2.py)) := fun F H v1 v2 s r1 r2 Q q => ⟨_, _, r1.dp s h.p1, r2.dp s h.p2, h.s1, h.s2, q _ F H (.refl s) (.bl _)⟩
theorem ed_eqD (h : EqOk d1 d2) (ha : ED c η a ρ d1) (hb : ED c η b ρ d2) : ED c η (.Compare a [.Eq] [b] pos) ρ (.bl (PyData.eqv d1.py d2.py)) := ed_cmp (fun X hX => hX.K ▸ op_eqD hX.room.units) (rd_eqD h) (nomark _) ha hb
theorem et_eqD (h : EqOk d1 d2) (ha : ED c η a ρ d1) (hb : ED c η b ρ d2) : ET c η (.Compare a [.Eq] [b] pos) ρ (PyData.eqv d1.py d2.py) := et_cmp (fun X hX => hX.K ▸ op_eqD hX.room.units) (rd_eqD h) (nomark _) ha hb
theorem ed_neD (h : EqOk d1 d2) (ha : ED c η a ρ d1) (hb : ED c η b ρ d2) : ED c η (.Compare a [.NotEq] [b] pos) ρ (.bl (!PyData.eqv d1.py d2.py)) := ed_cmp (fun X hX => hX.K ▸ op_neD hX.room.units) (rd_neD h) (nomark _) ha hb
theorem et_neD (h : EqOk d1 d2) (ha : ED c η a ρ d1) (hb : ED c η b ρ d2) : ET c η (.Compare a [.NotEq] [b] pos) ρ (!PyData.eqv d1.py d2.py) := et_cmp (fun X hX => hX.K ▸ op_neD hX.room.units) (rd_neD h) (nomark _) ha hb
end DL

set_option Elab.async false
set_option linter.all false
set_option maxRecDepth 100000
set_option maxHeartbeats 4000000
namespace DL
open PySem L2
variable {c : Cc} {η : Nm} {ρ : List Sl} {a b e o : Expr} {es : List Expr} {pos p apos : Pos} {d d1 d2 : D} {ds : List D}

/-! ### calls of built-ins by name -/
/-- a call upon values -/
def CD (K : PySem.W.Frag) (r : List V → Hp → VK → Prop) (ds : List D) (d : D) : Prop := ∀ F H vs, Same F H → RepL K F vs ds → ∀ Q : VK, (∀ v F' H', Grow F H F' H' → Rep K F' v d → Q v H') → r vs H Q
def CO (K : PySem.W.Frag) (r : List V → Hp → VK → Prop) (ds : List D) (d : D) : Prop := ∀ F H vs, Same F H → RepL K F vs ds → ∀ Q : VK, (∀ a F' H', Grow F H F' H' → F' a = none → H a = none → Obj K F' (H' a) d → Q (.ref a) H') → r vs H Q
section
variable {r : List V → Hp → VK → Prop} {id T : String} {x : Str}
theorem ed_blt (hc : ∀ X, Cin c η X → CallR X (.builtin id) r) (hr : CD c.K r ds d) (ha : EA c η (e :: es) ρ ds) (hm : c.mg x = none) (hv : bootBuiltins x = some (.builtin id)) (hg : glB η.sc x = true := by decide +kernel) (hn : x ≠ "__name__" := by decide) (hdb : (x == ("__debug__" : Str)) = false := by decide)
    (he : isStar e = false := by rfl) (hpl : noStar es = true := by rfl) : ED c η (.Call (.Name x p) (e :: es) [] pos) ρ d := ⟨fun F0 H0 σ F H S Q q =>
  WE.of (fun X hX => pe_callB (hc X hX) (gl_of hX hg) (by rw [hX.mg]; exact hm) hv (WA.pa hX) hn hdb (star_cons he X.env) (star_any hpl pos X.env)) (ha.run F0 H0 σ F H S _ fun vs F1 H1 g1 r1 => hr F1 H1 vs g1.fh r1 Q fun v F' H' g' r' => q v F' H' (g1.trans g') r')⟩
theorem eo_blt (hc : ∀ X, Cin c η X → CallR X (.builtin id) r) (hr : CO c.K r ds d) (ha : EA c η (e :: es) ρ ds) (hm : c.mg x = none) (hv : bootBuiltins x = some (.builtin id)) (hg : glB η.sc x = true := by decide +kernel) (hn : x ≠ "__name__" := by decide) (hdb : (x == ("__debug__" : Str)) = false := by decide)
    (he : isStar e = false := by rfl) (hpl : noStar es = true := by rfl) : EO c η (.Call (.Name x p) (e :: es) [] pos) ρ d := ⟨fun F0 H0 σ F H S Q q =>
  WE.of (fun X hX => pe_callB (hc X hX) (gl_of hX hg) (by rw [hX.mg]; exact hm) hv (WA.pa hX) hn hdb (star_cons he X.env) (star_any hpl pos X.env)) (ha.run F0 H0 σ F H S _ fun vs F1 H1 g1 r1 => hr F1 H1 vs g1.fh r1 Q fun v F' H' g' n n0 o => q v F' H' (g1.trans g') n (Same.free g1.h n0) o)⟩
theorem ed_ty (hc : ∀ X, Cin c η X → CallR X (.type T) r) (hr : CD c.K r ds d) (ha : EA c η (e :: es) ρ ds) (hm : c.mg x = none) (hv : bootBuiltins x = some (.type T)) (hg : glB η.sc x = true := by decide +kernel) (hn : x ≠ "__name__" := by decide) (hdb : (x == ("__debug__" : Str)) = false := by decide)
    (he : isStar e = false := by rfl) (hpl : noStar es = true := by rfl) : ED c η (.Call (.Name x p) (e :: es) [] pos) ρ d := ⟨fun F0 H0 σ F H S Q q =>
  WE.of (fun X hX => pe_callTy (hc X hX) (gl_of hX hg) (by rw [hX.mg]; exact hm) hv (WA.pa hX) hn hdb (star_cons he X.env) (star_any hpl pos X.env)) (ha.run F0 H0 σ F H S _ fun vs F1 H1 g1 r1 => hr F1 H1 vs g1.fh r1 Q fun v F' H' g' r' => q v F' H' (g1.trans g') r')⟩
theorem eo_ty (hc : ∀ X, Cin c η X → CallR X (.type T) r) (hr : CO c.K r ds d) (ha : EA c η (e :: es) ρ ds) (hm : c.mg x = none) (hv : bootBuiltins x = some (.type T)) (hg : glB η.sc x = true := by decide +kernel) (hn : x ≠ "__name__" := by decide) (hdb : (x == ("__debug__" : Str)) = false := by decide)
    (he : isStar e = false := by rfl) (hpl : noStar es = true := by rfl) : EO c η (.Call (.Name x p) (e :: es) [] pos) ρ d := ⟨fun F0 H0 σ F H S Q q =>
  WE.of (fun X hX => pe_callTy (hc X hX) (gl_of hX hg) (by rw [hX.mg]; exact hm) hv (WA.pa hX) hn hdb (star_cons he X.env) (star_any hpl pos X.env)) (ha.run F0 H0 σ F H S _ fun vs F1 H1 g1 r1 => hr F1 H1 vs g1.fh r1 Q fun v F' H' g' n n0 o => q v F' H' (g1.trans g') n (Same.free g1.h n0) o)⟩
end
theorem RepL.one {K : PySem.W.Frag} {F : Hp} {vs : List V} {d : D} (r : RepL K F vs [d]) : ∃ v, vs = [v] ∧ Rep K F v d := by
  cases r with
  | cons h t => cases t; exact ⟨_, rfl, h⟩
theorem RepL.two {K : PySem.W.Frag} {F : Hp} {vs : List V} {d d' : D} (r : RepL K F vs [d, d']) : ∃ v w, vs = [v, w] ∧ Rep K F v d ∧ Rep K F w d' := by
  cases r with
  | cons h t =>
    obtain ⟨w, rfl, h2⟩ := t.one
    exact ⟨_, w, rfl, h, h2⟩
section
variable (ha : EA c η [e] ρ [d]) (hg : glB η.sc "len" = true := by decide +kernel)
/-! len -/
theorem cd_len {K : PySem.W.Frag} (q : SeqD d ds) : CD K (fun xs H Q => ∃ x n, xs = [x] ∧ LenV K x H n ∧ Q (.int n) H) [d] (.int ds.length) := fun F H vs s r Q k => by
  obtain ⟨v, rfl, r1⟩ := r.one
  obtain ⟨p, ws, rfl, sq, r2⟩ := q.sq s r1
  refine ⟨_, ds.length, rfl, ?_, k _ F H (.refl s) (.int _)⟩
  rcases sq with sq | sq
  · exact .inl ⟨ws, sq, r2.length.symm⟩
  · exact .inr ⟨ws, sq, r2.length.symm⟩
theorem cd_lenS {K : PySem.W.Frag} {z : Str} (hz : z.length ≤ 100000) : CD K (fun xs H Q => ∃ x n, xs = [x] ∧ LenV K x H n ∧ Q (.int n) H) [.str z] (.int z.length) := fun F H vs s r Q k => by
  obtain ⟨v, rfl, r1⟩ := r.one
  cases r1
  exact ⟨_, z.length, rfl, show z.length ≤ sizeLine ∧ z.length = z.length from ⟨len_line hz, rfl⟩, k _ F H (.refl s) (.int _)⟩
theorem cd_lenC {K : PySem.W.Frag} {ns : List Int} : CD K (fun xs H Q => ∃ x n, xs = [x] ∧ LenV K x H n ∧ Q (.int n) H) [.scr ns] (.int ns.length) := fun F H vs s r Q k => by
  obtain ⟨v, rfl, r1⟩ := r.one
  cases r1 with
  | scr hf => exact ⟨_, ns.length, rfl, .inl ⟨_, s.seq hf, by rw [List.length_map]⟩, k _ F H (.refl s) (.int _)⟩
end
theorem ed_len (q : SeqD d ds) (hm : c.mg "len" = none) (ha : EA c η [e] ρ [d]) (hg : glB η.sc "len" = true := by decide +kernel)
    (he : isStar e = false := by rfl) : ED c η (.Call (.Name "len" p) [e] [] pos) ρ (.int ds.length) := ed_blt (fun X hX => hX.K ▸ call_len) (cd_len q) ha hm PySem.boot_len hg (by decide) (by decide) he rfl
theorem ed_lenS {z : Str} (hz : z.length ≤ 100000) (hm : c.mg "len" = none) (ha : EA c η [e] ρ [.str z]) (hg : glB η.sc "len" = true := by decide +kernel)
    (he : isStar e = false := by rfl) : ED c η (.Call (.Name "len" p) [e] [] pos) ρ (.int z.length) := ed_blt (fun X hX => hX.K ▸ call_len) (cd_lenS hz) ha hm PySem.boot_len hg (by decide) (by decide) he rfl
theorem ed_lenC {ns : List Int} (hm : c.mg "len" = none) (ha : EA c η [e] ρ [.scr ns]) (hg : glB η.sc "len" = true := by decide +kernel)
    (he : isStar e = false := by rfl) : ED c η (.Call (.Name "len" p) [e] [] pos) ρ (.int ns.length) := ed_blt (fun X hX => hX.K ▸ call_len) cd_lenC ha hm PySem.boot_len hg (by decide) (by decide) he rfl
/-! isinstance -/
def D.tyn : D → String
  | .non => "NoneType" | .bl _ => "bool" | .int _ => "int" | .str _ => "str" | .tup _ => "tuple" | .lst _ => "list" | .dic _ => "dict" | .scr _ => "list" | .ty _ => "type"
theorem tyx_L {K : PySem.W.Frag} {H : Hp} {p : Addr} {vs : List V} (h : SqL K H p vs) : TyX K H (.ref p) (.type "list") := by
  rcases h with (h | ⟨o, h⟩) | ⟨o, its, n, h, hc, _⟩
  · exact .base (.lst h)
  · exact .base (.frz h)
  · exact .kList h hc
theorem tyx_T {K : PySem.W.Frag} {H : Hp} {p : Addr} {vs : List V} (h : SqT K H p vs) : TyX K H (.ref p) (.type "tuple") := by
  rcases h with (h | ⟨o, h⟩) | ⟨o, its, n, h, hc, _⟩
  · exact .base (.tup h)
  · exact .fTuple h
  · exact .kTuple h hc
theorem Rep.tyx {K : PySem.W.Frag} {F H : Hp} {v : V} (s : Same F H) (r : Rep K F v d) (h : d.tyn ≠ "type") : TyX K H v (.type d.tyn) := by
  cases r with
  | non => exact .base .non
  | bl b => exact .base (.bl b)
  | int i => exact .base (.int i)
  | str x => exact .base (.str x)
  | ty n => exact absurd rfl h
  | tup hf _ => exact tyx_T (same_T s hf)
  | lst hf _ => exact .base (.lst (s _ _ hf))
  | dic hf _ => exact .base (.dK (s _ _ hf))
  | scr hf => exact tyx_L (s.seq hf)
/-- isinstance(x, T), T a built-in type -/
theorem ed_isi {T : String} {k : Bool} (h : d.tyn ≠ "type") (hk : kitB d.tyn T = some k) (hm : c.mg "isinstance" = none) (ha : EA c η [a, b] ρ [d, .ty T]) (hg : glB η.sc "isinstance" = true := by decide +kernel)
    (he : isStar a = false := by rfl) (hpl : noStar [b] = true := by rfl) : ED c η (.Call (.Name "isinstance" p) [a, b] [] pos) ρ (.bl k) :=
  ed_blt (fun X hX => hX.K ▸ call_isi) (fun F H vs s r Q q => by
    obtain ⟨v, w, rfl, r1, r2⟩ := r.two
    cases r2
    exact ⟨v, .ty T, _, _, k, rfl, .ty T, r1.tyx s h, kit_ty hk, q _ F H (.refl s) (.bl k)⟩) ha hm (by decide +kernel) hg (by decide) (by decide) he hpl
/-- isinstance(x, (T, ..)) -/
theorem RepL.tys {K : PySem.W.Frag} {F : Hp} : ∀ {Ts : List String} {vs : List V}, RepL K F vs (Ts.map D.ty) → Paired ClsV vs (Ts.map Value.type)
  | [], _, .nil => .nil
  | T :: r, _, .cons h t => by cases h; exact .cons (.ty T) t.tys
theorem ed_isiT {Ts : List String} {k : Bool} (h : d.tyn ≠ "type") (hk : ∀ K, PySem.W.kitAny K (.type d.tyn) (Ts.map Value.type) = some k) (hm : c.mg "isinstance" = none) {x1 : Nat} {ts : List Expr} {tpos : Pos} (ha : ED c η a ρ d) (ht : EA c η ts ρ (Ts.map D.ty)) (hl : Ts.length ≤ 100000 := by simp) (hg : glB η.sc "isinstance" = true := by decide +kernel)
    (he : isStar a = false := by rfl)
     : ED c η (.Call (.Name "isinstance" p) [a, .Tuple ts x1 tpos] [] pos) ρ (.bl k) := ⟨fun F0 H0 σ F H S Q q =>
  WE.of (t := tCB (rIsiT c.K) (tCons (WE c η a) (tCons (tTup (WA c η ts)) tNil))) (fun X hX => pe_callB (by rw [← hX.K]; exact call_isiT) (gl_of hX hg) (by rw [hX.mg]; exact hm) (by decide +kernel) (pa_cons (WE.pe hX) (pa_cons (pe_tup (WA.pa hX)) pa_nil (star_cons rfl X.env)) (star_cons he X.env)) (by decide) (by decide) (star_cons he X.env) (star_any rfl pos X.env))
    (ha.run F0 H0 σ F H S _ fun v F1 H1 g1 r1 => ht.run F0 H0 σ F1 H1 (S.grow g1) _ fun vs F2 H2 g2 r2 => ⟨by rw [r2.length, List.length_map]; exact len_line hl, fun tp hp =>
      ⟨v, tp, vs, _, _, k, rfl, upd_same, r2.tys, (r1.mono g2.f).tyx (g2.fh.trans (same_upd hp)) h, hk c.K, q _ F2 _ ((g1.trans g2).trans (.apart g2.fh hp)) (.bl k)⟩⟩)⟩
/-! int, str of a number, all, sum, min, max, list, dict -/
theorem ed_intB {k : Bool} (hm : c.mg "int" = none) (ha : EA c η [e] ρ [.bl k]) (hg : glB η.sc "int" = true := by decide +kernel)
    (he : isStar e = false := by rfl) : ED c η (.Call (.Name "int" p) [e] [] pos) ρ (.int (if k then 1 else 0)) :=
  ed_ty (fun X hX => call_int1) (fun F H vs s r Q q => by
    obtain ⟨v, rfl, r1⟩ := r.one
    cases r1
    exact .inr ⟨k, rfl, q _ F H (.refl s) (.int _)⟩) ha hm (by decide +kernel) hg (by decide) (by decide) he rfl
theorem ed_strI {i : Int} (hi : i.natAbs.log2 < 1920) (hm : c.mg "str" = none) (ha : EA c η [e] ρ [.int i]) (hg : glB η.sc "str" = true := by decide +kernel)
    (he : isStar e = false := by rfl) : ED c η (.Call (.Name "str" p) [e] [] pos) ρ (.str (toString i)) :=
  ed_ty (fun X hX => call_str_int) (fun F H vs s r Q q => by
    obtain ⟨v, rfl, r1⟩ := r.one
    cases r1
    exact ⟨i, rfl, hi, q _ F H (.refl s) (.str _)⟩) ha hm (by decide +kernel) hg (by decide) (by decide) he rfl
theorem ed_all {bs : List Bool} (hm : c.mg "all" = none) (ha : EA c η [e] ρ [.lst (bs.map .bl)]) (hg : glB η.sc "all" = true := by decide +kernel)
    (he : isStar e = false := by rfl) : ED c η (.Call (.Name "all" p) [e] [] pos) ρ (.bl (bs.all id)) :=
  ed_blt (fun X hX => hX.K ▸ cr_all hX.calm) (fun F H vs s r Q q => by
    obtain ⟨v, rfl, r1⟩ := r.one
    cases r1 with
    | lst hf r2 =>
      have e := RepL.bls_inv r2
      subst e
      exact ⟨_, bs, rfl, SqL.of (s _ _ hf), q _ F H (.refl s) (.bl _)⟩) ha hm (by decide +kernel) hg (by decide) (by decide) he rfl
theorem ed_sum {ns : List Int} (hm : c.mg "sum" = none) (ha : EA c η [e] ρ [.lst (ns.map .int)]) (hg : glB η.sc "sum" = true := by decide +kernel)
    (he : isStar e = false := by rfl) : ED c η (.Call (.Name "sum" p) [e] [] pos) ρ (.int ns.sum) :=
  ed_blt (fun X hX => hX.K ▸ cr_sum hX.calm) (fun F H vs s r Q q => by
    obtain ⟨v, rfl, r1⟩ := r.one
    cases r1 with
    | lst hf r2 =>
      have e := RepL.ints_inv r2
      subst e
      exact ⟨_, ns, rfl, SqL.of (s _ _ hf), q _ F H (.refl s) (.int _)⟩) ha hm (by decide +kernel) hg (by decide) (by decide) he rfl
section
variable {i j : Int} (ha : EA c η [a, b] ρ [.int i, .int j])
theorem ed_min2 (hm : c.mg "min" = none) (ha : EA c η [a, b] ρ [.int i, .int j]) (hg : glB η.sc "min" = true := by decide +kernel) (he : isStar a = false := by rfl) (hpl : noStar [b] = true := by rfl) :
    ED c η (.Call (.Name "min" p) [a, b] [] pos) ρ (.int (if j < i then j else i)) :=
  ed_blt (fun X hX => call_min2 hX.calm) (fun F H vs s r Q q => by
    obtain ⟨v, w, rfl, r1, r2⟩ := r.two
    cases r1
    cases r2
    exact ⟨i, j, rfl, q _ F H (.refl s) (.int _)⟩) ha hm (by decide +kernel) hg (by decide) (by decide) he hpl
theorem ed_max2 (hm : c.mg "max" = none) (ha : EA c η [a, b] ρ [.int i, .int j]) (hg : glB η.sc "max" = true := by decide +kernel) (he : isStar a = false := by rfl) (hpl : noStar [b] = true := by rfl) :
    ED c η (.Call (.Name "max" p) [a, b] [] pos) ρ (.int (if j > i then j else i)) :=
  ed_blt (fun X hX => call_max2 hX.calm) (fun F H vs s r Q q => by
    obtain ⟨v, w, rfl, r1, r2⟩ := r.two
    cases r1
    cases r2
    exact ⟨i, j, rfl, q _ F H (.refl s) (.int _)⟩) ha hm (by decide +kernel) hg (by decide) (by decide) he hpl
end
theorem eo_list (hm : c.mg "list" = none) (ha : EA c η [e] ρ [.lst ds]) (hg : glB η.sc "list" = true := by decide +kernel)
    (he : isStar e = false := by rfl) : EO c η (.Call (.Name "list" p) [e] [] pos) ρ (.lst ds) :=
  eo_ty (fun X hX => hX.K ▸ call_list_of) (fun F H vs s r Q q => by
    obtain ⟨v, rfl, r1⟩ := r.one
    cases r1 with
    | lst hf r2 => exact ⟨_, _, rfl, .inl (SqL.of (s _ _ hf)), fun l hl => q l F _ (.apart s hl) (s.free hl) hl (obj_lst r2)⟩) ha hm (by decide +kernel) hg (by decide) (by decide) he rfl

/-! ### a def's promise in data -/
/-- from arguments that bear ds, where R ds d: what bears d -/
def spP (K : PySem.W.Frag) (R : List D → D → Prop) : Sp := fun vs H Q _ => ∃ F ds d, Same F H ∧ RepL K F vs ds ∧ R ds d ∧ ∀ v F' H', Grow F H F' H' → Rep K F' v d → Q v H'
/-- .. a new object that holds d -/
def spO (K : PySem.W.Frag) (R : List D → D → Prop) : Sp := fun vs H Q _ => ∃ F ds d, Same F H ∧ RepL K F vs ds ∧ R ds d ∧ ∀ a F' H', Grow F H F' H' → F' a = none → H a = none → Obj K F' (H' a) d → Q (.ref a) H'
/-- a def that may be called by its name -/
structure Call (c : Cc) (j : Nat) (x : Str) (sp : Sp) : Prop where
  ex : ∃ (f : Addr) (fd : FuncData) (ps : List Str), FnOk c.P c.w c.K c.mg c.base CX0 j f fd ps sp ∧ c.mg x = some (.ref f) ∧ PySem.W.keepIn c.K (.ref f) = true ∧ Binds c.K fd ps []
theorem we_call {j : Nat} {x : Str} {sp : Sp} (cl : Call c j x sp) (hj : j ≤ c.k) {σ : St} {H : Hp} {Q : VK} (h : WA c η (e :: es) σ H fun vs H1 => sp vs H1 Q E0) (hg : glB η.sc x = true := by decide +kernel) (hdb : (x == ("__debug__" : Str)) = false := by decide)
    (he : isStar e = false := by rfl) (hpl : noStar es = true := by rfl) : WE c η (.Call (.Name x p) (e :: es) [] pos) σ H Q := by
  obtain ⟨f, fd, ps, F, hm, kp, bd⟩ := cl.ex
  refine WE.of (t := tCall sp [] E0 (WA c η (e :: es))) (fun X hX => ?_) ?_
  · obtain ⟨h1, h2, h3, h4, h5, _⟩ := id hX
    exact pe_call (by rw [h1, h2, h3, h4, h5]; exact F) (hX.room.mono hj) (gl_of hX hg) (by rw [h4]; exact hm) (by rw [h3]; exact kp) (by rw [h3]; exact bd) .nil pass0 (WA.pa hX) hdb (star_cons he X.env) (star_any hpl pos X.env)
  · show WA c η (e :: es) σ H fun vs H1 => sp (vs ++ []) H1 Q E0
    simpa only [List.append_nil] using h
theorem ed_call {j : Nat} {x : Str} {R : List D → D → Prop} (cl : Call c j x (spP c.K R)) (hj : j ≤ c.k) (hr : R ds d) (ha : EA c η (e :: es) ρ ds) (hg : glB η.sc x = true := by decide +kernel) (hdb : (x == ("__debug__" : Str)) = false := by decide)
    (he : isStar e = false := by rfl) (hpl : noStar es = true := by rfl) : ED c η (.Call (.Name x p) (e :: es) [] pos) ρ d := ⟨fun F0 H0 σ F H S Q q =>
  we_call cl hj (ha.run F0 H0 σ F H S _ fun vs F1 H1 g1 r1 => ⟨F1, ds, d, g1.fh, r1, hr, fun v F' H' g' r' => q v F' H' (g1.trans g') r'⟩) hg hdb he hpl⟩
theorem eo_call {j : Nat} {x : Str} {R : List D → D → Prop} (cl : Call c j x (spO c.K R)) (hj : j ≤ c.k) (hr : R ds d) (ha : EA c η (e :: es) ρ ds) (hg : glB η.sc x = true := by decide +kernel) (hdb : (x == ("__debug__" : Str)) = false := by decide)
    (he : isStar e = false := by rfl) (hpl : noStar es = true := by rfl) : EO c η (.Call (.Name x p) (e :: es) [] pos) ρ d := ⟨fun F0 H0 σ F H S Q q =>
  we_call cl hj (ha.run F0 H0 σ F H S _ fun vs F1 H1 g1 r1 => ⟨F1, ds, d, g1.fh, r1, hr, fun a F' H' g' n n0 o => q a F' H' (g1.trans g') n (Same.free g1.h n0) o⟩) hg hdb he hpl⟩
end DL

set_option Elab.async false
set_option linter.all false
set_option maxRecDepth 100000
set_option maxHeartbeats 4000000
namespace DL
open PySem L2
variable {c : Cc} {η : Nm} {ρ ρ1 ρ2 : List Sl} {a b e o : Expr} {es : List Expr} {pos p apos : Pos} {d d1 d2 : D} {ds : List D}

/-! ### dicts with text keys -/
def lookD : List (Str × D) → Str → Option D
  | [], _ => none
  | (y, d) :: r, x => if y = x then some d else lookD r x
def hasD (ks : List (Str × D)) (x : Str) : Bool := ks.any fun p => decide (p.1 = x)
def putD (ks : List (Str × D)) (x : Str) (d : D) : List (Str × D) := if hasD ks x then ks.map fun p => if p.1 = x then (p.1, d) else p else ks ++ [(x, d)]
section
variable {K : PySem.W.Frag} {F : Hp} {x : Str}
theorem RepK.look : ∀ {kvs : List (Key × V)} {ks : List (Str × D)}, RepK K F kvs ks → (∀ d, lookD ks x = some d → ∃ v, valV kvs (Sum.inr x : Key) = some v ∧ Rep K F v d) ∧ (lookD ks x = none → valV kvs (Sum.inr x : Key) = none)
  | _, _, .nil => ⟨fun d h => (nomatch h), fun _ => rfl⟩
  | _, _, .cons (x := y) h t => by
    obtain ⟨h1, h2⟩ := t.look
    unfold lookD
    by_cases e : y = x
    · rw [if_pos e]
      refine ⟨fun d q => ?_, fun q => (nomatch q)⟩
      cases q
      exact ⟨_, valV_pos (congrArg Sum.inr e), h⟩
    · rw [if_neg e]
      have e' : ¬ (Sum.inr y : Key) = Sum.inr x := fun z => e (Sum.inr.inj z)
      rw [valV_neg e']
      exact ⟨h1, h2⟩
theorem RepK.has : ∀ {kvs : List (Key × V)} {ks : List (Str × D)}, RepK K F kvs ks → (kvs.any fun kv => decide (kv.1 = (Sum.inr x : Key))) = hasD ks x
  | _, _, .nil => rfl
  | _, _, .cons (x := y) h t => by
    have ih := t.has
    unfold hasD at ih ⊢
    rw [List.any_cons, List.any_cons, ih]
    have : decide ((Sum.inr y : Key) = Sum.inr x) = decide (y = x) := key_rr y x
    exact congrArg (· || _) this
theorem RepK.append : ∀ {kvs kvs' : List (Key × V)} {ks ks' : List (Str × D)}, RepK K F kvs ks → RepK K F kvs' ks' → RepK K F (kvs ++ kvs') (ks ++ ks')
  | _, _, _, _, .nil, s => s
  | _, _, _, _, .cons h t, s => .cons h (t.append s)
theorem RepK.length : ∀ {kvs : List (Key × V)} {ks : List (Str × D)}, RepK K F kvs ks → kvs.length = ks.length
  | _, _, .nil => rfl
  | _, _, .cons _ t => congrArg (· + 1) t.length
theorem RepK.repl {v : V} {d : D} (r : Rep K F v d) : ∀ {kvs : List (Key × V)} {ks : List (Str × D)}, RepK K F kvs ks →
    RepK K F (kvs.map fun kv => if kv.1 = (Sum.inr x : Key) then (kv.1, v) else kv) (ks.map fun p => if p.1 = x then (p.1, d) else p)
  | _, _, .nil => .nil
  | _, _, .cons (x := y) h t => by
    rw [List.map_cons, List.map_cons]
    by_cases e : y = x
    · rw [if_pos (show ((Sum.inr y : Key), _).1 = Sum.inr x from congrArg Sum.inr e), if_pos (show (y, _).1 = x from e)]
      exact .cons r (RepK.repl r t)
    · rw [if_neg (show ¬ ((Sum.inr y : Key), _).1 = Sum.inr x from fun z => e (Sum.inr.inj z)), if_neg (show ¬ (y, _).1 = x from e)]
      exact .cons h (RepK.repl r t)
theorem RepK.put {v : V} {d : D} {kvs : List (Key × V)} {ks : List (Str × D)} (t : RepK K F kvs ks) (r : Rep K F v d) : RepK K F (putK kvs (Sum.inr x) v) (putD ks x d) := by
  unfold putK putD
  rw [t.has]
  split
  · exact t.repl r
  · exact t.append (.cons r .nil)
end
theorem lookD_put (ks : List (Str × D)) (x y : Str) (d : D) : lookD (putD ks x d) y = if y = x then some d else lookD ks y := by
  unfold putD
  have m : ∀ ks : List (Str × D), lookD (ks.map fun p => if p.1 = x then (p.1, d) else p) y = if y = x then (lookD ks y).map fun _ => d else lookD ks y := fun ks => by
    induction ks with
    | nil => simp [lookD]
    | cons q r ih =>
      obtain ⟨z, f⟩ := q
      rw [List.map_cons]
      by_cases h : z = x
      · rw [if_pos h]
        subst h
        by_cases h2 : z = y
        · subst h2; simp [lookD]
        · simp only [lookD, if_neg h2, ih]
      · rw [if_neg h]
        by_cases h2 : z = y
        · subst h2; simp [lookD, h]
        · simp only [lookD, if_neg h2, ih]
  have ap : ∀ ks : List (Str × D), hasD ks x = false → lookD (ks ++ [(x, d)]) y = if y = x then some d else lookD ks y := fun ks h => by
    induction ks with
    | nil =>
      by_cases h2 : y = x
      · subst h2; simp [lookD]
      · simp [lookD, h2, Ne.symm h2]
    | cons q r ih =>
      obtain ⟨z, f⟩ := q
      have h' : decide (z = x) = false ∧ hasD r x = false := by
        unfold hasD at h ⊢
        rw [List.any_cons, Bool.or_eq_false_iff] at h
        exact h
      have hz : ¬ z = x := by simpa using h'.1
      rw [List.cons_append]
      by_cases h2 : z = y
      · subst h2; simp [lookD, hz]
      · simp only [lookD, if_neg h2, ih h'.2]
  have hs : ∀ ks : List (Str × D), hasD ks x = true → ∃ f, lookD ks x = some f := fun ks h => by
    induction ks with
    | nil => simp [hasD] at h
    | cons q r ih =>
      obtain ⟨z, f⟩ := q
      by_cases h2 : z = x
      · exact ⟨f, by simp [lookD, h2]⟩
      · unfold hasD at h ih
        rw [List.any_cons] at h
        simp only [h2, decide_false, Bool.false_or] at h
        obtain ⟨g, e⟩ := ih h
        exact ⟨g, by simp [lookD, h2, e]⟩
  by_cases h : hasD ks x = true
  · rw [if_pos h, m]
    split
    · rename_i e
      subst e
      obtain ⟨f, e⟩ := hs ks h
      rw [e]; rfl
    · rfl
  · rw [if_neg h]
    exact ap ks (by simpa using h)
theorem hu_in {X : Cx} (hX : Cin c η X) : X.A.units + 1 < cLine := hu_of hX.room
/-- d[k] -/
theorem ed_dix {ks : List (Str × D)} {x : Str} (h : lookD ks x = some d) (ha : ED c η a ρ (.dic ks)) (hb : ED c η b ρ (.str x)) (hs : isSlc b = false := by rfl) : ED c η (.Subscript a b pos) ρ d := ⟨fun F0 H0 σ F H S Q q =>
  WE.of (fun X hX => pe_dget (hu_in hX) (WE.pe hX) (WE.pe hX) (ix_nosl hs)) (ha.run F0 H0 σ F H S _ fun v F1 H1 g1 r1 => hb.run F0 H0 σ F1 H1 (S.grow g1) _ fun w F2 H2 g2 r2 => by
    cases r2
    cases r1 with
    | dic hf r =>
      obtain ⟨u, hu, ru⟩ := r.look.1 d h
      exact ⟨_, u, rfl, by rw [← hu]; exact DGet.k (k := Sum.inr x) (g2.fh _ _ (g2.f _ _ hf)), q u F2 H2 (g1.trans g2) (ru.mono g2.f)⟩)⟩
/-- k in d -/
theorem in_dic {ks : List (Str × D)} {x : Str} (ha : ED c η a ρ (.str x)) (hb : ED c η b ρ (.dic ks)) {F0 H0 F H : Hp} {σ : St} (S : Stt c.K F0 H0 ρ σ F H) {Q : VK} (q : ∀ F' H', Grow F H F' H' → Q (.bl (lookD ks x).isSome) H') : tDIn (WE c η a) (WE c η b) σ H Q :=
  ha.run F0 H0 σ F H S _ fun v F1 H1 g1 r1 => hb.run F0 H0 σ F1 H1 (S.grow g1) _ fun w F2 H2 g2 r2 => by
    cases r1
    cases r2 with
    | @dic _ kvs _ hf r =>
      refine ⟨_, valV kvs (Sum.inr x), rfl, DGet.k (k := Sum.inr x) (g2.fh _ _ hf), ?_⟩
      have e : (valV kvs (Sum.inr x : Key)).isSome = (lookD ks x).isSome := by
        cases h : lookD ks x with
        | none => rw [r.look.2 h]; rfl
        | some d =>
          obtain ⟨u, hu, _⟩ := r.look.1 d h
          rw [hu]
          rfl
      rw [e]
      exact q F2 H2 (g1.trans g2)
theorem ed_inDic {ks : List (Str × D)} {x : Str} (hm : behindInMarks .In b = false) (ha : ED c η a ρ (.str x)) (hb : ED c η b ρ (.dic ks)) : ED c η (.Compare a [.In] [b] pos) ρ (.bl (lookD ks x).isSome) := ⟨fun F0 H0 σ F H S Q q =>
  WE.of (fun X hX => pe_cmp (pc_din (hu_in hX) (WE.pe hX) (WE.pe hX)) hm) (in_dic ha hb S fun F' H' g => q _ F' H' g (.bl _))⟩
theorem et_inDic {ks : List (Str × D)} {x : Str} (hm : behindInMarks .In b = false) (ha : ED c η a ρ (.str x)) (hb : ED c η b ρ (.dic ks)) : ET c η (.Compare a [.In] [b] pos) ρ (lookD ks x).isSome := ⟨fun F0 H0 σ F H S Q q =>
  WT.of (fun X hX => pt_cmp (pc_din (hu_in hX) (WE.pe hX) (WE.pe hX)) hm) (in_dic (Q := fun x H' => ∃ k, x = .bl k ∧ Q k H') ha hb S fun F' H' g => ⟨_, rfl, q F' H' g⟩)⟩
/-- d.get(k, x) -/
theorem ed_get {ks : List (Str × D)} {x : Str} {f : Expr} {d0 : D} (ho : ED c η o ρ (.dic ks)) (he : ED c η e ρ (.str x)) (hf : ED c η f ρ d0) (m1 : isCall0 o = false := by rfl) (m2 : isStar e = false := by rfl) (m3 : isStar f = false := by rfl) (m4 : (apos.endLine == pos.line) = true := by rfl) : ED c η (.Call (.Attribute o "get" apos) [e, f] [] pos) ρ ((lookD ks x).getD d0) := ⟨fun F0 H0 σ F H S Q q =>
  WE.of (fun X hX => pe_dget2 (hu_in hX) (WE.pe hX) (WE.pe hX) (WE.pe hX) (m2_ok m1 m2 m3 m4)) (ho.run F0 H0 σ F H S _ fun v F1 H1 g1 r1 => by
    cases r1 with
    | dic hd r =>
      refine ⟨_, rfl, .inl ⟨_, .inl (g1.fh _ _ hd)⟩, he.run F0 H0 σ F1 H1 (S.grow g1) _ fun w F2 H2 g2 r2 => hf.run F0 H0 σ F2 H2 (S.grow (g1.trans g2)) _ fun z F3 H3 g3 r3 => ?_⟩
      cases r2
      refine ⟨valV _ (Sum.inr x), DGet.k (k := Sum.inr x) (g3.fh _ _ ((g2.trans g3).f _ _ hd)), ?_⟩
      cases h : lookD ks x with
      | none =>
        rw [r.look.2 h]
        exact q z F3 H3 ((g1.trans g2).trans g3) (by rw [h]; exact r3)
      | some d =>
        obtain ⟨u, hu, ru⟩ := r.look.1 d h
        rw [hu]
        exact q u F3 H3 ((g1.trans g2).trans g3) (by rw [h]; exact ru.mono (g2.trans g3).f))⟩

/-! ### methods of texts and lists that make nothing -/
theorem ed_join {x : Str} {ys : List Str} (hz : (ys.map (·.length)).sum + ys.length * x.length ≤ 1000000) (ho : ED c η o ρ (.str x)) (he : ED c η e ρ (.lst (ys.map .str)))
    (hs : isStar e = false := by rfl) (hb : isCall0 o = false := by rfl) (hl : (apos.endLine == pos.line) = true := by rfl) :
    ED c η (.Call (.Attribute o "join" apos) [e] [] pos) ρ (.str (Txt.join x ys)) := ⟨fun F0 H0 σ F H S Q q => fun X hX pins s I => by
  refine (pe_join (WE.pe hX) (WE.pe hX) (star_one hs X.env) (base_no hb _ X.env _) hl).run pins s σ H Q I ?_
  rw [hX.K]
  refine ho.run F0 H0 σ F H S _ fun v F1 H1 g1 r1 => ?_
  cases r1
  refine ⟨⟨x, rfl⟩, he.run F0 H0 σ F1 H1 (S.grow g1) _ fun w F2 H2 g2 r2 => ?_⟩
  cases r2 with
  | lst hf r =>
    have e := RepL.strs_inv r
    subst e
    exact ⟨x, _, ys, rfl, rfl, .inl (SqL.of (g2.fh _ _ hf)), Nat.le_trans hz (by decide), q _ F2 H2 (g1.trans g2) (.str _)⟩⟩
theorem RepL.strs {K : PySem.W.Frag} {F : Hp} : ∀ zs : List Str, RepL K F (zs.map V.str) (zs.map D.str)
  | [] => .nil
  | z :: r => .cons (.str z) (RepL.strs r)
theorem eo_split {x y : Str} (hy : (y.length == 0) = false) (hz : x.length + 2 ≤ 100000) (ho : ED c η o ρ (.str x)) (he : ED c η e ρ (.str y))
    (hs : isStar e = false := by rfl) (hb : isCall0 o = false := by rfl) (hl : (apos.endLine == pos.line) = true := by rfl) :
    EO c η (.Call (.Attribute o "split" apos) [e] [] pos) ρ (.lst ((Txt.split x y).map .str)) := ⟨fun F0 H0 σ F H S Q q =>
  WE.of (fun X hX => pe_split (WE.pe hX) (WE.pe hX) (star_one hs X.env) (base_no hb _ X.env _) hl) (ho.run F0 H0 σ F H S _ fun v F1 H1 g1 r1 => by
    cases r1
    refine ⟨⟨x, rfl⟩, he.run F0 H0 σ F1 H1 (S.grow g1) _ fun w F2 H2 g2 r2 => ?_⟩
    cases r2
    refine ⟨x, y, rfl, rfl, hy, len_line hz, fun p hp => ?_⟩
    exact q p F2 _ ((g1.trans g2).trans (.apart g2.fh hp)) (g2.fh.free hp) ((g1.trans g2).h.free hp) (obj_lst (RepL.strs _)))⟩
/-- xs.index(y), flat data -/
theorem ed_index {y : D} {j : Nat} (hy : y.flat = true) (hd : ds.all D.flat = true) (hj : ∃ z, ds[j]? = some z ∧ eqF z y = true) (hn : ∀ m z, m < j → ds[m]? = some z → eqF z y = false) (ho : ED c η o ρ (.lst ds)) (he : ED c η e ρ y)
    (hr : ∀ X to te, PE X o to → PE X e te → PE X (.Call (.Attribute o "index" apos) [e] [] pos) (tBM X.K "list" (rIndex X.K) to (tCons te tNil))) : ED c η (.Call (.Attribute o "index" apos) [e] [] pos) ρ (.int (j : Nat)) := ⟨fun F0 H0 σ F H S Q q => fun X hX pins s I => by
  refine (hr X _ _ (WE.pe hX) (WE.pe hX)).run pins s σ H Q I ?_
  rw [hX.K]
  refine ho.run F0 H0 σ F H S _ fun v F1 H1 g1 r1 => ?_
  cases r1 with
  | @lst p vs _ hf r =>
    refine ⟨.inl ⟨rfl, vs, SqL.of (g1.fh _ _ hf)⟩, he.run F0 H0 σ F1 H1 (S.grow g1) _ fun w F2 H2 g2 r2 => ?_⟩
    have r' := r.mono g2.f
    obtain ⟨z, hz, ez⟩ := hj
    obtain ⟨v, hv, rv⟩ := r'.get hz
    obtain ⟨s1, f1⟩ := flat_sc r2 hy
    have fl := (RepL.inV r2 hy r' hd).2
    have ef : ∀ (z : D) (v : V), z.sc = some v → eqF z y = eqV v w := fun z v h => by unfold eqF; rw [h, s1]
    have hz' : z.flat = true := List.all_eq_true.mp hd z (List.mem_of_getElem? hz)
    refine ⟨p, vs, w, j, v, rfl, rfl, SqL.of (g2.fh _ _ (g2.f _ _ hf)), f1, fl, hv, by rw [← ef z v (flat_sc rv hz').1]; exact ez, fun m z' hm h' => ?_, q _ F2 H2 (g1.trans g2) (.int _)⟩
    obtain ⟨z2, hz2, rz2⟩ := r'.getV h'
    have hf2 : z2.flat = true := List.all_eq_true.mp hd z2 (List.mem_of_getElem? hz2)
    rw [← ef z2 z' (flat_sc rz2 hf2).1]
    exact hn m z2 hm hz2⟩
end DL

set_option Elab.async false
set_option linter.all false
set_option maxRecDepth 100000
set_option maxHeartbeats 4000000
namespace DL
open PySem L2
variable {c : Cc} {η : Nm} {ρ ρ1 ρ2 : List Sl} {a b e o : Expr} {es : List Expr} {pos p apos : Pos} {d d1 d2 : D} {ds : List D}

/-! ### where a block ends -/
inductive Out where
  | nx (ρ : List Sl) | bk (ρ : List Sl) | ct (ρ : List Sl) | rt (d : D) | ro (d : D)
def Done (K : PySem.W.Frag) (F0 H0 : Hp) (E : Ends) : Out → Prop
  | .nx ρ => ∀ σ F H, Stt K F0 H0 ρ σ F H → E.nx σ H
  | .bk ρ => ∀ σ F H, Stt K F0 H0 ρ σ F H → E.bk σ H
  | .ct ρ => ∀ σ F H, Stt K F0 H0 ρ σ F H → E.ct σ H
  | .rt d => ∀ v F H, Grow F0 H0 F H → Rep K F v d → E.rt v H
  | .ro d => ∀ a F H, Grow F0 H0 F H → F a = none → H0 a = none → Obj K F (H a) d → E.rt (.ref a) H
/-- blocks, one behind the other -/
def WQ (c : Cc) (η : Nm) : List (List Stmt) → TS
  | [] => fun E σ H => E.nx σ H
  | b :: bs => fun E σ H => WB c η b { E with nx := WQ c η bs E } σ H
structure SD (c : Cc) (η : Nm) (bs : List (List Stmt)) (ρ : List Sl) (out : Out) : Prop where
  run : ∀ F0 H0 σ F H, Stt c.K F0 H0 ρ σ F H → ∀ E : Ends, Done c.K F0 H0 E out → WQ c η bs E σ H
variable {st : Stmt} {rest : List Stmt} {bs : List (List Stmt)} {out : Out}
theorem WQ.cons {E : Ends} {σ : St} {H : Hp} (h : WS c η st { E with nx := WQ c η (rest :: bs) E } σ H) : WQ c η ((st :: rest) :: bs) E σ H :=
  WB.of (t := tSeq (WS c η st) (WB c η rest)) (fun X hX => pss_cons (WS.ps hX) (WB.pb hX)) h
theorem sd_nil (h : SD c η bs ρ out) : SD c η ([] :: bs) ρ out := ⟨fun F0 H0 σ F H S E q => WB.of (fun _ _ => pss_nil) (h.run F0 H0 σ F H S E q)⟩
theorem sd_end : SD c η [] ρ (.nx ρ) := ⟨fun F0 H0 σ F H S E q => q σ F H S⟩
theorem sd_end' (h : ρ = ρ1) : SD c η [] ρ (.nx ρ1) := by rw [h]; exact sd_end
/-- one statement -/
structure S1 (c : Cc) (η : Nm) (st : Stmt) (ρ : List Sl) (out : Out) : Prop where
  run : ∀ F0 H0 σ F H, Stt c.K F0 H0 ρ σ F H → ∀ E : Ends, Done c.K F0 H0 E out → WS c η st E σ H
theorem sd_cons (h : S1 c η st ρ (.nx ρ1)) (hr : SD c η (rest :: bs) ρ1 out) : SD c η ((st :: rest) :: bs) ρ out := ⟨fun F0 H0 σ F H S E q =>
  WQ.cons (h.run F0 H0 σ F H S _ fun σ' F' H' S' => hr.run F0 H0 σ' F' H' S' E q)⟩
theorem sd_rt (h : S1 c η st ρ (.rt d)) : SD c η ((st :: rest) :: bs) ρ (.rt d) := ⟨fun F0 H0 σ F H S E q => WQ.cons (h.run F0 H0 σ F H S _ q)⟩
theorem sd_ro (h : S1 c η st ρ (.ro d)) : SD c η ((st :: rest) :: bs) ρ (.ro d) := ⟨fun F0 H0 σ F H S E q => WQ.cons (h.run F0 H0 σ F H S _ q)⟩
theorem sd_bk (h : S1 c η st ρ (.bk ρ1)) : SD c η ((st :: rest) :: bs) ρ (.bk ρ1) := ⟨fun F0 H0 σ F H S E q => WQ.cons (h.run F0 H0 σ F H S _ q)⟩
theorem sd_ct (h : S1 c η st ρ (.ct ρ1)) : SD c η ((st :: rest) :: bs) ρ (.ct ρ1) := ⟨fun F0 H0 σ F H S E q => WQ.cons (h.run F0 H0 σ F H S _ q)⟩
/-- one's own object is from now on among what stays -/
theorem sd_freeze (i : Nat) (h : ρ[i]? = some (.ow d)) (hr : SD c η bs (ρ.set i (.va d)) out) : SD c η bs ρ out := ⟨fun F0 H0 σ F H S E q => by
  obtain ⟨F', _, S'⟩ := S.freeze h
  exact hr.run F0 H0 σ F' H S' E q⟩
/-- what is known of a slot is forgotten -/
theorem Stt.forget {K : PySem.W.Frag} {F0 H0 F H : Hp} {ρ : List Sl} {σ : St} (S : Stt K F0 H0 ρ σ F H) (i : Nat) : Stt K F0 H0 (ρ.set i .no) σ F H := by
  refine ⟨S.g, by rw [List.length_set, S.len], fun j s e => ?_, fun j k d1 d2 b e1 e2 e3 e4 => ?_⟩
  · by_cases h : i = j
    · subst h
      by_cases hi : i < ρ.length
      · rw [List.getElem?_set_self hi] at e
        cases e
        exact trivial
      · rw [List.getElem?_eq_none (by rw [List.length_set]; omega)] at e
        cases e
    · rw [List.getElem?_set_ne h] at e
      exact S.sl j s e
  · have get : ∀ (j : Nat) (d : D), (ρ.set i .no)[j]? = some (.ow d) → ρ[j]? = some (.ow d) := fun j d e => by
      by_cases h : i = j
      · subst h
        by_cases hi : i < ρ.length
        · rw [List.getElem?_set_self hi] at e; cases e
        · rw [List.getElem?_eq_none (by rw [List.length_set]; omega)] at e; cases e
      · rwa [List.getElem?_set_ne h] at e
    exact S.ne j k d1 d2 b (get j d1 e1) (get k d2 e2) e3 e4
theorem sd_forget (i : Nat) (hr : SD c η bs (ρ.set i .no) out) : SD c η bs ρ out := ⟨fun F0 H0 σ F H S E q => hr.run F0 H0 σ F H (S.forget i) E q⟩

/-! ### statements -/
def stoB (η : Nm) (x : Str) : Bool := η.sc.names.lookup x == some .local || (η.sc.names.lookup x == some .cell && η.own x)
theorem sto_of {x : Str} (h : stoB η x = true) : Loc η.sc x ∧ (η.sc.names.lookup x = some .local ∨ η.own x = true) := by
  unfold stoB at h
  simp only [Bool.or_eq_true, Bool.and_eq_true, beq_iff_eq] at h
  rcases h with h | ⟨h, g⟩
  · exact ⟨.inl h, .inl h⟩
  · exact ⟨.inr h, .inr g⟩
theorem loc_of {x : Str} (h : stoB η x = true) : Loc η.sc x := (sto_of h).1
theorem fn_of' {x : Str} {X : Cx} (hX : Cin c η X) (h : stoB η x = true) : X.fn x = true ∨ X.env.scope.names.lookup x = some .local := by
  rcases (sto_of h).2 with h | h
  · right; rw [hX.sc]; exact h
  · left; exact hX.fn x h
theorem s1_doc {x : Str} {j : Nat} : S1 c η (.Expr (.Constant (.str x) j p) pos) ρ (.nx ρ) := ⟨fun F0 H0 σ F H S E q => WS.of (fun _ _ => ps_doc) (q σ F H S)⟩
theorem s1_pass : S1 c η (.Pass pos) ρ (.nx ρ) := ⟨fun F0 H0 σ F H S E q => WS.of (fun _ _ => ps_pass) (q σ F H S)⟩
theorem s1_break : S1 c η (.Break pos) ρ (.bk ρ) := ⟨fun F0 H0 σ F H S E q => WS.of (fun _ _ => ps_break) (q σ F H S)⟩
theorem s1_cont : S1 c η (.Continue pos) ρ (.ct ρ) := ⟨fun F0 H0 σ F H S E q => WS.of (fun _ _ => ps_continue) (q σ F H S)⟩
theorem s1_expr (he : ED c η e ρ d) (hs : isCmp e = false := by rfl) : S1 c η (.Expr e pos) ρ (.nx ρ) := ⟨fun F0 H0 σ F H S E q =>
  WS.of (fun X hX => ps_expr (WE.pe hX) (swap_no hs _ _ X.env)) (he.run F0 H0 σ F H S _ fun v F' H' g _ => q σ F' H' (S.grow g))⟩
theorem s1_ret (he : ED c η e ρ d) : S1 c η (.Return (some e) pos) ρ (.rt d) := ⟨fun F0 H0 σ F H S E q =>
  WS.of (fun X hX => ps_ret (WE.pe hX)) (he.run F0 H0 σ F H S _ fun v F' H' g r => q v F' H' (S.g.trans g) r)⟩
theorem s1_retO (he : EO c η e ρ d) : S1 c η (.Return (some e) pos) ρ (.ro d) := ⟨fun F0 H0 σ F H S E q =>
  WS.of (fun X hX => ps_ret (WE.pe hX)) (he.run F0 H0 σ F H S _ fun a F' H' g n n0 o => q a F' H' (S.g.trans g) n (S.g.h.free n0) o)⟩
theorem s1_retN : S1 c η (.Return none pos) ρ (.rt .non) := ⟨fun F0 H0 σ F H S E q => WS.of (fun _ _ => ps_retN) (q _ F H S.g .non)⟩
/-- return x, x one's own object -/
theorem s1_retW {i : Nat} {x : Str} (hρ : ρ[i]? = some (.ow d)) (hN : η.N[i]? = some x := by rfl) (hv : visB η.sc x = true := by decide +kernel)
    (hd : (x == ("__debug__" : Str)) = false := by decide) (hcd : (x == ("__classdict__" : Str)) = false := by decide) : S1 c η (.Return (some (.Name x p)) pos) ρ (.ro d) := ⟨fun F0 H0 σ F H S E q => by
  obtain ⟨a, h, n, n0, ob⟩ := S.sl i _ hρ
  exact WS.of (t := tRet (tVar i)) (fun X hX => ps_ret (pe_var (by rw [hX.N]; exact hN) (by rw [hX.sc]; exact vis_of hv) hd hcd)) ⟨_, h, q a F H S.g n n0 ob⟩⟩
/-! x = e -/
theorem s1_set (i : Nat) {x : Str} (he : ED c η e ρ d) (hN : η.N.Nodup) (hi : η.N[i]? = some x := by rfl) (hx : stoB η x = true := by decide +kernel) (hρ : i < ρ.length := by first | decide | (simp [rho]; done)) (hs : isCmp e = false := by rfl) :
    S1 c η (.Assign [.Name x p] e pos) ρ (.nx (ρ.set i (.va d))) := ⟨fun F0 H0 σ F H S E q =>
  WS.of (t := tAsg (WE c η e) (gName i)) (fun X hX => ps_set (by rw [hX.N]; exact hN) (by rw [hX.N]; exact hi) (by rw [hX.sc]; exact loc_of hx) (WE.pe hX) (swap_no hs _ _ X.env) (fn_of' hX hx))
    (he.run F0 H0 σ F H S _ fun v F' H' g r => q _ F' H' ((S.grow g).set_va hρ r))⟩
theorem s1_setO (i : Nat) {x : Str} (he : EO c η e ρ d) (hN : η.N.Nodup) (hi : η.N[i]? = some x := by rfl) (hx : stoB η x = true := by decide +kernel) (hρ : i < ρ.length := by first | decide | (simp [rho]; done)) (hs : isCmp e = false := by rfl) :
    S1 c η (.Assign [.Name x p] e pos) ρ (.nx (ρ.set i (.ow d))) := ⟨fun F0 H0 σ F H S E q =>
  WS.of (t := tAsg (WE c η e) (gName i)) (fun X hX => ps_set (by rw [hX.N]; exact hN) (by rw [hX.N]; exact hi) (by rw [hX.sc]; exact loc_of hx) (WE.pe hX) (swap_no hs _ _ X.env) (fn_of' hX hx))
    (he.run F0 H0 σ F H S _ fun a F' H' g n n0 ob => q _ F' H' (S.set_ow g hρ n n0 ob))⟩
/-! targets -/
/-- storing d at the target turns ρ into ρ1; the slots is alone change -/
structure TD (c : Cc) (η : Nm) (tg : Expr) (d : D) (is : List Nat) (ρ ρ1 : List Sl) : Prop where
  run : ∀ F0 H0 σ F H v, Stt c.K F0 H0 ρ σ F H → Rep c.K F v d → ∀ Q : St → Hp → Prop,
  (∀ σ', Stt c.K F0 H0 ρ1 σ' F H → σ'.length = σ.length → (∀ j, j ∉ is → σ'[j]? = σ[j]?) → Q σ' H) → WG c η tg v σ H Q
theorem td_name (i : Nat) {x : Str} (hN : η.N.Nodup) (hi : η.N[i]? = some x := by rfl) (hx : stoB η x = true := by decide +kernel) (hρ : i < ρ.length := by first | decide | (simp [rho]; done)) : TD c η (.Name x pos) d [i] ρ (ρ.set i (.va d)) := ⟨fun F0 H0 σ F H v S r Q q =>
  WG.of (t := gName i) (fun X hX => pg_name (by rw [hX.N]; exact hN) (by rw [hX.N]; exact hi) (by rw [hX.sc]; exact loc_of hx) (fn_of' hX hx))
    (q _ (S.set_va hρ r) (by rw [List.length_set]) fun j hj => by rw [List.getElem?_set_ne (by intro z; subst z; simp at hj)])⟩
theorem td_name2 (i j : Nat) {x y : Str} {p1 p2 : Pos} {k : Nat} (hN : η.N.Nodup) (hi : η.N[i]? = some x := by rfl) (hj : η.N[j]? = some y := by rfl) (hx : stoB η x = true := by decide +kernel) (hy : stoB η y = true := by decide +kernel) (hρ : i < ρ.length := by first | decide | (simp [rho]; done)) (hρ2 : j < ρ.length := by first | decide | (simp [rho]; done))
    (hn : ∀ env, (assignEach [.Name x p1, .Name y p2] env).length = 2 := by intro _; rfl) (hst : ∀ env, (assignEach [.Name x p1, .Name y p2] env).findIdx? (·.1) = none := by intro _; rfl)
    (hc1 : ∀ env, (assignEach [.Name x p1, .Name y p2] env).map (·.2) = assign (.Name x p1) env :: (assignEach [.Name y p2] env).map (·.2) := by intro _; rfl) (hc2 : ∀ env, (assignEach [.Name y p2] env).map (·.2) = assign (.Name y p2) env :: (assignEach [] env).map (·.2) := by intro _; rfl) :
    TD c η (.Tuple [.Name x p1, .Name y p2] k pos) (.tup [d1, d2]) [i, j] ρ ((ρ.set i (.va d1)).set j (.va d2)) := ⟨fun F0 H0 σ F H v S r Q q =>
  WG.of (t := gTup c.K 2 (gCons (gName i) (gCons (gName j) gNil))) (fun X hX => by
    have g1 : PG X (.Name x p1) (gName i) := pg_name (by rw [hX.N]; exact hN) (by rw [hX.N]; exact hi) (by rw [hX.sc]; exact loc_of hx) (fn_of' hX hx)
    have g2 : PG X (.Name y p2) (gName j) := pg_name (by rw [hX.N]; exact hN) (by rw [hX.N]; exact hj) (by rw [hX.sc]; exact loc_of hy) (fn_of' hX hy)
    rw [← hX.K]
    exact pg_tup hX.calm (pgs_cons g1 (pgs_cons g2 pgs_nil (hc2 X.env)) (hc1 X.env)) (hn X.env) (hst X.env)) (by
    cases r with
    | @tup a vs _ hf r =>
      have sq := same_T S.fh hf
      obtain ⟨v1, v2, rfl, r1, r2⟩ := r.two
      refine ⟨a, _, rfl, sq, rfl, v1, [v2], rfl, v2, [], rfl, rfl, q _ ((S.set_va hρ r1).set_va (by rw [List.length_set]; exact hρ2) r2) (by rw [List.length_set, List.length_set]) fun m hm => ?_⟩
      simp only [List.mem_cons, List.not_mem_nil, or_false, not_or] at hm
      rw [List.getElem?_set_ne (Ne.symm hm.2), List.getElem?_set_ne (Ne.symm hm.1)])⟩
/-- target = e -/
theorem s1_asg {tg : Expr} {is : List Nat} (he : ED c η e ρ d) (hg : TD c η tg d is ρ ρ1) (hs : isCmp e = false := by rfl) (hw : isTup e = false := by rfl)
    (h1 : ∀ env, (assignEach [tg] env).map (·.2) = [assign tg env] := by intro _; rfl) : S1 c η (.Assign [tg] e pos) ρ (.nx ρ1) := ⟨fun F0 H0 σ F H S E q =>
  WS.of (fun X hX => ps_asg (WE.pe hX) (WG.pg hX) (sole_no hs _ _ X.env) (stores_no hw _ X.env) (h1 X.env)) (he.run F0 H0 σ F H S _ fun v F' H' g r => hg.run F0 H0 σ F' H' v (S.grow g) r _ fun σ' S' _ _ => q σ' F' H' S')⟩
/-! if -/
theorem s1_if {t : Expr} {a b : List Stmt} {k : Bool} (ht : ET c η t ρ k) (h1 : k = true → SD c η [a] ρ out) (h2 : k = false → SD c η [b] ρ out) : S1 c η (.If t a b pos) ρ out := ⟨fun F0 H0 σ F H S E q =>
  WS.of (fun X hX => ps_if (WT.pt hX) (WB.pb hX) (WB.pb hX)) (ht.run F0 H0 σ F H S _ fun F' H' g => by
    cases k with
    | true =>
      show WB c η a E σ H'
      exact (h1 rfl).run F0 H0 σ F' H' (S.grow g) E q
    | false =>
      show WB c η b E σ H'
      exact (h2 rfl).run F0 H0 σ F' H' (S.grow g) E q)⟩
/-- .. each way with what is behind -/
theorem sd_if {t : Expr} {a b : List Stmt} {k : Bool} (ht : ET c η t ρ k) (h1 : k = true → SD c η (a :: rest :: bs) ρ out) (h2 : k = false → SD c η (b :: rest :: bs) ρ out) : SD c η ((.If t a b pos :: rest) :: bs) ρ out := ⟨fun F0 H0 σ F H S E q =>
  WQ.cons (WS.of (fun X hX => ps_if (WT.pt hX) (WB.pb hX) (WB.pb hX)) (ht.run F0 H0 σ F H S _ fun F' H' g => by
    cases k with
    | true =>
      show WQ c η (a :: rest :: bs) E σ H'
      exact (h1 rfl).run F0 H0 σ F' H' (S.grow g) E q
    | false =>
      show WQ c η (b :: rest :: bs) E σ H'
      exact (h2 rfl).run F0 H0 σ F' H' (S.grow g) E q))⟩
/-! while -/
/-- the turns of a while -/
inductive WhD (c : Cc) (η : Nm) (t : Expr) (body : List Stmt) : Nat → List Sl → Out → Prop
  | stop {n : Nat} {ρ : List Sl} : ET c η t ρ false → WhD c η t body n ρ (.nx ρ)
  | nx {n : Nat} {ρ ρ1 : List Sl} {o : Out} : ET c η t ρ true → SD c η [body] ρ (.nx ρ1) → WhD c η t body n ρ1 o → WhD c η t body (n + 1) ρ o
  | rt {n : Nat} {ρ : List Sl} {d : D} : ET c η t ρ true → SD c η [body] ρ (.rt d) → WhD c η t body n ρ (.rt d)
  | bk {n : Nat} {ρ ρ1 : List Sl} : ET c η t ρ true → SD c η [body] ρ (.bk ρ1) → WhD c η t body n ρ (.nx ρ1)
theorem WhD.mono {t : Expr} {body : List Stmt} {n m : Nat} {ρ : List Sl} {o : Out} (h : WhD c η t body n ρ o) : n ≤ m → WhD c η t body m ρ o := by
  induction h generalizing m with
  | stop h => exact fun _ => .stop h
  | rt h1 h2 => exact fun _ => .rt h1 h2
  | bk h1 h2 => exact fun _ => .bk h1 h2
  | nx h1 h2 _ ih =>
    intro hm
    cases m with
    | zero => omega
    | succ m => exact .nx h1 h2 (ih (by omega))
theorem s1_while {t : Expr} {body : List Stmt} {n : Nat} (h : WhD c η t body n ρ out) : S1 c η (.While t body [] pos) ρ out := ⟨fun F0 H0 σ F H S E q =>
  WS.of (t := tWhile (WT c η t) (WB c η body)) (fun X hX => ps_while hX.po (WT.pt hX) (WB.pb hX)) (by
    refine ⟨fun m σ H => ∃ F ρ, Stt c.K F0 H0 ρ σ F H ∧ WhD c η t body m ρ out, ⟨n, F, ρ, S, h⟩, ?_⟩
    rintro m σ H ⟨F, ρ, S, h⟩
    cases h with
    | stop ht =>
      refine ht.run F0 H0 σ F H S _ fun F' H' g => ?_
      rw [if_neg Bool.false_ne_true]
      exact q σ F' H' (S.grow g)
    | @nx n _ ρ1 _ ht hb hr =>
      refine ht.run F0 H0 σ F H S _ fun F' H' g => ?_
      rw [if_pos rfl]
      refine ⟨fun σ' H' => ∃ F' , Stt c.K F0 H0 ρ1 σ' F' H', fun σ' H' ⟨F', S'⟩ => ⟨n, Nat.lt_succ_self n, F', ρ1, S', hr⟩, ?_⟩
      exact hb.run F0 H0 σ F' H' (S.grow g) ⟨fun σ' H' => ∃ F' , Stt c.K F0 H0 ρ1 σ' F' H', E.rt, E.nx, fun σ' H' => ∃ F' , Stt c.K F0 H0 ρ1 σ' F' H'⟩ fun σ2 F2 H2 S2 => ⟨F2, S2⟩
    | rt ht hb =>
      refine ht.run F0 H0 σ F H S _ fun F' H' g => ?_
      rw [if_pos rfl]
      exact ⟨fun _ _ => False, fun _ _ z => z.elim, hb.run F0 H0 σ F' H' (S.grow g) ⟨fun _ _ => False, E.rt, E.nx, fun _ _ => False⟩ q⟩
    | bk ht hb =>
      refine ht.run F0 H0 σ F H S _ fun F' H' g => ?_
      rw [if_pos rfl]
      exact ⟨fun _ _ => False, fun _ _ z => z.elim, hb.run F0 H0 σ F' H' (S.grow g) ⟨fun _ _ => False, E.rt, E.nx, fun _ _ => False⟩ q⟩)⟩
/-! ### what is walked -/
/-- at turn i the iterator yields what bears the i-th item, wherever what stays has grown -/
def Yld (K : PySem.W.Frag) (J : It) (F' : Hp) (items : List D) : Prop := ∀ i F H, Same F' F → Same F H →
  (∀ d, items[i]? = some d → J.go i H ∧ ∀ x H3, J.yld i H x H3 → ∃ F3, Grow F H F3 H3 ∧ Rep K F3 x d) ∧ (items.length ≤ i → J.stop i H)
structure ID (c : Cc) (η : Nm) (tg it : Expr) (ρ : List Sl) (items : List D) : Prop where
  run : ∀ F0 H0 σ F H, Stt c.K F0 H0 ρ σ F H → ∀ R : It → Hp → Prop, (∀ J F' H', Grow F H F' H' → Yld c.K J F' items → R J H') → WI c η tg it σ H R
theorem yld_list {K : PySem.W.Frag} {F' : Hp} {a : Addr} {vs : List V} {ds : List D} (hq : SqL K F' a vs) (r : RepL K F' vs ds) : Yld K (Itl K a) F' ds := fun i F H s s' =>
  ⟨fun d hd => by
    obtain ⟨v, hv, rv⟩ := r.get hd
    refine ⟨⟨vs, v, (s.trans s').seq hq, hv⟩, fun x H3 h => ?_⟩
    obtain ⟨rfl, h⟩ := h
    have e := h vs ((s.trans s').seq hq)
    rw [hv] at e
    cases e
    exact ⟨F, .refl s', rv.mono s⟩, fun hi => ⟨vs, (s.trans s').seq hq, by rw [r.length]; exact hi⟩⟩
theorem yld_tup {K : PySem.W.Frag} {F' : Hp} {a : Addr} {vs : List V} {ds : List D} (hq : SqT K F' a vs) (r : RepL K F' vs ds) : Yld K (Itt K a) F' ds := fun i F H s s' =>
  ⟨fun d hd => by
    obtain ⟨v, hv, rv⟩ := r.get hd
    refine ⟨⟨vs, v, same_T (s.trans s') hq, hv⟩, fun x H3 h => ?_⟩
    obtain ⟨rfl, h⟩ := h
    have e := h vs (same_T (s.trans s') hq)
    rw [hv] at e
    cases e
    exact ⟨F, .refl s', rv.mono s⟩, fun hi => ⟨vs, same_T (s.trans s') hq, by rw [r.length]; exact hi⟩⟩
theorem id_list {tg : Expr} (he : ED c η e ρ (.lst ds)) : ID c η tg e ρ ds := ⟨fun F0 H0 σ F H S R q =>
  WI.of (t := iList c.K (WE c η e)) (fun X hX => by rw [← hX.K]; exact pi_list (WE.pe hX)) (he.run F0 H0 σ F H S _ fun v F' H' g r => by
    cases r with
    | lst hf r => exact ⟨_, rfl, ⟨_, SqL.of (g.fh _ _ hf)⟩, q _ F' H' g (yld_list (SqL.of hf) r)⟩)⟩
theorem id_tup {tg : Expr} (he : ED c η e ρ (.tup ds)) : ID c η tg e ρ ds := ⟨fun F0 H0 σ F H S R q =>
  WI.of (t := iTup c.K (WE c η e)) (fun X hX => by rw [← hX.K]; exact pi_tup (WE.pe hX)) (he.run F0 H0 σ F H S _ fun v F' H' g r => by
    cases r with
    | tup hf r => exact ⟨_, rfl, ⟨_, same_T g.fh hf⟩, q _ F' H' g (yld_tup hf r)⟩)⟩
theorem id_scr {tg : Expr} {ns : List Int} (he : ED c η e ρ (.scr ns)) : ID c η tg e ρ (ns.map .int) := ⟨fun F0 H0 σ F H S R q =>
  WI.of (t := iList c.K (WE c η e)) (fun X hX => by rw [← hX.K]; exact pi_list (WE.pe hX)) (he.run F0 H0 σ F H S _ fun v F' H' g r => by
    cases r with
    | scr hf => exact ⟨_, rfl, ⟨_, g.fh.seq hf⟩, q _ F' H' g (yld_list hf (RepL.ints _))⟩)⟩
/-- lo, lo + 1, .. n of them -/
def rangeD (lo : Int) (n : Nat) : List D := (List.range n).map fun i => .int (lo + (i : Nat))
theorem rangeD_get (lo : Int) (n i : Nat) : (rangeD lo n)[i]? = if i < n then some (.int (lo + (i : Nat))) else none := by
  unfold rangeD
  rw [List.getElem?_map]
  split
  · rename_i h
    rw [List.getElem?_range h]
    rfl
  · rename_i h
    rw [List.getElem?_eq_none (by simpa using h)]
    rfl
theorem yld_range {K : PySem.W.Frag} {F' : Hp} {lo : Int} {n : Nat} : Yld K (Itr lo n) F' (rangeD lo n) := fun i F H s s' => by
  refine ⟨fun d hd => ?_, fun h => (by rw [rangeD, List.length_map, List.length_range] at h; exact h : n ≤ i)⟩
  rw [rangeD_get] at hd
  split at hd
  · rename_i hi
    cases hd
    refine ⟨hi, fun x H3 h => ?_⟩
    obtain ⟨rfl, rfl⟩ := h
    exact ⟨F, .refl s', .int _⟩
  · cases hd
theorem id_range1 {tg : Expr} {j : Int} (hm : c.mg "range" = none) (he : EA c η [e] ρ [.int j]) (hb : -(2 ^ 62) ≤ j ∧ j < 2 ^ 62 := by omega) (hg : glB η.sc "range" = true := by decide +kernel) (hs : isStar e = false := by rfl) :
    ID c η tg (.Call (.Name "range" p) [e] [] pos) ρ (rangeD 0 j.toNat) := ⟨fun F0 H0 σ F H S R q =>
  WI.of (fun X hX => pi_range1 (gl_of hX hg) (by rw [hX.mg]; exact hm) (WA.pa hX) (star_one hs X.env)) (he.run F0 H0 σ F H S _ fun vs F' H' g r => by
    obtain ⟨v, rfl, r1⟩ := r.one
    cases r1
    exact ⟨j, rfl, hb.1, hb.2, q _ F' H' g yld_range⟩)⟩
theorem id_range2 {tg : Expr} {i j : Int} (hm : c.mg "range" = none) (he : EA c η [a, b] ρ [.int i, .int j]) (hb : -(2 ^ 62) ≤ i ∧ i < 2 ^ 62 ∧ -(2 ^ 62) ≤ j ∧ j < 2 ^ 62 := by omega) (hg : glB η.sc "range" = true := by decide +kernel)
    (hs : isStar a = false := by rfl) (hs2 : isStar b = false := by rfl) :
    ID c η tg (.Call (.Name "range" p) [a, b] [] pos) ρ (rangeD i (j - i).toNat) := ⟨fun F0 H0 σ F H S R q =>
  WI.of (fun X hX => pi_range2 (gl_of hX hg) (by rw [hX.mg]; exact hm) (WA.pa hX) (star_two hs hs2 X.env) (star_one hs2 X.env)) (he.run F0 H0 σ F H S _ fun vs F' H' g r => by
    obtain ⟨v, w, rfl, r1, r2⟩ := r.two
    cases r1
    cases r2
    exact ⟨i, j, rfl, hb, q _ F' H' g yld_range⟩)⟩
/-- the signs of a text -/
def signs (x : Str) : List D := x.cps.toList.map fun n => .str ⟨#[n]⟩
theorem id_str {tg : Expr} {x : Str} (he : ED c η e ρ (.str x)) : ID c η tg e ρ (signs x) := ⟨fun F0 H0 σ F H S R q =>
  WI.of (fun X hX => pi_str (WE.pe hX)) (he.run F0 H0 σ F H S _ fun v F' H' g r => by
    cases r
    refine ⟨x, rfl, q _ F' H' g fun i F H s s' => ⟨fun d hd => ?_, fun h => (by rw [signs, List.length_map, Array.length_toList] at h; exact h : x.cps.size ≤ i)⟩⟩
    unfold signs at hd
    rw [List.getElem?_map] at hd
    cases e : x.cps.toList[i]? with
    | none => rw [e] at hd; cases hd
    | some n =>
      rw [e] at hd
      cases hd
      have e' : x.cps[i]? = some n := by rw [← e]; simp
      refine ⟨(Array.getElem?_eq_some_iff.mp e').1, fun y H3 h => ?_⟩
      obtain ⟨rfl, m, hm, rfl⟩ := h
      rw [e'] at hm
      cases hm
      exact ⟨F, .refl s', .str _⟩)⟩
/-! what stays at F1 stays -/
def over (F H : Hp) : Hp := fun a => match F a with | some o => some o | none => H a
theorem over_l {F H : Hp} : Same F (over F H) := fun a o e => by unfold over; rw [e]
theorem over_none {F H : Hp} {a : Addr} (h : over F H a = none) : F a = none ∧ H a = none := by
  unfold over at h
  cases e : F a with
  | some o => rw [e] at h; cases h
  | none => rw [e] at h; exact ⟨rfl, h⟩
theorem over_some {F H : Hp} {a : Addr} {o : HO} (h : over F H a = some o) : F a = some o ∨ (F a = none ∧ H a = some o) := by
  unfold over at h
  cases e : F a with
  | some u => rw [e] at h; exact .inl h
  | none => rw [e] at h; exact .inr ⟨rfl, h⟩
theorem Stt.over {K : PySem.W.Frag} {F0 H0 F H F1 : Hp} {ρ : List Sl} {σ : St} (S : Stt K F0 H0 ρ σ F H) (f : Same F0 F1) (s : Same F1 F) : Stt K F1 (over F1 H0) ρ σ F H ∧ Grow F0 H0 F1 (DL.over F1 H0) := by
  refine ⟨⟨⟨s, fun a o e => ?_, S.fh, fun a o e n => ?_⟩, S.len, fun i sl e => ?_, S.ne⟩, ⟨f, fun a o e => ?_, over_l, fun a o e n => ?_⟩⟩
  · rcases over_some e with h | ⟨_, h⟩
    · exact S.fh a o (s a o h)
    · exact S.g.h a o h
  · rcases over_some e with h | ⟨_, h⟩
    · rw [h] at n; cases n
    · exact S.g.sep a o h (f.free n)
  · have q := S.sl i sl e
    cases sl with
    | no => exact trivial
    | va d => exact q
    | ow d =>
      obtain ⟨a, h1, h2, h3, h4⟩ := q
      refine ⟨a, h1, h2, ?_, h4⟩
      unfold DL.over
      rw [s.free h2]
      exact h3
  · cases z : F1 a with
    | some u =>
      have := S.fh a u (s a u z)
      rw [S.g.h a o e] at this
      cases this
      exact over_l a _ z
    | none => unfold DL.over; rw [z]; exact e
  · exact s.free (S.g.sep a o e n)
theorem Stt.under {K : PySem.W.Frag} {F0 H0 F H F1 H1 : Hp} {ρ : List Sl} {σ : St} (S : Stt K F1 H1 ρ σ F H) (g : Grow F0 H0 F1 H1) : Stt K F0 H0 ρ σ F H := by
  refine ⟨g.trans S.g, S.len, fun i sl e => ?_, S.ne⟩
  have q := S.sl i sl e
  cases sl with
  | no => exact trivial
  | va d => exact q
  | ow d =>
    obtain ⟨a, h1, h2, h3, h4⟩ := q
    exact ⟨a, h1, h2, g.h.free h3, h4⟩
theorem SD.fromN (hb : SD c η bs ρ (.nx ρ2)) {F0 H0 F H F1 : Hp} {σ : St} (S : Stt c.K F0 H0 ρ σ F H) (f : Same F0 F1) (s : Same F1 F) (E : Ends) (q : ∀ σ' F' H', Stt c.K F0 H0 ρ2 σ' F' H' → Same F1 F' → E.nx σ' H') : WQ c η bs E σ H := by
  obtain ⟨S1, g⟩ := S.over f s
  exact hb.run F1 _ σ F H S1 E fun σ' F' H' S' => q σ' F' H' (S'.under g) S'.g.f
theorem SD.fromC (hb : SD c η bs ρ (.ct ρ2)) {F0 H0 F H F1 : Hp} {σ : St} (S : Stt c.K F0 H0 ρ σ F H) (f : Same F0 F1) (s : Same F1 F) (E : Ends) (q : ∀ σ' F' H', Stt c.K F0 H0 ρ2 σ' F' H' → Same F1 F' → E.ct σ' H') : WQ c η bs E σ H := by
  obtain ⟨S1, g⟩ := S.over f s
  exact hb.run F1 _ σ F H S1 E fun σ' F' H' S' => q σ' F' H' (S'.under g) S'.g.f
/-! for -/
inductive ForD (c : Cc) (η : Nm) (tg : Expr) (body : List Stmt) : List D → List Sl → Out → Prop
  | nil {ρ : List Sl} : ForD c η tg body [] ρ (.nx ρ)
  | nx {d : D} {ds : List D} {is : List Nat} {ρ ρ1 ρ2 : List Sl} {o : Out} : TD c η tg d is ρ ρ1 → SD c η [body] ρ1 (.nx ρ2) → ForD c η tg body ds ρ2 o → ForD c η tg body (d :: ds) ρ o
  | ct {d : D} {ds : List D} {is : List Nat} {ρ ρ1 ρ2 : List Sl} {o : Out} : TD c η tg d is ρ ρ1 → SD c η [body] ρ1 (.ct ρ2) → ForD c η tg body ds ρ2 o → ForD c η tg body (d :: ds) ρ o
  | bk {d : D} {ds : List D} {is : List Nat} {ρ ρ1 ρ2 : List Sl} : TD c η tg d is ρ ρ1 → SD c η [body] ρ1 (.bk ρ2) → ForD c η tg body (d :: ds) ρ (.nx ρ2)
  | rt {d : D} {ds : List D} {is : List Nat} {ρ ρ1 : List Sl} {d' : D} : TD c η tg d is ρ ρ1 → SD c η [body] ρ1 (.rt d') → ForD c η tg body (d :: ds) ρ (.rt d')
theorem s1_for {tg it : Expr} {body : List Stmt} (hi : ID c η tg it ρ ds) (h : ForD c η tg body ds ρ out) (hf : isSetD it = false := by rfl) : S1 c η (.For tg it body [] pos) ρ out := ⟨fun F0 H0 σ F H S0 E q =>
  WS.of (fun X hX => ps_for hX.po hX.calm (WI.pi hX) (WG.pg hX) (WB.pb hX) (fold_no hf X.env)) (hi.run F0 H0 σ F H S0 _ fun J F1 H1 g1 y => by
    refine ⟨fun i m σ H => m = ds.length - i ∧ ∃ F ρ, Stt c.K F0 H0 ρ σ F H ∧ Same F1 F ∧ ForD c η tg body (ds.drop i) ρ out, ⟨_, rfl, F1, ρ, S0.grow g1, Same.refl F1, by rw [List.drop_zero]; exact h⟩, ?_⟩
    rintro i m σ H ⟨rfl, F, ρ, S, s, h⟩
    obtain ⟨y1, y2⟩ := y i F H s S.fh
    by_cases hi : i < ds.length
    · obtain ⟨e1, e2⟩ : ds[i]? = some ds[i] ∧ ds.drop i = ds[i] :: ds.drop (i + 1) := ⟨List.getElem?_eq_getElem hi, List.drop_eq_getElem_cons hi⟩
      obtain ⟨go, yl⟩ := y1 _ e1
      refine .inr ⟨go, ?_⟩
      rw [e2] at h
      have next : ∀ (ρ2 : List Sl) (hr : ForD c η tg body (ds.drop (i + 1)) ρ2 out) σ' H', (∃ F', Stt c.K F0 H0 ρ2 σ' F' H' ∧ Same F1 F') → ∃ m', m' < ds.length - i ∧ m' = ds.length - (i + 1) ∧ ∃ F ρ, Stt c.K F0 H0 ρ σ' F H' ∧ Same F1 F ∧ ForD c η tg body (ds.drop (i + 1)) ρ out := fun ρ2 hr σ' H' ⟨F', S', s'⟩ => ⟨_, by omega, rfl, F', ρ2, S', s', hr⟩
      let N : List Sl → L2.St → Hp → Prop := fun ρ2 σ' H' => ∃ F', Stt c.K F0 H0 ρ2 σ' F' H' ∧ Same F1 F'
      have f01 : Same F0 F1 := (S0.grow g1).g.f
      cases h with
      | nx ht hb hr =>
        refine ⟨N _, next _ hr, fun x H3 hx => ?_⟩
        obtain ⟨F3, g3, r3⟩ := yl x H3 hx
        refine ht.run F0 H0 σ F3 H3 x (S.grow g3) r3 _ fun σ' S' _ _ => ?_
        exact SD.fromN hb S' f01 (s.trans g3.f) ⟨N _, E.rt, E.nx, N _⟩ fun σ2 F2 H2 S2 s2 => ⟨F2, S2, s2⟩
      | ct ht hb hr =>
        refine ⟨N _, next _ hr, fun x H3 hx => ?_⟩
        obtain ⟨F3, g3, r3⟩ := yl x H3 hx
        refine ht.run F0 H0 σ F3 H3 x (S.grow g3) r3 _ fun σ' S' _ _ => ?_
        exact SD.fromC hb S' f01 (s.trans g3.f) ⟨N _, E.rt, E.nx, N _⟩ fun σ2 F2 H2 S2 s2 => ⟨F2, S2, s2⟩
      | bk ht hb =>
        refine ⟨fun _ _ => False, fun _ _ z => z.elim, fun x H3 hx => ?_⟩
        obtain ⟨F3, g3, r3⟩ := yl x H3 hx
        exact ht.run F0 H0 σ F3 H3 x (S.grow g3) r3 _ fun σ' S' _ _ => hb.run F0 H0 σ' F3 H3 S' ⟨fun _ _ => False, E.rt, E.nx, fun _ _ => False⟩ q
      | rt ht hb =>
        refine ⟨fun _ _ => False, fun _ _ z => z.elim, fun x H3 hx => ?_⟩
        obtain ⟨F3, g3, r3⟩ := yl x H3 hx
        exact ht.run F0 H0 σ F3 H3 x (S.grow g3) r3 _ fun σ' S' _ _ => hb.run F0 H0 σ' F3 H3 S' ⟨fun _ _ => False, E.rt, E.nx, fun _ _ => False⟩ q
    · rw [List.drop_eq_nil_of_le (by omega)] at h
      cases h
      exact .inl ⟨y2 (by omega), q σ F H S⟩)⟩
end DL

set_option Elab.async false
set_option linter.all false
set_option maxRecDepth 100000
set_option maxHeartbeats 4000000
namespace DL
open PySem L2
variable {c : Cc} {η : Nm} {ρ ρ1 ρ2 : List Sl} {a b e o : Expr} {es : List Expr} {pos p apos : Pos} {d d1 d2 : D} {ds : List D} {out : Out}

/-! ### list comprehensions -/
def Nm.blk (η : Nm) (scope : Scope) : Nm := ⟨η.N, relS scope η.sc, fun x => scope.names.lookup x == some .cell⟩
theorem Cin.blk {X : Cx} (hX : Cin c η X) {scope : Scope} (s : Shared) (H : Hp) (C : Addr) (cl : List (Str × Addr)) (fp : List Addr) : Cin c (η.blk scope) (X.blk s H scope (compEnvC scope cl C X.env) fp) :=
  ⟨hX.prog, hX.w, hX.K, hX.mg, hX.base, hX.N, by show relS scope X.env.scope = relS scope η.sc; rw [hX.sc], hX.room, hX.calm, fun x h => h, PassesOwn.never⟩
/-- what a comprehension makes of its items -/
inductive CompD (c : Cc) (η : Nm) (tg elt : Expr) (ifs : List Expr) (vs : List Nat) (ρ : List Sl) : List D → List D → Prop
  | nil : CompD c η tg elt ifs vs ρ [] []
  | keep {d d' : D} {ds out : List D} {is : List Nat} {ρ1 : List Sl} : TD c η tg d is ρ ρ1 → (∀ i ∈ is, i ∈ vs) → (∀ t, ifs = [t] → ET c η t ρ1 true) → ED c η elt ρ1 d' → CompD c η tg elt ifs vs ρ ds out → CompD c η tg elt ifs vs ρ (d :: ds) (d' :: out)
  | skip {d : D} {ds out : List D} {is : List Nat} {ρ1 : List Sl} {t : Expr} : TD c η tg d is ρ ρ1 → (∀ i ∈ is, i ∈ vs) → ifs = [t] → ET c η t ρ1 false → CompD c η tg elt ifs vs ρ ds out → CompD c η tg elt ifs vs ρ (d :: ds) out
theorem CompD.len {tg elt : Expr} {ifs : List Expr} {vs : List Nat} {ds out : List D} (h : CompD c η tg elt ifs vs ρ ds out) : out.length ≤ ds.length := by
  induction h with
  | nil => exact Nat.le_refl _
  | keep _ _ _ _ _ ih => simpa using ih
  | skip _ _ _ _ _ ih => exact Nat.le_succ_of_le ih
def wipeR (ρ : List Sl) : List Nat → List Sl
  | [] => ρ
  | v :: vs => (wipeR ρ vs).set v .no
theorem Stt.wipe {K : PySem.W.Frag} {F0 H0 F H : Hp} {σ : St} (S : Stt K F0 H0 ρ σ F H) : ∀ vs : List Nat, Stt K F0 H0 (wipeR ρ vs) (wipe σ vs) F H
  | [] => S
  | v :: vs => by
    have S' := (Stt.wipe S vs).forget v
    refine ⟨S'.g, by rw [L2.wipe, List.length_set]; exact S'.len, fun i s e => ?_, fun i j d1 d2 a e1 e2 e3 e4 => ?_⟩
    · by_cases h : v = i
      · subst h
        have q : ((wipeR ρ vs).set v .no)[v]? = some s := e
        by_cases hv : v < (wipeR ρ vs).length
        · rw [List.getElem?_set_self hv] at q; cases q; exact trivial
        · rw [List.getElem?_eq_none (by rw [List.length_set]; omega)] at q; cases q
      · rw [L2.wipe, List.getElem?_set_ne h]
        exact S'.sl i s e
    · have ne : ∀ (i : Nat) (d : D), (wipeR ρ (v :: vs))[i]? = some (.ow d) → v ≠ i := fun i d e z => by
        subst z
        have q : ((wipeR ρ vs).set v .no)[v]? = some (.ow d) := e
        by_cases hv : v < (wipeR ρ vs).length
        · rw [List.getElem?_set_self hv] at q; cases q
        · rw [List.getElem?_eq_none (by rw [List.length_set]; omega)] at q; cases q
      rw [L2.wipe, List.getElem?_set_ne (ne i d1 e1)] at e3
      rw [L2.wipe, List.getElem?_set_ne (ne j d2 e2)] at e4
      exact S'.ne i j d1 d2 a e1 e2 e3 e4
theorem wipe_get (σ : St) : ∀ (vs : List Nat) (j : Nat), (wipe σ vs)[j]? = if j ∈ vs then (if j < σ.length then some none else none) else σ[j]?
  | [], j => by simp [wipe]
  | v :: vs, j => by
    rw [wipe]
    by_cases h : v = j
    · subst h
      rw [if_pos (by simp)]
      by_cases hv : v < σ.length
      · rw [if_pos hv, List.getElem?_set_self (by rw [wipe_length]; exact hv)]
      · rw [if_neg hv, List.getElem?_eq_none (by rw [List.length_set, wipe_length]; omega)]
    · rw [List.getElem?_set_ne h, wipe_get σ vs j]
      by_cases hj : j ∈ vs
      · rw [if_pos hj, if_pos (List.mem_cons_of_mem _ hj)]
      · rw [if_neg hj, if_neg (by simp only [List.mem_cons, not_or]; exact ⟨fun z => h z.symm, hj⟩)]
theorem wipe_eq {σ σ' : St} {vs is : List Nat} (hl : σ'.length = (wipe σ vs).length) (h : ∀ j, j ∉ is → σ'[j]? = (wipe σ vs)[j]?) (hi : ∀ i ∈ is, i ∈ vs) : wipe σ' vs = wipe σ vs := by
  rw [wipe_length] at hl
  refine List.ext_getElem? fun j => ?_
  rw [wipe_get, wipe_get, hl]
  by_cases hj : j ∈ vs
  · rw [if_pos hj, if_pos hj]
  · rw [if_neg hj, if_neg hj, h j fun z => hj (hi j z), wipe_get, if_neg hj]
theorem Stt.beside {K : PySem.W.Frag} {F0 H0 F H : Hp} {σ : St} {A : Addr} {u : HO} (S : Stt K F0 H0 ρ σ F H) (n : F A = none) (n0 : H0 A = none) (ne : ∀ (i : Nat) (d : D) (b : Addr), ρ[i]? = some (.ow d) → σ[i]? = some (some (.ref b)) → b ≠ A) : Stt K F0 H0 ρ σ F (upd H A u) := by
  refine ⟨⟨S.g.f, fun b x z => ?_, same_mut S.fh n, S.g.sep⟩, S.len, fun i s e => ?_, S.ne⟩
  · rw [upd_ne (ne_of_none z n0)]
    exact S.g.h b x z
  · have q := S.sl i s e
    cases s with
    | no => exact trivial
    | va d => exact q
    | ow d =>
      obtain ⟨b, h1, h2, h3, h4⟩ := q
      exact ⟨b, h1, h2, h3, by rw [upd_ne (ne i d b e h1)]; exact h4⟩
/-- the reading of a comprehension -/
def tComp (c : Cc) (η η' : Nm) (tg it elt : Expr) (ifs : List Expr) (vs : List Nat) : TE := tLc (WI c η tg it) (WG c η' tg) (match ifs with | [t] => WT c η' t | _ => tYes) (WE c η' elt) vs
theorem comp_of {η' : Nm} {tg it elt : Expr} {ifs : List Expr} {vs : List Nat} {items res : List D} (hi : ID c η tg it ρ items) (h : CompD c η' tg elt ifs vs (wipeR ρ vs) items res) (hf : ifs.length ≤ 1) (hl : items.length ≤ 100000)
    {F0 H0 F H : Hp} {σ : St} (S : Stt c.K F0 H0 ρ σ F H) {Q : VK} (q : ∀ a F' H', Grow F H F' H' → F' a = none → H a = none → Obj c.K F' (H' a) (.lst res) → Q (.ref a) H') : tComp c η η' tg it elt ifs vs σ H Q := by
  refine hi.run F0 H0 σ F H S _ fun J F1 H1 g1 y A hA => ?_
  have S1 := (S.grow g1).wipe vs
  have out_ne : ∀ (i : Nat) (d : D) (b : Addr), (wipeR ρ vs)[i]? = some (.ow d) → (wipe σ vs)[i]? = some (some (.ref b)) → b ≠ A := fun i d b e1 e2 => by
    obtain ⟨⟨u, hu⟩, _⟩ := S1.own_there e1 e2
    exact ne_of_none hu hA
  -- W: what is made so far at A, what is left of the items makes the rest
  refine ⟨fun i m H2 => m = items.length - i ∧ ∃ F2 done rest xs, Stt c.K F0 H0 (wipeR ρ vs) (wipe σ vs) F2 H2 ∧ Same F1 F2 ∧ (∀ a o, H a = some o → F a = none → F2 a = none) ∧ Same H H2 ∧ F2 A = none ∧ H2 A = some (.lst xs) ∧ RepL c.K F2 xs done ∧ done.length ≤ i ∧ res = done ++ rest ∧ CompD c η' tg elt ifs vs (wipeR ρ vs) (items.drop i) rest, ?_, ?_⟩
  · refine ⟨_, rfl, F1, [], res, [], S1.beside (g1.fh.free hA) (S1.g.h.free hA) out_ne, Same.refl F1, g1.sep, g1.h.trans (same_upd hA), g1.fh.free hA, upd_same, .nil, Nat.zero_le _, rfl, by rw [List.drop_zero]; exact h⟩
  · rintro i m H2 ⟨rfl, F2, done, rest, xs, S2, s2, sep2, h2, n2, e2, r2, dl, er, h⟩
    obtain ⟨y1, y2⟩ := y i F2 H2 s2 S2.fh
    by_cases hi : i < items.length
    · obtain ⟨e1, e3⟩ : items[i]? = some items[i] ∧ items.drop i = items[i] :: items.drop (i + 1) := ⟨List.getElem?_eq_getElem hi, List.drop_eq_getElem_cons hi⟩
      obtain ⟨go, yl⟩ := y1 _ e1
      rw [e3] at h
      refine .inr ⟨go, fun H' => ∃ m', m' < items.length - i ∧ (m' = items.length - (i + 1) ∧ ∃ F2 done rest xs, Stt c.K F0 H0 (wipeR ρ vs) (wipe σ vs) F2 H' ∧ Same F1 F2 ∧ (∀ a o, H a = some o → F a = none → F2 a = none) ∧ Same H H' ∧ F2 A = none ∧ H' A = some (.lst xs) ∧ RepL c.K F2 xs done ∧ done.length ≤ i + 1 ∧ res = done ++ rest ∧ CompD c η' tg elt ifs vs (wipeR ρ vs) (items.drop (i + 1)) rest), fun H' z => z, fun x H3 hx => ?_⟩
      obtain ⟨F3, g3, r3⟩ := yl x H3 hx
      have hA0 : H A = none := g1.h.free hA
      have keepA : ∀ {Fa Ha : Hp}, Grow F2 H2 Fa Ha → Fa A = none ∧ Ha A = some (.lst xs) := fun g => ⟨g.sep A _ e2 n2, g.h A _ e2⟩
      cases h with
      | @keep _ d' _ rest' is ρ1 ht hsub hif hel hr =>
        refine ht.run F0 H0 _ F3 H3 x (S2.grow g3) r3 _ fun σ' S' hlen hsame => ⟨wipe_eq hlen hsame hsub, ?_⟩
        have goon : ∀ F4 H4, Grow F3 H3 F4 H4 → (if true = true then WE c η' elt σ' H4 fun y H4 => ∃ acc, H4 A = some (.lst acc) ∧ acc.length < sizeLine ∧ (fun H' => ∃ m', m' < items.length - i ∧ (m' = items.length - (i + 1) ∧ ∃ F2 done rest xs, Stt c.K F0 H0 (wipeR ρ vs) (wipe σ vs) F2 H' ∧ Same F1 F2 ∧ (∀ a o, H a = some o → F a = none → F2 a = none) ∧ Same H H' ∧ F2 A = none ∧ H' A = some (.lst xs) ∧ RepL c.K F2 xs done ∧ done.length ≤ i + 1 ∧ res = done ++ rest ∧ CompD c η' tg elt ifs vs (wipeR ρ vs) (items.drop (i + 1)) rest)) (upd H4 A (.lst (acc ++ [y]))) else False) := fun F4 H4 g4 => by
          rw [if_pos rfl]
          refine hel.run F0 H0 σ' F4 H4 (S'.grow g4) _ fun v F5 H5 g5 r5 => ?_
          have g25 := (g3.trans g4).trans g5
          obtain ⟨n5, e5⟩ := keepA g25
          have S5 := S2.grow g25
          refine ⟨xs, e5, ?_, _, by omega, rfl, F5, done ++ [d'], rest', xs ++ [v], S5.beside n5 (S.g.h.free hA0) out_ne, s2.trans g25.f, fun a o z1 z2 => g25.sep a o (h2 a o z1) (sep2 a o z1 z2), fun a o z => by rw [upd_ne (ne_of_none z hA0)]; exact (h2.trans g25.h) a o z, n5, upd_same, (r2.mono g25.f).append (.cons r5 .nil), by rw [List.length_append, List.length_cons, List.length_nil]; omega, by rw [er, List.append_assoc]; rfl, hr⟩
          rw [r2.length]
          exact Nat.lt_of_lt_of_le (show done.length < 100000 by omega) (by decide)
        cases ifs with
        | nil => exact goon F3 H3 (.refl g3.fh)
        | cons t tl =>
          cases tl with
          | nil => exact (hif t rfl).run F0 H0 σ' F3 H3 S' _ fun F4 H4 g4 => goon F4 H4 g4
          | cons _ _ => simp at hf
      | @skip _ _ _ is ρ1 t ht hsub hif hte hr =>
        refine ht.run F0 H0 _ F3 H3 x (S2.grow g3) r3 _ fun σ' S' hlen hsame => ⟨wipe_eq hlen hsame hsub, ?_⟩
        subst hif
        refine hte.run F0 H0 σ' F3 H3 S' _ fun F4 H4 g4 => ?_
        rw [if_neg Bool.false_ne_true]
        have g24 := g3.trans g4
        obtain ⟨n4, e4⟩ := keepA g24
        exact ⟨_, by omega, rfl, F4, done, rest, xs, S2.grow g24, s2.trans g24.f, fun a o z1 z2 => g24.sep a o (h2 a o z1) (sep2 a o z1 z2), h2.trans g24.h, n4, e4, r2.mono g24.f, by omega, er, hr⟩
    · rw [List.drop_eq_nil_of_le (by omega)] at h
      cases h
      rw [List.append_nil] at er
      subst er
      refine .inl ⟨y2 (by omega), q A F2 H2 ⟨g1.f.trans s2, h2, S2.fh, sep2⟩ n2 (g1.h.free hA) (.inl ⟨xs, _, e2, rfl, r2⟩)⟩
theorem pe_comp {elt tg it : Expr} {ifs : List Expr} {scope : Scope} {own : List (Str × Nat)} {X : Cx} (hX : Cin c η X) (hN : η.N.Nodup) (hf : ifs.length ≤ 1) (ok : blkC η.N η.sc scope own = true) (hfs : isSetD it = false) : PE X (.ListComp elt [⟨tg, it, ifs, 0⟩] scope pos) (tComp c η (η.blk scope) tg it elt ifs (own.map (·.2))) := by
  refine pe_lc hX.calm (by rw [hX.N]; exact hN) (WI.pi hX) (by rw [hX.N, hX.sc]; exact blkOk_by ok) (fun s H C cl fp => WG.pg (hX.blk s H C cl fp)) (fun s H C cl fp => ?_) (fun s H C cl fp => WE.pe (hX.blk s H C cl fp)) (fold_no hfs X.env)
  match ifs, hf with
  | [], _ => exact pts_nil
  | [t], _ => exact pts_one (WT.pt (hX.blk s H C cl fp))
theorem eo_comp {elt tg it : Expr} {ifs : List Expr} {scope : Scope} (own : List (Str × Nat)) {items res : List D} (hN : η.N.Nodup) (hi : ID c η tg it ρ items) (h : CompD c (η.blk scope) tg elt ifs (own.map (·.2)) (wipeR ρ (own.map (·.2))) items res) (hl : items.length ≤ 100000) (hf : ifs.length ≤ 1 := by decide)
    (ok : blkC η.N η.sc scope own = true := by decide +kernel) (hfs : isSetD it = false := by rfl) : EO c η (.ListComp elt [⟨tg, it, ifs, 0⟩] scope pos) ρ (.lst res) := ⟨fun F0 H0 σ F H S Q q =>
  WE.of (fun X hX => pe_comp hX hN hf ok hfs) (comp_of hi h hf hl S q)⟩
theorem ps_comp {i : Nat} {y : Str} {py : Pos} {elt tg it : Expr} {ifs : List Expr} {scope : Scope} {own : List (Str × Nat)} {X : Cx} (hX : Cin c η X) (hN : η.N.Nodup) (hf : ifs.length ≤ 1) (ok : blkC η.N η.sc scope own = true) (hfs : isSetD it = false) (hy : η.N[i]? = some y) (hyl : η.sc.names.lookup y = some .local)
    (hsw : swapsWith (.ListComp elt [⟨tg, it, ifs, 0⟩] scope p) (some (.Name y py)) pos.line X.env = pure true) : PS X (.Assign [.Name y py] (.ListComp elt [⟨tg, it, ifs, 0⟩] scope p) pos) (tAsg (tComp c η (η.blk scope) tg it elt ifs (own.map (·.2))) (gName i)) := by
  refine ps_setLc hX.calm (by rw [hX.N]; exact hN) (by rw [hX.N]; exact hy) (by rw [hX.sc]; exact hyl) hsw (WI.pi hX) (by rw [hX.N, hX.sc]; exact blkOk_by ok) (fun s H C cl fp => WG.pg (hX.blk s H C cl fp)) (fun s H C cl fp => ?_) (fun s H C cl fp => WE.pe (hX.blk s H C cl fp)) (fold_no hfs X.env)
  match ifs, hf with
  | [], _ => exact pts_nil
  | [t], _ => exact pts_one (WT.pt (hX.blk s H C cl fp))
theorem asg_of {te : TE} {g : TG} {E : Ends} {σ : St} {H : Hp} (h : te σ H fun x H1 => g x σ H1 E.nx) : tAsg te g E σ H := h
/-- name = [..] -/
theorem s1_setLc (i : Nat) {y : Str} {py : Pos} {elt tg it : Expr} {ifs : List Expr} {scope : Scope} (own : List (Str × Nat)) {items res : List D} (hN : η.N.Nodup) (hi : ID c η tg it ρ items) (h : CompD c (η.blk scope) tg elt ifs (own.map (·.2)) (wipeR ρ (own.map (·.2))) items res) (hl : items.length ≤ 100000) (hf : ifs.length ≤ 1 := by decide)
    (hy : η.N[i]? = some y := by rfl) (hyl : η.sc.names.lookup y = some .local := by decide +kernel) (hρ : i < ρ.length := by first | decide | (simp [rho]; done)) (ok : blkC η.N η.sc scope own = true := by decide +kernel) (hfs : isSetD it = false := by rfl)
    (hsw : ∀ X, Cin c η X → swapsWith (.ListComp elt [⟨tg, it, ifs, 0⟩] scope p) (some (.Name y py)) pos.line X.env = pure true) : S1 c η (.Assign [.Name y py] (.ListComp elt [⟨tg, it, ifs, 0⟩] scope p) pos) ρ (.nx (ρ.set i (.ow (.lst res)))) := ⟨fun F0 H0 σ F H S E q =>
  WS.of (t := tAsg (tComp c η (η.blk scope) tg it elt ifs (own.map (·.2))) (gName i)) (fun X hX => ps_comp hX hN hf ok hfs hy hyl (hsw X hX))
    (asg_of (comp_of (Q := fun x H1 => gName i x σ H1 E.nx) hi h hf hl S fun a F' H' g n n0 ob => q _ F' H' (S.set_ow g hρ n n0 ob)))⟩

/-! ### one's own lists and dicts, changed -/
theorem own_at {K : PySem.W.Frag} {F0 H0 F H : Hp} {σ : St} {i : Nat} (S : Stt K F0 H0 ρ σ F H) (hρ : ρ[i]? = some (.ow (.lst ds))) : ∃ A vs, σ[i]? = some (some (.ref A)) ∧ H A = some (.lst vs) ∧ RepL K F vs ds ∧ F A = none := by
  obtain ⟨A, h, n, n0, ob⟩ := S.sl i _ hρ
  rcases ob with ⟨vs, ds', e, e2, r⟩ | ⟨kvs, ks, e, e2, r⟩
  · cases e2
    exact ⟨A, vs, h, e, r, n⟩
  · cases e2
theorem own_at' {K : PySem.W.Frag} {F0 H0 F H : Hp} {σ : St} {i : Nat} {ks : List (Str × D)} (S : Stt K F0 H0 ρ σ F H) (hρ : ρ[i]? = some (.ow (.dic ks))) : ∃ A kvs, σ[i]? = some (some (.ref A)) ∧ H A = some (.dK kvs) ∧ RepK K F kvs ks ∧ F A = none := by
  obtain ⟨A, h, n, n0, ob⟩ := S.sl i _ hρ
  rcases ob with ⟨vs, ds', e, e2, r⟩ | ⟨kvs, ks, e, e2, r⟩
  · cases e2
  · cases e2
    exact ⟨A, kvs, h, e, r, n⟩
theorem pe_vi {X : Cx} {i : Nat} {x : Str} (hX : Cin c η X) (hN : η.N[i]? = some x) (hv : visB η.sc x = true) (hd : (x == ("__debug__" : Str)) = false) (hcd : (x == ("__classdict__" : Str)) = false) : PE X (.Name x p) (tVar i) := pe_var (by rw [hX.N]; exact hN) (by rw [hX.sc]; exact vis_of hv) hd hcd
/-- x.append(e) -/
theorem s1_app (i : Nat) {x : Str} {p2 : Pos} (hρ : ρ[i]? = some (.ow (.lst ds))) (he : ED c η e ρ d) (hz : ds.length < 100000)
    (hr : ∀ X to t, PE X (.Name x p) to → PA X [e] t → PE X (.Call (.Attribute (.Name x p) "append" apos) [e] [] pos) (tBM X.K "list" rAppend to t))
    (hN : η.N[i]? = some x := by rfl) (hv : visB η.sc x = true := by decide +kernel) (hd : (x == ("__debug__" : Str)) = false := by decide) (hcd : (x == ("__classdict__" : Str)) = false := by decide) (hst : isStar e = false := by rfl) :
    S1 c η (.Expr (.Call (.Attribute (.Name x p) "append" apos) [e] [] pos) p2) ρ (.nx (ρ.set i (.ow (.lst (ds ++ [d]))))) := ⟨fun F0 H0 σ F H S E q =>
  WS.of (t := tDrop (tBM c.K "list" rAppend (tVar i) (WA c η [e]))) (fun X hX => by rw [← hX.K]; exact ps_expr (hr X _ _ (pe_vi hX hN hv hd hcd) (WA.pa hX)) (swap_no rfl _ _ X.env)) (by
    obtain ⟨A, vs, h, hA, r, n⟩ := own_at S hρ
    refine ⟨_, h, .inl ⟨rfl, vs, SqL.of hA⟩, ?_⟩
    refine (ea_cons he ea_nil hst).run F0 H0 σ F H S _ fun ws F1 H1 g1 rw1 => ?_
    obtain ⟨v, rfl, r1⟩ := rw1.one
    refine ⟨A, vs, v, rfl, rfl, g1.h _ _ hA, by rw [r.length]; exact Nat.lt_of_lt_of_le hz (by decide), q σ F1 _ ((S.grow g1).mut hρ h (.inl ⟨_, _, rfl, rfl, (r.mono g1.f).append (.cons r1 .nil)⟩))⟩)⟩
/-- x.extend(e), e a new list -/
theorem s1_ext (i : Nat) {x : Str} {p2 : Pos} {zs : List D} (hρ : ρ[i]? = some (.ow (.lst ds))) (he : ED c η e ρ (.lst zs)) (hz : ds.length + zs.length ≤ 100000)
    (hr : ∀ X to t, PE X (.Name x p) to → PA X [e] t → PE X (.Call (.Attribute (.Name x p) "extend" apos) [e] [] pos) (tBM X.K "list" rExtend to t))
    (hN : η.N[i]? = some x := by rfl) (hv : visB η.sc x = true := by decide +kernel) (hd : (x == ("__debug__" : Str)) = false := by decide) (hcd : (x == ("__classdict__" : Str)) = false := by decide) (hst : isStar e = false := by rfl) :
    S1 c η (.Expr (.Call (.Attribute (.Name x p) "extend" apos) [e] [] pos) p2) ρ (.nx (ρ.set i (.ow (.lst (ds ++ zs))))) := ⟨fun F0 H0 σ F H S E q =>
  WS.of (t := tDrop (tBM c.K "list" rExtend (tVar i) (WA c η [e]))) (fun X hX => by rw [← hX.K]; exact ps_expr (hr X _ _ (pe_vi hX hN hv hd hcd) (WA.pa hX)) (swap_no rfl _ _ X.env)) (by
    obtain ⟨A, vs, h, hA, r, n⟩ := own_at S hρ
    refine ⟨_, h, .inl ⟨rfl, vs, SqL.of hA⟩, ?_⟩
    refine (ea_cons he ea_nil hst).run F0 H0 σ F H S _ fun ws F1 H1 g1 rw1 => ?_
    obtain ⟨v, rfl, r1⟩ := rw1.one
    cases r1 with
    | @lst b us _ hb r1 =>
      refine ⟨A, b, vs, us, rfl, rfl, g1.h _ _ hA, g1.fh _ _ hb, by rw [r.length, r1.length]; exact len_line hz, q σ F1 _ ((S.grow g1).mut hρ h (.inl ⟨_, _, rfl, rfl, (r.mono g1.f).append r1⟩))⟩)⟩
/-- x.reverse() -/
theorem s1_rev (i : Nat) {x : Str} {p2 : Pos} (hρ : ρ[i]? = some (.ow (.lst ds)))
    (hr : ∀ X to, PE X (.Name x p) to → PE X (.Call (.Attribute (.Name x p) "reverse" apos) [] [] pos) (tBM0 X.K "list" rReverse to))
    (hN : η.N[i]? = some x := by rfl) (hv : visB η.sc x = true := by decide +kernel) (hd : (x == ("__debug__" : Str)) = false := by decide) (hcd : (x == ("__classdict__" : Str)) = false := by decide) :
    S1 c η (.Expr (.Call (.Attribute (.Name x p) "reverse" apos) [] [] pos) p2) ρ (.nx (ρ.set i (.ow (.lst ds.reverse)))) := ⟨fun F0 H0 σ F H S E q =>
  WS.of (t := tDrop (tBM0 c.K "list" rReverse (tVar i))) (fun X hX => by rw [← hX.K]; exact ps_expr (hr X _ (pe_vi hX hN hv hd hcd)) (swap_no rfl _ _ X.env)) (by
    obtain ⟨A, vs, h, hA, r, n⟩ := own_at S hρ
    exact ⟨_, h, .inl ⟨rfl, vs, SqL.of hA⟩, A, vs, rfl, rfl, hA, q σ F _ (S.mut hρ h (.inl ⟨_, _, rfl, rfl, r.reverse⟩))⟩)⟩
/-- x[k] = e -/
theorem s1_setix (i : Nat) {x : Str} {p2 : Pos} {k : Expr} {j : Int} (hρ : ρ[i]? = some (.ow (.lst ds))) (he : ED c η e ρ d) (hk : ED c η k ρ (.int j)) (hj : 0 ≤ j ∧ j < (ds.length : Int))
    (hr : ∀ X to ti te, PE X (.Name x p) to → PE X k ti → PE X e te → PS X (.Assign [.Subscript (.Name x p) k p2] e pos) (tAsg te (gSub to ti rSetL)))
    (hN : η.N[i]? = some x := by rfl) (hv : visB η.sc x = true := by decide +kernel) (hd : (x == ("__debug__" : Str)) = false := by decide) (hcd : (x == ("__classdict__" : Str)) = false := by decide) :
    S1 c η (.Assign [.Subscript (.Name x p) k p2] e pos) ρ (.nx (ρ.set i (.ow (.lst (ds.set j.toNat d))))) := ⟨fun F0 H0 σ F H S E q =>
  WS.of (t := tAsg (WE c η e) (gSub (tVar i) (WE c η k) rSetL)) (fun X hX => hr X _ _ _ (pe_vi hX hN hv hd hcd) (WE.pe hX) (WE.pe hX)) (by
    obtain ⟨A, vs, h, hA, r, n⟩ := own_at S hρ
    refine he.run F0 H0 σ F H S _ fun v F1 H1 g1 r1 => ⟨_, h, hk.run F0 H0 σ F1 H1 (S.grow g1) _ fun w F2 H2 g2 r2 => ?_⟩
    cases r2
    have g := g1.trans g2
    refine ⟨A, vs, _, j.toNat, rfl, rfl, g.h _ _ hA, ?_, q σ F2 _ ((S.grow g).mut hρ h (.inl ⟨_, _, rfl, rfl, RepL.set (r1.mono g2.f) j.toNat (r.mono g.f)⟩))⟩
    unfold ixN
    rw [if_pos hj.1, if_pos (by rw [r.length]; exact hj.2)])⟩
/-- x[k] = e, x a dict of one's own, k a text -/
theorem s1_dput (i : Nat) {x y : Str} {p2 : Pos} {k : Expr} {ks : List (Str × D)} (hρ : ρ[i]? = some (.ow (.dic ks))) (he : ED c η e ρ d) (hk : ED c η k ρ (.str y)) (hz : ks.length < 100000)
    (hN : η.N[i]? = some x := by rfl) (hv : visB η.sc x = true := by decide +kernel) (hd : (x == ("__debug__" : Str)) = false := by decide) (hcd : (x == ("__classdict__" : Str)) = false := by decide) (hs : isCmp e = false := by rfl) :
    S1 c η (.Assign [.Subscript (.Name x p) k p2] e pos) ρ (.nx (ρ.set i (.ow (.dic (putD ks y d))))) := ⟨fun F0 H0 σ F H S E q =>
  WS.of (fun X hX => ps_dput (hu_in hX) (pe_vi hX hN hv hd hcd) (WE.pe hX) (WE.pe hX) (swap_no hs _ _ X.env)) (by
    obtain ⟨A, kvs, h, hA, r, n⟩ := own_at' S hρ
    refine he.run F0 H0 σ F H S _ fun v F1 H1 g1 r1 => ⟨_, h, hk.run F0 H0 σ F1 H1 (S.grow g1) _ fun w F2 H2 g2 r2 => ?_⟩
    cases r2
    have g := g1.trans g2
    exact ⟨A, _, rfl, DPut.k (k := Sum.inr y) (g.h _ _ hA) (by rw [r.length]; exact Nat.lt_of_lt_of_le hz (by decide)), q σ F2 _ ((S.grow g).mut hρ h (.inr ⟨_, _, rfl, rfl, (r.mono g.f).put (r1.mono g2.f)⟩))⟩)⟩

/-! ### a def by its body -/
def BodyD (c : Cc) (η : Nm) (st : Stmt) (ρ : List Sl) (d : D) : Prop := SD c η [defBody st] ρ (.rt d) ∨ (d = .non ∧ ∃ ρ', SD c η [defBody st] ρ (.nx ρ'))
theorem stt_start {K : PySem.W.Frag} {F H : Hp} {vs : List V} {N : List Str} (s : Same F H) (r : RepL K F vs ds) : Stt K F H (rho N ds) (L2.start N vs) F H := by
  refine ⟨.refl s, by unfold rho L2.start; rw [List.length_append, List.length_append, List.length_map, List.length_map, List.length_replicate, List.length_replicate, r.length], fun i sl e => ?_, fun i j d e a h1 h2 _ _ => ?_⟩
  · unfold rho at e
    unfold L2.start
    by_cases hi : i < ds.length
    · rw [List.getElem?_append_left (by rw [List.length_map]; exact hi), List.getElem?_map] at e
      rw [List.getElem?_append_left (by rw [List.length_map, r.length]; exact hi), List.getElem?_map]
      obtain ⟨d, hd⟩ : ∃ d, ds[i]? = some d := ⟨_, List.getElem?_eq_getElem hi⟩
      rw [hd] at e
      cases e
      obtain ⟨v, hv, rv⟩ := r.get hd
      rw [hv]
      exact ⟨v, rfl, rv⟩
    · rw [List.getElem?_append_right (by rw [List.length_map]; omega)] at e
      have := List.mem_of_getElem? e
      rw [List.mem_replicate] at this
      rw [this.2]
      exact trivial
  · exfalso
    have := List.mem_of_getElem? h1
    unfold rho at this
    rw [List.mem_append, List.mem_map, List.mem_replicate] at this
    rcases this with ⟨_, _, z⟩ | ⟨_, z⟩ <;> cases z
section
variable {P : Program} {w : World} {K : PySem.W.Frag} {mg : Str → Option Value} {base : Heap} {x : Str} {st : Stmt} {f : Addr} {fd : FuncData} {N ps : List Str} {k : Nat} {R : List D → D → Prop}
theorem fn_P (F : L2.Fun K x x st f fd) (S : FnScope N ps (defScope st)) (hl : ∀ ds d, R ds d → ds.length = ps.length) (hb : ∀ ds d, R ds d → BodyD ⟨P, w, K, mg, base, k⟩ ⟨N, defScope st, fun _ => true⟩ st (rho N ds) d) : FnOk P w K mg base CX0 (k + 1) f fd ps (spP K R) := by
  refine F.ok S (fun vs H Q E h => ?_) fun cdv A outer s H vs Q E hr h => ?_
  · obtain ⟨F, ds, d, s, r, hR, _⟩ := h
    rw [r.length]
    exact hl ds d hR
  · obtain ⟨F1, ds, d, s1, r, hR, q⟩ := h
    let X : Cx := (cxOf CX0 P w K mg base N x (defScope st) f cdv A outer s H E).nox
    have hX : Cin ⟨P, w, K, mg, base, k⟩ ⟨N, defScope st, fun _ => true⟩ X := ⟨rfl, rfl, rfl, rfl, rfl, rfl, rfl, hr, rfl, fun _ _ => rfl, PassesOwn.never⟩
    refine ⟨_, WB.pb hX, ?_⟩
    rcases hb ds d hR with h | ⟨e, ρ', h⟩
    · exact h.run F1 H _ F1 H (stt_start s1 r) ⟨fun _ H' => Q .non H', Q, fun _ _ => False, fun _ _ => False⟩ fun v F' H' g r' => q v F' H' g r'
    · subst e
      exact h.run F1 H _ F1 H (stt_start s1 r) ⟨fun _ H' => Q .non H', Q, fun _ _ => False, fun _ _ => False⟩ fun σ' F' H' S' => q .non F' H' S'.g .non
theorem fn_O (F : L2.Fun K x x st f fd) (S : FnScope N ps (defScope st)) (hl : ∀ ds d, R ds d → ds.length = ps.length) (hb : ∀ ds d, R ds d → SD ⟨P, w, K, mg, base, k⟩ ⟨N, defScope st, fun _ => true⟩ [defBody st] (rho N ds) (.ro d)) : FnOk P w K mg base CX0 (k + 1) f fd ps (spO K R) := by
  refine F.ok S (fun vs H Q E h => ?_) fun cdv A outer s H vs Q E hr h => ?_
  · obtain ⟨F, ds, d, s, r, hR, _⟩ := h
    rw [r.length]
    exact hl ds d hR
  · obtain ⟨F1, ds, d, s1, r, hR, q⟩ := h
    let X : Cx := (cxOf CX0 P w K mg base N x (defScope st) f cdv A outer s H E).nox
    have hX : Cin ⟨P, w, K, mg, base, k⟩ ⟨N, defScope st, fun _ => true⟩ X := ⟨rfl, rfl, rfl, rfl, rfl, rfl, rfl, hr, rfl, fun _ _ => rfl, PassesOwn.never⟩
    refine ⟨_, WB.pb hX, ?_⟩
    exact (hb ds d hR).run F1 H _ F1 H (stt_start s1 r) ⟨fun _ H' => Q .non H', Q, fun _ _ => False, fun _ _ => False⟩ fun a F' H' g n n0 ob => q a F' H' g n n0 ob
end
end DL

set_option Elab.async false
set_option linter.all false
set_option maxRecDepth 100000
set_option maxHeartbeats 4000000
namespace DL
open PySem L2
variable {c : Cc} {η : Nm} {ρ ρ1 ρ2 : List Sl} {a b e o : Expr} {es : List Expr} {pos p apos : Pos} {d d1 d2 : D} {ds : List D} {out : Out}

/-! ### lists of one kind -/
class AllI (ds : List D) (ns : outParam (List Int)) : Prop where eq : ds = ns.map .int
class AllS (ds : List D) (xs : outParam (List Str)) : Prop where eq : ds = xs.map .str
class AllB (ds : List D) (xs : outParam (List Bool)) : Prop where eq : ds = xs.map .bl
class AllL (ds : List D) (xs : outParam (List (List D))) : Prop where eq : ds = xs.map .lst
class AllT (ds : List D) (xs : outParam (List (List D))) : Prop where eq : ds = xs.map .tup
instance : AllI [] [] := ⟨rfl⟩
instance {i : Int} {ds : List D} {ns : List Int} [h : AllI ds ns] : AllI (.int i :: ds) (i :: ns) := ⟨by rw [h.eq]; rfl⟩
instance {ns : List Int} : AllI (ns.map .int) ns := ⟨rfl⟩
instance : AllS [] [] := ⟨rfl⟩
instance {i : Str} {ds : List D} {ns : List Str} [h : AllS ds ns] : AllS (.str i :: ds) (i :: ns) := ⟨by rw [h.eq]; rfl⟩
instance {ns : List Str} : AllS (ns.map .str) ns := ⟨rfl⟩
instance : AllB [] [] := ⟨rfl⟩
instance {i : Bool} {ds : List D} {ns : List Bool} [h : AllB ds ns] : AllB (.bl i :: ds) (i :: ns) := ⟨by rw [h.eq]; rfl⟩
instance {ns : List Bool} : AllB (ns.map .bl) ns := ⟨rfl⟩
instance : AllL [] [] := ⟨rfl⟩
instance {i : List D} {ds : List D} {ns : List (List D)} [h : AllL ds ns] : AllL (.lst i :: ds) (i :: ns) := ⟨by rw [h.eq]; rfl⟩
instance {ns : List (List D)} : AllL (ns.map .lst) ns := ⟨rfl⟩
instance : AllT [] [] := ⟨rfl⟩
instance {i : List D} {ds : List D} {ns : List (List D)} [h : AllT ds ns] : AllT (.tup i :: ds) (i :: ns) := ⟨by rw [h.eq]; rfl⟩
instance {ns : List (List D)} : AllT (ns.map .tup) ns := ⟨rfl⟩
theorem atI_map {α : Type} (f : α → D) (xs : List α) (k : Int) (z : α) (h : 0 ≤ k ∧ k < (xs.length : Int)) : L2.atI (xs.map f) k = some (f (xs.getD k.toNat z)) := by
  obtain ⟨j, rfl⟩ := Int.eq_ofNat_of_zero_le h.1
  have hj : j < xs.length := by omega
  rw [Int.toNat_natCast]
  refine atI_nat ?_
  rw [List.getElem?_map, List.getElem?_eq_getElem hj, List.getD_eq_getElem?_getD, List.getElem?_eq_getElem hj]
  rfl
theorem atI_get' {α : Type} (xs : List α) (k : Int) (z : α) (h : 0 ≤ k ∧ k < (xs.length : Int)) : L2.atI xs k = some (xs.getD k.toNat z) := by
  obtain ⟨j, rfl⟩ := Int.eq_ofNat_of_zero_le h.1
  have hj : j < xs.length := by omega
  rw [Int.toNat_natCast]
  refine atI_nat ?_
  rw [List.getD_eq_getElem?_getD, List.getElem?_eq_getElem hj]
  rfl
section
variable {k : Int} (hs : isSlc b = false := by rfl)
theorem ed_ixi {ns : List Int} [q : AllI ds ns] (ha : ED c η a ρ (.lst ds)) (hb : ED c η b ρ (.int k)) (h : 0 ≤ k ∧ k < (ns.length : Int)) (hs : isSlc b = false := by rfl) : ED c η (.Subscript a b pos) ρ (.int (ns.getD k.toNat 0)) := ed_ixL (by rw [q.eq]; exact atI_map _ _ _ _ h) ha hb hs
theorem ed_ixs {ns : List Str} [q : AllS ds ns] (ha : ED c η a ρ (.lst ds)) (hb : ED c η b ρ (.int k)) (h : 0 ≤ k ∧ k < (ns.length : Int)) (hs : isSlc b = false := by rfl) : ED c η (.Subscript a b pos) ρ (.str (ns.getD k.toNat default)) := ed_ixL (by rw [q.eq]; exact atI_map _ _ _ _ h) ha hb hs
theorem ed_ixb {ns : List Bool} [q : AllB ds ns] (ha : ED c η a ρ (.lst ds)) (hb : ED c η b ρ (.int k)) (h : 0 ≤ k ∧ k < (ns.length : Int)) (hs : isSlc b = false := by rfl) : ED c η (.Subscript a b pos) ρ (.bl (ns.getD k.toNat false)) := ed_ixL (by rw [q.eq]; exact atI_map _ _ _ _ h) ha hb hs
theorem ed_ixl {ns : List (List D)} [q : AllL ds ns] (ha : ED c η a ρ (.lst ds)) (hb : ED c η b ρ (.int k)) (h : 0 ≤ k ∧ k < (ns.length : Int)) (hs : isSlc b = false := by rfl) : ED c η (.Subscript a b pos) ρ (.lst (ns.getD k.toNat [])) := ed_ixL (by rw [q.eq]; exact atI_map _ _ _ _ h) ha hb hs
theorem ed_ixt {ns : List (List D)} [q : AllT ds ns] (ha : ED c η a ρ (.lst ds)) (hb : ED c η b ρ (.int k)) (h : 0 ≤ k ∧ k < (ns.length : Int)) (hs : isSlc b = false := by rfl) : ED c η (.Subscript a b pos) ρ (.tup (ns.getD k.toNat [])) := ed_ixL (by rw [q.eq]; exact atI_map _ _ _ _ h) ha hb hs
theorem ed_ixd (ha : ED c η a ρ (.lst ds)) (hb : ED c η b ρ (.int k)) (h : 0 ≤ k ∧ k < (ds.length : Int)) (hs : isSlc b = false := by rfl) : ED c η (.Subscript a b pos) ρ (ds.getD k.toNat .non) := ed_ixL (atI_get' _ _ _ h) ha hb hs
theorem ed_ixc {ns : List Int} (ha : ED c η a ρ (.scr ns)) (hb : ED c η b ρ (.int k)) (h : 0 ≤ k ∧ k < (ns.length : Int)) (hs : isSlc b = false := by rfl) : ED c η (.Subscript a b pos) ρ (.int (ns.getD k.toNat 0)) := ed_ixC (atI_get' _ _ _ h) ha hb hs
theorem ed_ixz {z : Str} (hz : z.length ≤ 100000) (ha : ED c η a ρ (.str z)) (hb : ED c η b ρ (.int k)) (h : 0 ≤ k ∧ k < (z.cps.toList.length : Int)) (hs : isSlc b = false := by rfl) : ED c η (.Subscript a b pos) ρ (.str ⟨#[z.cps.toList.getD k.toNat 0]⟩) := ed_ixS hz (atI_get' _ _ _ h) ha hb hs
end

/-! ### loops and comprehensions by places -/
/-- less is known -/
def leR : List Sl → List Sl → Prop
  | [], [] => True
  | .no :: r, _ :: r' => leR r r'
  | s :: r, s' :: r' => s = s' ∧ leR r r'
  | _, _ => False
theorem leR.refl : ∀ ρ : List Sl, leR ρ ρ
  | [] => trivial
  | .no :: r => leR.refl r
  | .va _ :: r => ⟨rfl, leR.refl r⟩
  | .ow _ :: r => ⟨rfl, leR.refl r⟩
theorem leR.get : ∀ {ρ ρ' : List Sl} {i : Nat} {s : Sl}, leR ρ ρ' → ρ[i]? = some s → s = .no ∨ ρ'[i]? = some s
  | [], [], _, _, _, e => by simp at e
  | .no :: r, _ :: r', 0, s, _, e => .inl (by simpa using e.symm)
  | .va _ :: r, _ :: r', 0, s, h, e => by obtain ⟨rfl, _⟩ := h; exact .inr e
  | .ow _ :: r, _ :: r', 0, s, h, e => by obtain ⟨rfl, _⟩ := h; exact .inr e
  | .no :: r, _ :: r', i + 1, s, h, e => leR.get (ρ := r) (ρ' := r') (i := i) h (by simpa using e)
  | .va _ :: r, _ :: r', i + 1, s, h, e => leR.get (ρ := r) (ρ' := r') (i := i) h.2 (by simpa using e)
  | .ow _ :: r, _ :: r', i + 1, s, h, e => leR.get (ρ := r) (ρ' := r') (i := i) h.2 (by simpa using e)
theorem leR.len : ∀ {ρ ρ' : List Sl}, leR ρ ρ' → ρ.length = ρ'.length
  | [], [], _ => rfl
  | .no :: r, _ :: r', h => congrArg (· + 1) (leR.len (ρ := r) (ρ' := r') h)
  | .va _ :: r, _ :: r', h => congrArg (· + 1) (leR.len (ρ := r) (ρ' := r') h.2)
  | .ow _ :: r, _ :: r', h => congrArg (· + 1) (leR.len (ρ := r) (ρ' := r') h.2)
theorem Stt.weak {K : PySem.W.Frag} {F0 H0 F H : Hp} {σ : St} (S : Stt K F0 H0 ρ1 σ F H) (h : leR ρ ρ1) : Stt K F0 H0 ρ σ F H := by
  refine ⟨S.g, S.len.trans h.len.symm, fun i s e => ?_, fun i j d1 d2 a e1 e2 e3 e4 => ?_⟩
  · rcases h.get e with rfl | e'
    · exact trivial
    · exact S.sl i s e'
  · rcases h.get e1 with z | e1'
    · cases z
    · rcases h.get e2 with z | e2'
      · cases z
      · exact S.ne i j d1 d2 a e1' e2' e3 e4
theorem sd_weak {bs : List (List Stmt)} (h : SD c η bs ρ (.nx ρ1)) (l : leR ρ2 ρ1) : SD c η bs ρ (.nx ρ2) := ⟨fun F0 H0 σ F H S E q => h.run F0 H0 σ F H S E fun σ' F' H' S' => q σ' F' H' (S'.weak l)⟩
theorem sd_endw (l : leR ρ1 ρ) : SD c η [] ρ (.nx ρ1) := sd_weak sd_end l
theorem sd_pre {bs : List (List Stmt)} (h : SD c η bs ρ1 out) (l : leR ρ1 ρ) : SD c η bs ρ out := ⟨fun F0 H0 σ F H S E q => h.run F0 H0 σ F H (S.weak l) E q⟩
theorem s1_weak {st : Stmt} (h : S1 c η st ρ (.nx ρ1)) (l : leR ρ2 ρ1) : S1 c η st ρ (.nx ρ2) := ⟨fun F0 H0 σ F H S E q => h.run F0 H0 σ F H S E fun σ' F' H' S' => q σ' F' H' (S'.weak l)⟩
/-- every turn goes on: ρs i is what is known ahead of turn i -/
theorem for_nx {tg : Expr} {body : List Stmt} (ρs : Nat → List Sl) : ∀ (ds : List D) (k : Nat), (∀ i d, ds[i]? = some d → ∃ is ρ1, TD c η tg d is (ρs (k + i)) ρ1 ∧ SD c η [body] ρ1 (.nx (ρs (k + i + 1)))) → ForD c η tg body ds (ρs k) (.nx (ρs (k + ds.length)))
  | [], k, _ => .nil
  | d :: ds, k, h => by
    obtain ⟨is, ρ1, h1, h2⟩ := h 0 d rfl
    have ih := for_nx ρs ds (k + 1) fun i d' hd => by
      obtain ⟨is, ρ1, h1, h2⟩ := h (i + 1) d' (by simpa using hd)
      rw [show k + (i + 1) = k + 1 + i by omega] at h1 h2
      exact ⟨is, ρ1, h1, h2⟩
    rw [List.length_cons, show k + (ds.length + 1) = k + 1 + ds.length by omega]
    exact .nx h1 h2 ih
theorem s1_forN (j n : Nat) {x : Str} {it : Expr} {body : List Stmt} (ρs : Nat → List Sl) (hi : ID c η (.Name x p) it ρ ds) (hlen' : ds.length = n) (hN : η.N.Nodup) (h0 : leR (ρs 0) ρ) (hlen : ∀ i, j < (ρs i).length) (h : ∀ i d, ds[i]? = some d → SD c η [body] ((ρs i).set j (.va d)) (.nx (ρs (i + 1))))
    (hj : η.N[j]? = some x := by rfl) (hx : stoB η x = true := by decide +kernel) (hf : isSetD it = false := by rfl) : S1 c η (.For (.Name x p) it body [] pos) ρ (.nx (ρs n)) := by
  subst hlen'
  -- the first turn from all that is known: known less
  have first : ∀ ds : List D, (∀ i d, ds[i]? = some d → SD c η [body] ((ρs i).set j (.va d)) (.nx (ρs (i + 1)))) → ForD c η (.Name x p) body ds ρ (.nx (ρs ds.length)) ∨ ds = [] := fun ds h => by
    cases ds with
    | nil => exact .inr rfl
    | cons d r =>
      left
      have hr := for_nx (c := c) (η := η) (tg := .Name x p) (body := body) ρs r 1 fun i d' hd => by
        have := h (i + 1) d' (by simpa using hd)
        rw [show i + 1 = 1 + i by omega] at this
        exact ⟨[j], _, td_name j hN hj hx (hlen _), this⟩
      rw [List.length_cons, show r.length + 1 = 1 + r.length by omega]
      have l0 : leR ((ρs 0).set j (.va d)) (ρ.set j (.va d)) := leR_set h0 j _
      exact .nx (td_name j hN hj hx (by rw [← h0.len]; exact hlen 0)) (sd_pre (h 0 d rfl) l0) hr
  rcases first ds h with h' | rfl
  · exact s1_for hi h' hf
  · exact s1_weak (s1_for hi .nil hf) h0
where
  leR_set {ρ ρ' : List Sl} (h : leR ρ ρ') (j : Nat) (s : Sl) : leR (ρ.set j s) (ρ'.set j s) := by
    induction ρ generalizing ρ' j with
    | nil =>
      cases ρ' with
      | nil => exact h
      | cons => exact h.elim
    | cons z r ih =>
      cases ρ' with
      | nil => cases z <;> exact (by simpa [leR] using h)
      | cons z' r' =>
        cases j with
        | zero => cases z <;> cases s <;> simp_all [leR]
        | succ j =>
          cases z with
          | no => exact ih (ρ' := r') h j
          | va d => exact ⟨h.1, ih (ρ' := r') h.2 j⟩
          | ow d => exact ⟨h.1, ih (ρ' := r') h.2 j⟩
/-- every item makes one -/
theorem comp_map {elt : Expr} {x : Str} (j : Nat) (f : D → D) (hN : η.N.Nodup) (hl : j < ρ.length) : ∀ (ds : List D), (∀ d ∈ ds, ED c η elt (ρ.set j (.va d)) (f d)) → (hi : η.N[j]? = some x := by rfl) → (hx : stoB η x = true := by decide +kernel) → CompD c η (.Name x pos) elt [] [j] ρ ds (ds.map f)
  | [], _, _, _ => .nil
  | d :: ds, h, hi, hx => .keep (td_name j hN hi hx hl) (fun i hi => hi) (fun t e => nomatch e) (h d List.mem_cons_self) (comp_map j f hN hl ds (fun d hd => h d (List.mem_cons_of_mem _ hd)) hi hx)
theorem comp_range {elt : Expr} {x : Str} (j : Nat) (f : Nat → D) {lo : Int} {n : Nat} (hN : η.N.Nodup) (hl : j < ρ.length := by first | decide | (simp [rho, wipeR]; done)) (h : ∀ k, k < n → ED c η elt (ρ.set j (.va (.int (lo + (k : Nat))))) (f k)) (hi : η.N[j]? = some x := by rfl) (hx : stoB η x = true := by decide +kernel) : CompD c η (.Name x pos) elt [] [j] ρ (rangeD lo n) ((List.range n).map f) := by
  have go : ∀ ks : List Nat, (∀ k ∈ ks, k < n) → CompD c η (.Name x pos) elt [] [j] ρ (ks.map fun i => D.int (lo + (i : Nat))) (ks.map f) := fun ks => by
    induction ks with
    | nil => intro _; exact .nil
    | cons k r ih => intro hk; exact .keep (td_name j hN hi hx hl) (fun i hi => hi) (fun t e => nomatch e) (h k (hk k List.mem_cons_self)) (ih fun k hk' => hk k (List.mem_cons_of_mem _ hk'))
  exact go _ fun k hk => List.mem_range.mp hk
theorem comp_strs {elt : Expr} {x : Str} {xs : List Str} (j : Nat) (f : Str → D) (hN : η.N.Nodup) (hl : j < ρ.length := by first | decide | (simp [rho, wipeR]; done)) (h : ∀ z ∈ xs, ED c η elt (ρ.set j (.va (.str z))) (f z)) (hi : η.N[j]? = some x := by rfl) (hx : stoB η x = true := by decide +kernel) : CompD c η (.Name x pos) elt [] [j] ρ (xs.map .str) (xs.map f) := by
  induction xs with
  | nil => exact .nil
  | cons z r ih => exact .keep (td_name j hN hi hx hl) (fun i hi => hi) (fun t e => nomatch e) (h z List.mem_cons_self) (ih fun k hk' => h k (List.mem_cons_of_mem _ hk'))
theorem comp_signs {elt : Expr} {x : Str} {z : Str} (j : Nat) (f : Nat → D) (hN : η.N.Nodup) (hl : j < ρ.length := by first | decide | (simp [rho, wipeR]; done)) (h : ∀ n ∈ z.cps.toList, ED c η elt (ρ.set j (.va (.str ⟨#[n]⟩))) (f n)) (hi : η.N[j]? = some x := by rfl) (hx : stoB η x = true := by decide +kernel) : CompD c η (.Name x pos) elt [] [j] ρ (signs z) (z.cps.toList.map f) := by
  unfold signs
  generalize z.cps.toList = l at h
  induction l with
  | nil => exact .nil
  | cons k r ih => exact .keep (td_name j hN hi hx hl) (fun i hi => hi) (fun t e => nomatch e) (h k List.mem_cons_self) (ih fun k hk' => h k (List.mem_cons_of_mem _ hk'))
end DL

set_option Elab.async false
set_option linter.all false
set_option maxRecDepth 100000
set_option maxHeartbeats 4000000
namespace DL
open PySem L2
variable {c : Cc} {η : Nm} {ρ ρ1 ρ2 : List Sl} {a b e o : Expr} {es : List Expr} {pos p apos : Pos} {d d1 d2 : D} {ds : List D} {out : Out}

theorem SD.isO {bs : List (List Stmt)} {d d' : D} (h : SD c η bs ρ (.ro d)) (e : d = d') : SD c η bs ρ (.ro d') := by rw [← e]; exact h
section
variable {elt : Expr} {x : Str} (j : Nat) (hN : η.N.Nodup)
theorem comp_rangeI (f : Nat → Int) {lo : Int} {n : Nat} (hN : η.N.Nodup) (hl : j < ρ.length := by first | decide | (simp [rho, wipeR]; done)) (h : ∀ k, k < n → ED c η elt (ρ.set j (.va (.int (lo + (k : Nat))))) (.int (f k))) (hi : η.N[j]? = some x := by rfl) (hx : stoB η x = true := by decide +kernel) : CompD c η (.Name x pos) elt [] [j] ρ (rangeD lo n) (((List.range n).map f).map .int) := by rw [List.map_map]; exact comp_range j (fun k => .int (f k)) hN hl h hi hx
theorem comp_rangeB (f : Nat → Bool) {lo : Int} {n : Nat} (hN : η.N.Nodup) (hl : j < ρ.length := by first | decide | (simp [rho, wipeR]; done)) (h : ∀ k, k < n → ED c η elt (ρ.set j (.va (.int (lo + (k : Nat))))) (.bl (f k))) (hi : η.N[j]? = some x := by rfl) (hx : stoB η x = true := by decide +kernel) : CompD c η (.Name x pos) elt [] [j] ρ (rangeD lo n) (((List.range n).map f).map .bl) := by rw [List.map_map]; exact comp_range j (fun k => .bl (f k)) hN hl h hi hx
theorem comp_rangeS (f : Nat → Str) {lo : Int} {n : Nat} (hN : η.N.Nodup) (hl : j < ρ.length := by first | decide | (simp [rho, wipeR]; done)) (h : ∀ k, k < n → ED c η elt (ρ.set j (.va (.int (lo + (k : Nat))))) (.str (f k))) (hi : η.N[j]? = some x := by rfl) (hx : stoB η x = true := by decide +kernel) : CompD c η (.Name x pos) elt [] [j] ρ (rangeD lo n) (((List.range n).map f).map .str) := by rw [List.map_map]; exact comp_range j (fun k => .str (f k)) hN hl h hi hx
theorem comp_signsB {z : Str} (f : Nat → Bool) (hN : η.N.Nodup) (hl : j < ρ.length := by first | decide | (simp [rho, wipeR]; done)) (h : ∀ n ∈ z.cps.toList, ED c η elt (ρ.set j (.va (.str ⟨#[n]⟩))) (.bl (f n))) (hi : η.N[j]? = some x := by rfl) (hx : stoB η x = true := by decide +kernel) : CompD c η (.Name x pos) elt [] [j] ρ (signs z) ((z.cps.toList.map f).map .bl) := by rw [List.map_map]; exact comp_signs j (fun k => .bl (f k)) hN hl h hi hx
theorem comp_strsB {xs : List Str} (f : Str → Bool) (hN : η.N.Nodup) (hl : j < ρ.length := by first | decide | (simp [rho, wipeR]; done)) (h : ∀ z ∈ xs, ED c η elt (ρ.set j (.va (.str z))) (.bl (f z))) (hi : η.N[j]? = some x := by rfl) (hx : stoB η x = true := by decide +kernel) : CompD c η (.Name x pos) elt [] [j] ρ (xs.map .str) ((xs.map f).map .bl) := by rw [List.map_map]; exact comp_strs j (fun k => .bl (f k)) hN hl h hi hx
end
/-- dict(d) of a dict -/
theorem eo_dictD {ks : List (Str × D)} (hm : c.mg "dict" = none) (ha : EA c η [e] ρ [.dic ks]) (hg : glB η.sc "dict" = true := by decide +kernel)
    (he : isStar e = false := by rfl) : EO c η (.Call (.Name "dict" p) [e] [] pos) ρ (.dic ks) :=
  eo_ty (fun X hX => call_dictD) (fun F H vs s r Q q => by
    obtain ⟨v, rfl, r1⟩ := r.one
    cases r1 with
    | dic hf r2 => exact ⟨_, _, rfl, .inl (s _ _ hf), fun l hl => q l F _ (.apart s hl) (s.free hl) hl (obj_dic r2)⟩) ha hm (by decide +kernel) hg (by decide) (by decide) he rfl
/-! ### equal data, dicts and all: == says True -/
mutual
def D.depth : D → Nat
  | .tup xs => D.depths xs + 1
  | .lst xs => D.depths xs + 1
  | .dic ks => D.depthk ks + 1
  | .scr _ => 1
  | _ => 0
def D.depths : List D → Nat
  | [] => 0
  | d :: r => max d.depth (D.depths r)
def D.depthk : List (Str × D) → Nat
  | [] => 0
  | (_, d) :: r => max d.depth (D.depthk r)
end
open PySem.W in
theorem all_true (n : Nat) : ((List.range n).all fun _ => true) = true := List.all_eq_true.mpr fun _ _ => rfl
section
variable {X : Cx} {pins : List (Addr × PySem.Obj)} {σ : L2.St} {H : Hp} {s : Shared}
/-- like items -/
def Alike (X : Cx) (s : Shared) (n : Nat) (us ws : List Value) : Prop := us.length = ws.length ∧ ∀ j (h1 : j < us.length) (h2 : j < ws.length), PySem.W.EqTree X.prog X.w s n us[j] ws[j] true
theorem Alike.cons {n : Nat} {u w : Value} {us ws : List Value} (h : PySem.W.EqTree X.prog X.w s n u w true) (t : Alike X s n us ws) : Alike X s n (u :: us) (w :: ws) :=
  ⟨congrArg (· + 1) t.1, fun j h1 h2 => by
    cases j with
    | zero => exact h
    | succ j => exact t.2 j (Nat.lt_of_succ_lt_succ h1) (Nat.lt_of_succ_lt_succ h2)⟩
theorem tree_lists {n : Nat} {a b : Addr} {us ws : List Value} (ha : s.heap.IsList a us.toArray) (hb : s.heap.IsList b ws.toArray) (t : Alike X s n us ws) : PySem.W.EqTree X.prog X.w s (n + 1) (.ref a) (.ref b) true := by
  by_cases e : a = b
  · subst e; exact .same
  · have q := PySem.W.EqTree.lists (prog := X.prog) (w := X.w) (s := s) (n := n) (e := fun _ => true) e ha hb (by simp [t.1]) fun j h1 h2 => by
      have := t.2 j (by simpa using h1) (by simpa using h2)
      simpa using this
    rwa [all_true] at q
theorem tree_tuples {n : Nat} {a b : Addr} {us ws : List Value} (ha : s.heap.IsTuple a us.toArray) (hb : s.heap.IsTuple b ws.toArray) (t : Alike X s n us ws) : PySem.W.EqTree X.prog X.w s (n + 1) (.ref a) (.ref b) true := by
  by_cases e : a = b
  · subst e; exact .same
  · have q := PySem.W.EqTree.tuples (prog := X.prog) (w := X.w) (s := s) (n := n) (e := fun _ => true) e ha hb fun j h1 h2 => by
      have := t.2 j (by simpa using h1) (by simpa using h2)
      simpa using this
    rw [all_true] at q
    have e2 : (true && us.toArray.size == ws.toArray.size) = true := by simp [t.1]
    rwa [e2] at q
theorem leaf_same {n : Nat} {v : V} {u w : Value} (r1 : RelV v u) (r2 : RelV v w) (f : flatV v = true) : PySem.W.EqTree X.prog X.w s n u w true := .leaf fun A _ => by
  have := eqAt_V (A := A) (s := s) r1 r2 f f
  have e : eqV v v = true := by cases v <;> first | rfl | exact absurd f (by decide) | (simp [eqV]; done) | (simp [flatV] at f)
  rwa [e] at this
/-- like values under like keys -/
def AlikeK (X : Cx) (s : Shared) (n : Nat) (us ws : List (Key × Value)) : Prop := us.length = ws.length ∧ ∀ j (h1 : j < us.length) (h2 : j < ws.length), us[j].1 = ws[j].1 ∧ PySem.W.EqTree X.prog X.w s n us[j].2 ws[j].2 true
theorem AlikeK.val {n : Nat} {us ws : List (Key × Value)} (t : AlikeK X s n us ws) (nd : (us.map (·.1)).Nodup) {k : Key} {v y : Value} (hm : (k, v) ∈ us) (hv : valueAt ws k = some y) : PySem.W.EqTree X.prog X.w s n v y true := by
  induction us generalizing ws with
  | nil => cases hm
  | cons p us ih =>
    cases ws with
    | nil => exact absurd t.1 (by simp)
    | cons q ws =>
      have h0 := t.2 0 (by simp) (by simp)
      have tt : AlikeK X s n us ws := ⟨by simpa using t.1, fun j h1 h2 => by
        have := t.2 (j + 1) (by simp; omega) (by simp; omega)
        simpa using this⟩
      rw [List.map_cons, List.nodup_cons] at nd
      have e0 : p.1 = q.1 := by simpa using h0.1
      have ee : PySem.W.EqTree X.prog X.w s n p.2 q.2 true := by simpa using h0.2
      by_cases e : q.1 = k
      · have hv' : valueAt (q :: ws) k = some q.2 := by simp [valueAt, List.find?_cons, e]
        rw [hv'] at hv
        cases hv
        rcases List.mem_cons.mp hm with z | z
        · rw [← z] at ee; exact ee
        · exfalso
          apply nd.1
          rw [e0, e]
          exact List.mem_map_of_mem (f := (·.1)) z
      · have hv' : valueAt (q :: ws) k = valueAt ws k := by simp [valueAt, List.find?_cons, e]
        rw [hv'] at hv
        rcases List.mem_cons.mp hm with z | z
        · exfalso
          apply e
          rw [← e0, ← z]
        · exact ih tt nd.2 z hv
theorem AlikeK.here {n : Nat} {us ws : List (Key × Value)} (t : AlikeK X s n us ws) : us.all (fun p => (valueAt ws p.1).isSome && true) = true := by
  rw [List.all_eq_true]
  intro p hp
  obtain ⟨j, hj, rfl⟩ := List.getElem_of_mem hp
  have h2 : j < ws.length := by rw [← t.1]; exact hj
  have := (t.2 j hj h2).1
  rw [Bool.and_true, this]
  have : ws[j] ∈ ws := List.getElem_mem h2
  unfold valueAt
  cases e : ws.find? fun kv => decide (kv.1 = ws[j].1) with
  | some y => rfl
  | none =>
    have := List.find?_eq_none.mp e ws[j] this
    simp at this
mutual
theorem eq_tree (I : Inv X pins σ H s) : ∀ (d : D) (n : Nat) (v1 v2 : V) (u1 u2 : Value), d.depth ≤ n → Rep X.K H v1 d → Rep X.K H v2 d → RelV v1 u1 → RelV v2 u2 → PySem.W.EqTree X.prog X.w s n u1 u2 true
  | .non, n, _, _, _, _, _, r1, r2, q1, q2 => by cases r1; cases r2; exact leaf_same q1 q2 rfl
  | .bl _, n, _, _, _, _, _, r1, r2, q1, q2 => by cases r1; cases r2; exact leaf_same q1 q2 rfl
  | .int _, n, _, _, _, _, _, r1, r2, q1, q2 => by cases r1; cases r2; exact leaf_same q1 q2 rfl
  | .str _, n, _, _, _, _, _, r1, r2, q1, q2 => by cases r1; cases r2; exact leaf_same q1 q2 rfl
  | .ty _, n, _, _, _, _, _, r1, r2, q1, q2 => by cases r1; cases r2; cases q1; cases q2; exact .same
  | .scr ns, n, _, _, _, _, hn, r1, r2, q1, q2 => by
    cases r1 with
    | scr h1 =>
      cases r2 with
      | scr h2 =>
        cases q1; cases q2
        obtain ⟨its1, rv1, p1, _⟩ := I.list h1
        obtain ⟨its2, rv2, p2, _⟩ := I.list h2
        match n, hn with
        | n + 1, _ =>
          refine tree_lists p1.isList p2.isList ⟨by rw [← rv1.length, ← rv2.length], fun j j1 j2 => ?_⟩
          have hj : j < (ns.map V.int).length := by rw [rv1.length]; exact j1
          obtain ⟨x1, e1, g1⟩ := rv1.get (List.getElem?_eq_getElem hj)
          obtain ⟨x2, e2, g2⟩ := rv2.get (List.getElem?_eq_getElem hj)
          rw [List.getElem?_eq_getElem j1] at e1
          rw [List.getElem?_eq_getElem j2] at e2
          cases e1
          cases e2
          exact leaf_same g1 g2 (by simp [flatV])
        | 0, hn => simp [D.depth] at hn
  | .tup xs, n, _, _, _, _, hn, r1, r2, q1, q2 => by
    cases r1 with
    | tup h1 l1 =>
      cases r2 with
      | tup h2 l2 =>
        cases q1; cases q2
        obtain ⟨its1, rv1, p1, _⟩ := I.tuple h1
        obtain ⟨its2, rv2, p2, _⟩ := I.tuple h2
        rw [D.depth] at hn
        match n, hn with
        | n + 1, hn => exact tree_tuples (show s.heap.IsTuple _ its1.toArray from p1) (show s.heap.IsTuple _ its2.toArray from p2) (eq_trees I xs n _ _ its1 its2 (by omega) l1 l2 rv1 rv2)
        | 0, hn => omega
  | .lst xs, n, _, _, _, _, hn, r1, r2, q1, q2 => by
    cases r1 with
    | lst h1 l1 =>
      cases r2 with
      | lst h2 l2 =>
        cases q1; cases q2
        obtain ⟨its1, rv1, p1, _⟩ := I.list (SqL.of h1)
        obtain ⟨its2, rv2, p2, _⟩ := I.list (SqL.of h2)
        rw [D.depth] at hn
        match n, hn with
        | n + 1, hn => exact tree_lists p1.isList p2.isList (eq_trees I xs n _ _ its1 its2 (by omega) l1 l2 rv1 rv2)
        | 0, hn => omega
  | .dic ks, n, _, _, _, _, hn, r1, r2, q1, q2 => by
    cases r1 with
    | @dic a _ _ h1 l1 =>
      cases r2 with
      | @dic b _ _ h2 l2 =>
        cases q1; cases q2
        obtain ⟨_, y1, vs1, g1, d1⟩ := dk_of I.hok h1
        obtain ⟨_, y2, vs2, g2, d2⟩ := dk_of I.hok h2
        rw [D.depth] at hn
        match n, hn with
        | n + 1, hn =>
          by_cases e : a = b
          · subst e; exact .same
          · have t := eq_treek I ks n _ _ vs1 vs2 (by omega) l1 l2 g1 g2
            have nd : (vs1.map (·.1)).Nodup := let ⟨_, _, _, _, _, _, _, _, nd⟩ := d1; nd
            have q := PySem.W.EqTree.dicts (prog := X.prog) (w := X.w) (s := s) (n := n) (e := fun _ => true) e y1 y2 d1 d2 fun k v y hm hv => t.val nd hm hv
            have e2 : (vs1.length == vs2.length && vs1.all fun p => (valueAt vs2 p.1).isSome && true) = true := by rw [t.here]; simp [t.1]
            rwa [e2] at q
        | 0, hn => omega
theorem eq_trees (I : Inv X pins σ H s) : ∀ (xs : List D) (n : Nat) (vs1 vs2 : List V) (us1 us2 : List Value), D.depths xs ≤ n → RepL X.K H vs1 xs → RepL X.K H vs2 xs → Vals vs1 us1 → Vals vs2 us2 → Alike X s n us1 us2
  | [], n, _, _, _, _, _, .nil, .nil, .nil, .nil => ⟨rfl, fun j h1 => absurd h1 (by simp)⟩
  | d :: r, n, _, _, _, _, hn, .cons h1 t1, .cons h2 t2, .cons q1 w1, .cons q2 w2 => by
    rw [D.depths] at hn
    exact .cons (eq_tree I d n _ _ _ _ (by omega) h1 h2 q1 q2) (eq_trees I r n _ _ _ _ (by omega) t1 t2 w1 w2)
theorem eq_treek (I : Inv X pins σ H s) : ∀ (ks : List (Str × D)) (n : Nat) (vs1 vs2 : List (Key × V)) (us1 us2 : List (Key × Value)), D.depthk ks ≤ n → RepK X.K H vs1 ks → RepK X.K H vs2 ks → KV vs1 us1 → KV vs2 us2 → AlikeK X s n us1 us2
  | [], n, _, _, _, _, _, .nil, .nil, .nil, .nil => ⟨rfl, fun j h1 => absurd h1 (by simp)⟩
  | (x, d) :: r, n, _, _, _, _, hn, .cons h1 t1, .cons h2 t2, .cons q1 w1, .cons q2 w2 => by
    rw [D.depthk] at hn
    have h := eq_tree I d n _ _ _ _ (by omega) h1 h2 q1.2 q2.2
    have t := eq_treek I r n _ _ _ _ (by omega) t1 t2 w1 w2
    refine ⟨congrArg (· + 1) t.1, fun j j1 j2 => ?_⟩
    cases j with
    | zero => exact ⟨q1.1.symm.trans q2.1, h⟩
    | succ j => exact t.2 j (Nat.lt_of_succ_lt_succ j1) (Nat.lt_of_succ_lt_succ j2)
end
/-- a list, a tuple, a dict -/
def D.box : D → Bool
  | .tup _ => true | .lst _ => true | .dic _ => true
  | _ => false
def rSame (K : PySem.W.Frag) : R2 := fun x y H Q => ∃ d : D, d.box = true ∧ d.depth ≤ 60 ∧ Rep K H x d ∧ Rep K H y d ∧ Q (.bl true) H
theorem op_same (hu : X.A.units + 64 < cLine) : OpR X (compareOp .Eq) (rSame X.K) := by
  intro pins s σ H x y v u Q I rx ry h
  obtain ⟨d, hb, hd, r1, r2, q⟩ := h
  have fin : EP X pins σ Q (.bool true) s := ⟨.bl true, H, I, rfl, q⟩
  cases r1 with
  | @lst a _ xs h1 l1 =>
    cases r2 with
    | @lst b _ _ h2 l2 =>
      cases rx; cases ry
      obtain ⟨its1, rv1, p1, _⟩ := I.list (SqL.of h1)
      obtain ⟨its2, rv2, p2, _⟩ := I.list (SqL.of h2)
      rw [D.depth] at hd
      have t := eq_trees I xs 59 _ _ its1 its2 (by omega) l1 l2 rv1 rv2
      refine PySem.W.eq_listsT (n := 59) (e := fun _ => true) p1.isList p2.isList (by simp [t.1]) (fun j h1 h2 => ?_) (by omega) (by rw [all_true]; exact fin)
      have := t.2 j (by simpa using h1) (by simpa using h2)
      simpa using this
  | @tup a _ xs h1 l1 =>
    cases r2 with
    | @tup b _ _ h2 l2 =>
      cases rx; cases ry
      obtain ⟨its1, rv1, p1, _⟩ := I.tuple h1
      obtain ⟨its2, rv2, p2, _⟩ := I.tuple h2
      rw [D.depth] at hd
      have t := eq_trees I xs 59 _ _ its1 its2 (by omega) l1 l2 rv1 rv2
      refine PySem.W.eq_tuplesT (n := 59) (e := fun _ => true) (show s.heap.IsTuple _ its1.toArray from p1) (show s.heap.IsTuple _ its2.toArray from p2) (fun j h1 h2 => ?_) (by omega) ?_
      · have := t.2 j (by simpa using h1) (by simpa using h2)
        simpa using this
      · rw [all_true]
        have e2 : (true && its1.toArray.size == its2.toArray.size) = true := by simp [t.1]
        rw [e2]
        exact fin
  | @dic a _ ks h1 l1 =>
    cases r2 with
    | @dic b _ _ h2 l2 =>
      cases rx; cases ry
      obtain ⟨_, y1, vs1, g1, d1⟩ := dk_of I.hok h1
      obtain ⟨_, y2, vs2, g2, d2⟩ := dk_of I.hok h2
      rw [D.depth] at hd
      have t := eq_treek I ks 59 _ _ vs1 vs2 (by omega) l1 l2 g1 g2
      have nd : (vs1.map (·.1)).Nodup := let ⟨_, _, _, _, _, _, _, _, nd⟩ := d1; nd
      refine PySem.W.eq_dictsT (n := 59) (e := fun _ => true) y1 y2 d1 d2 (fun k v y hm hv => t.val nd hm hv) (by omega) ?_
      have e2 : (vs1.length == vs2.length && vs1.all fun p => (valueAt vs2 p.1).isSome && true) = true := by rw [t.here]; simp [t.1]
      rw [e2]
      exact fin
  | _ => exact absurd hb (by simp [D.box])
end
theorem rd_same {K : PySem.W.Frag} (hb : d.box = true) (hd : d.depth ≤ 60) : RD K (rSame K) d d (.bl true) := fun F H v1 v2 s r1 r2 Q q => ⟨d, hb, hd, r1.mono s, r2.mono s, q _ F H (.refl s) (.bl _)⟩
theorem ed_same (hd : d1 = d2) (hb : d1.box = true) (hn : d1.depth ≤ 60) (ha : ED c η a ρ d1) (hc : ED c η b ρ d2) : ED c η (.Compare a [.Eq] [b] pos) ρ (.bl true) := by
  subst hd
  exact ed_cmp (fun X hX => hX.K ▸ op_same hX.room.units) (rd_same hb hn) (nomark _) ha hc
/-! one's own object is looked at -/
theorem Stt.freezeG {K : PySem.W.Frag} {F0 H0 F H : Hp} {σ : L2.St} (S : Stt K F0 H0 ρ σ F H) {i : Nat} {d : D} (e : ρ[i]? = some (.ow d)) : ∃ F', Same F F' ∧ Stt K F0 H0 (ρ.set i (.va d)) σ F' H := S.freeze e
theorem et_borrow (i : Nat) {t : Expr} {k : Bool} (e : ρ[i]? = some (.ow d)) (h : ET c η t (ρ.set i (.va d)) k) : ET c η t ρ k := ⟨fun F0 H0 σ F H S Q q => by
  obtain ⟨F', _, S'⟩ := S.freeze e
  exact h.run F0 H0 σ F' H S' Q fun F2 H2 g2 => q F H2 (Grow.shrink (F' := F) S.fh g2.h)⟩
theorem sc_any {K : PySem.W.Frag} {F F' : Hp} {v : V} (h : d.sc.isSome = true) (r : Rep K F v d) : Rep K F' v d := by
  cases r <;> first
    | exact .non
    | exact .bl _
    | exact .int _
    | exact .str _
    | exact absurd h (by simp [D.sc])
theorem ed_borrow (i : Nat) (e : ρ[i]? = some (.ow d1)) (hs : d.sc.isSome = true) (h : ED c η a (ρ.set i (.va d1)) d) : ED c η a ρ d := ⟨fun F0 H0 σ F H S Q q => by
  obtain ⟨F', _, S'⟩ := S.freeze e
  exact h.run F0 H0 σ F' H S' Q fun v F2 H2 g2 r2 => q v F H2 (Grow.shrink (F' := F) S.fh g2.h) (sc_any hs r2)⟩
theorem flatS {ds : List D} {xs : List Str} [h : AllS ds xs] : ds.all D.flat = true := by
  rw [h.eq, List.all_map, List.all_eq_true]
  intro _ _
  rfl
theorem flatI {ds : List D} {xs : List Int} [h : AllI ds xs] : ds.all D.flat = true := by
  rw [h.eq, List.all_map, List.all_eq_true]
  intro _ _
  rfl
/-! isinstance of built-in types -/
theorem tn_NoneType : ("NoneType" : String) ≠ "type" := by decide
theorem kit_NoneType_bool : kitB "NoneType" "bool" = some false := by decide +kernel
theorem kit_NoneType_int : kitB "NoneType" "int" = some false := by decide +kernel
theorem kit_NoneType_str : kitB "NoneType" "str" = some false := by decide +kernel
theorem kit_NoneType_tuple : kitB "NoneType" "tuple" = some false := by decide +kernel
theorem kit_NoneType_list : kitB "NoneType" "list" = some false := by decide +kernel
theorem kit_NoneType_dict : kitB "NoneType" "dict" = some false := by decide +kernel
theorem tn_bool : ("bool" : String) ≠ "type" := by decide
theorem kit_bool_bool : kitB "bool" "bool" = some true := by decide +kernel
theorem kit_bool_int : kitB "bool" "int" = some true := by decide +kernel
theorem kit_bool_str : kitB "bool" "str" = some false := by decide +kernel
theorem kit_bool_tuple : kitB "bool" "tuple" = some false := by decide +kernel
theorem kit_bool_list : kitB "bool" "list" = some false := by decide +kernel
theorem kit_bool_dict : kitB "bool" "dict" = some false := by decide +kernel
theorem tn_int : ("int" : String) ≠ "type" := by decide
theorem kit_int_bool : kitB "int" "bool" = some false := by decide +kernel
theorem kit_int_int : kitB "int" "int" = some true := by decide +kernel
theorem kit_int_str : kitB "int" "str" = some false := by decide +kernel
theorem kit_int_tuple : kitB "int" "tuple" = some false := by decide +kernel
theorem kit_int_list : kitB "int" "list" = some false := by decide +kernel
theorem kit_int_dict : kitB "int" "dict" = some false := by decide +kernel
theorem tn_str : ("str" : String) ≠ "type" := by decide
theorem kit_str_bool : kitB "str" "bool" = some false := by decide +kernel
theorem kit_str_int : kitB "str" "int" = some false := by decide +kernel
theorem kit_str_str : kitB "str" "str" = some true := by decide +kernel
theorem kit_str_tuple : kitB "str" "tuple" = some false := by decide +kernel
theorem kit_str_list : kitB "str" "list" = some false := by decide +kernel
theorem kit_str_dict : kitB "str" "dict" = some false := by decide +kernel
theorem tn_tuple : ("tuple" : String) ≠ "type" := by decide
theorem kit_tuple_bool : kitB "tuple" "bool" = some false := by decide +kernel
theorem kit_tuple_int : kitB "tuple" "int" = some false := by decide +kernel
theorem kit_tuple_str : kitB "tuple" "str" = some false := by decide +kernel
theorem kit_tuple_tuple : kitB "tuple" "tuple" = some true := by decide +kernel
theorem kit_tuple_list : kitB "tuple" "list" = some false := by decide +kernel
theorem kit_tuple_dict : kitB "tuple" "dict" = some false := by decide +kernel
theorem tn_list : ("list" : String) ≠ "type" := by decide
theorem kit_list_bool : kitB "list" "bool" = some false := by decide +kernel
theorem kit_list_int : kitB "list" "int" = some false := by decide +kernel
theorem kit_list_str : kitB "list" "str" = some false := by decide +kernel
theorem kit_list_tuple : kitB "list" "tuple" = some false := by decide +kernel
theorem kit_list_list : kitB "list" "list" = some true := by decide +kernel
theorem kit_list_dict : kitB "list" "dict" = some false := by decide +kernel
theorem tn_dict : ("dict" : String) ≠ "type" := by decide
theorem kit_dict_bool : kitB "dict" "bool" = some false := by decide +kernel
theorem kit_dict_int : kitB "dict" "int" = some false := by decide +kernel
theorem kit_dict_str : kitB "dict" "str" = some false := by decide +kernel
theorem kit_dict_tuple : kitB "dict" "tuple" = some false := by decide +kernel
theorem kit_dict_list : kitB "dict" "list" = some false := by decide +kernel
theorem kit_dict_dict : kitB "dict" "dict" = some true := by decide +kernel
theorem Call.at {c : Cc} {j : Nat} {x : Str} {sp : Sp} (h : Call c j x sp) (k : Nat) : Call ⟨c.P, c.w, c.K, c.mg, c.base, k⟩ j x sp := ⟨h.ex⟩
/-! sizes of texts -/
class Sz (z : Str) (n : outParam Nat) : Prop where le : z.length ≤ n
theorem sz_one {x : Str} {n : Nat} [h : Sz x n] (hn : n ≤ 100000 := by decide +kernel) : x.length ≤ 100000 := Nat.le_trans h.le hn
theorem sz_add {x y : Str} {n m : Nat} [h : Sz x n] [h2 : Sz y m] (hn : n + m ≤ 100000 := by decide +kernel) : x.length + y.length ≤ 100000 := Nat.le_trans (Nat.add_le_add h.le h2.le) hn
instance {s : String} : Sz (Str.ofString s) (Str.ofString s).length := ⟨Nat.le_refl _⟩
instance {a : Nat} : Sz ⟨#[a]⟩ 1 := ⟨Nat.le_refl _⟩
theorem len_append (x y : Str) : (x ++ y).length = x.length + y.length := by
  show (x.cps ++ y.cps).size = x.cps.size + y.cps.size
  exact Array.size_append
instance {x y : Str} {n m : Nat} [h : Sz x n] [h2 : Sz y m] : Sz (x ++ y) (n + m) := ⟨by rw [len_append]; exact Nat.add_le_add h.le h2.le⟩
instance {x : Str} {n : Nat} {lo hi : Option Int} [h : Sz x n] : Sz (cutS x lo hi) n := ⟨Nat.le_trans (cutS_length _ _ _) h.le⟩
theorem digit_text : ∀ i : Nat, i < 10 → (Str.ofString (toString (i : Int))).length = 1 := by decide +kernel
instance {i : Int} : Sz (Str.ofString (toString (i % 10))) 1 := ⟨by
  have h1 : 0 ≤ i % 10 := Int.emod_nonneg _ (by decide)
  have h2 : i % 10 < 10 := Int.emod_lt_of_pos _ (by decide)
  obtain ⟨j, hj⟩ := Int.eq_ofNat_of_zero_le h1
  rw [hj, digit_text j (by omega)]
  exact Nat.le_refl _⟩
theorem log_small {i : Int} (h : i.natAbs < 2 ^ 64) : i.natAbs.log2 < 1920 := by
  by_cases h0 : i.natAbs = 0
  · rw [h0]; decide
  · exact Nat.lt_of_lt_of_le ((Nat.log2_lt h0).mpr h) (by decide)
end DL

set_option Elab.async false
set_option linter.all false
set_option maxRecDepth 100000
set_option maxHeartbeats 4000000
namespace DL
open PySem L2
/-! ### in: a thing of any kind among texts -/
section
open PySem.Builtin
theorem dict_eq_declines_str (l : Addr) (o : PySem.Obj) (hc : o.cls = .type "dict") (b : Str) (u : Tok) :
    Meets (Builtin.«dict.__eq__» ⟨[.ref l, .str b u], []⟩) (fun _ R s => s.heap.get? l = some o ∧ R (.ok (.ret .notImplemented)) s) :=
  .of_wp fun prog w A R s h => by
    obtain ⟨hl, h⟩ := h
    have ty : s.TypeIs (.ref l) "dict" := ⟨_, hl, hc⟩
    show wpAny _ _ (Builtin.Dict.dictSlotArgs "__eq__" ⟨[.ref l, .str b u], []⟩ >>= _) _ _ s
    refine wpAny_bind ?_
    unfold Builtin.Dict.dictSlotArgs
    refine wpAny_bind (wpAny_notOrdered_dict ty ?_)
    show wpAny _ _ (pure (Value.ref l, Value.str b u)) _ _ s
    refine wpAny_pure ?_
    show wpAny _ _ (isInstance (.str b u) (.type "dict") >>= _) _ _ s
    refine wpAny_bind (wpAny_isInstance (U := "dict") (typeIs_str s b u) F.sub_str_dict ?_)
    simp only [Bool.not_false, if_true]
    refine wpAny_bind (wpAny_rule ?_)
    exact wpAny_pure ⟨_, rfl, h⟩
theorem str_eq_declines_dict (b : Str) (u : Tok) (l : Addr) (c : Value) (dd : Option Addr) (es : Array DictEntry) (ep : Nat) (sl : Array (Option Value)) :
    Meets (Builtin.«str.__eq__» ⟨[.str b u, .ref l], []⟩) (fun _ R s => s.heap.get? l = some ⟨c, dd, .dict es ep, sl⟩ ∧ R (.ok (.ret .notImplemented)) s) :=
  .of_wp fun prog w A R s h => by obtain ⟨hp, g, d, tk, os⟩ := s; obtain ⟨hl, h⟩ := h; wp_walk using wpAny_loadPart' hl, wpAny_load hl; exact ⟨_, rfl, h⟩
end
theorem str_dict {A : Around} {s : Shared} {P : Program} {w0 : World} {l : Addr} {vs : List (Key × Value)} (b : Str) (u : Tok) (h : s.heap.DictOf (mixKind P w0) l vs) (hu : A.units < cLine) : SeqAt.EqAt A s (.str b u) (.ref l) false := fun prog w E Q hQ => by
  obtain ⟨o, es, ep, hl, hx, hd, _⟩ := h
  have hc : o.cls = .type "dict" := hx.1
  obtain ⟨oc, od, odt, osl⟩ := o
  simp only at hd
  subst hd
  unfold eqBool
  refine wpAny_holding ?_
  refine wpAny_ite_split (fun hab => absurd (eq_of_beq hab) nofun) (fun _ => ?_)
  refine wpAny_bind ?_
  exact SeqAt.rc_eq_decline_or (k := false) (typeIs_str s b u) ⟨_, hl, hc⟩ (by decide) F.sub_dict_str F.slot_str_eq F.slot_dict_eq_refl
    (fun _ hq => call_meets F.slot_str_eq (typeIs_str s b u) F.entry_str_eq (F.args_str_eq_2 _ _) (str_eq_declines_dict b u l _ _ _ _ _) ⟨hl, hq⟩)
    (fun _ hq => call_meets F.slot_dict_eq_refl ⟨_, hl, hc⟩ F.entry_dict_eq (F.args_dict_eq_2 _ _) (dict_eq_declines_str l _ hc b u) ⟨hl, hq⟩)
    (fun _ hq => wpAny_of_eq (rfl : isSame (.str b u) (.ref l) = pure false) hq) (.inr hu) (wpAny_truthy_bool hQ)
def inM (d : D) (xs : List Str) : Bool := match d with
  | .str x => decide (x ∈ xs)
  | _ => false
def rInM (K : PySem.W.Frag) : R2 := fun x y H Q => ∃ d p xs, d.tyn ≠ "type" ∧ Rep K H x d ∧ y = .ref p ∧ SqL K H p (xs.map V.str) ∧ Q (.bl (inM d xs)) H
theorem vals_strs : ∀ {xs : List Str} {us : List Value}, Vals (xs.map V.str) us → ∀ u ∈ us, ∃ z t, u = .str z t
  | [], _, .nil => fun u hu => by cases hu
  | x :: xs, u :: us, .cons r t => fun u' hu => by
    rcases List.mem_cons.mp hu with rfl | hu
    · obtain ⟨t', e⟩ := r
      exact ⟨_, _, e⟩
    · exact vals_strs t u' hu
theorem inV_strs (x : Str) : ∀ xs : List Str, L2.inV (.str x) (xs.map V.str) = decide (x ∈ xs)
  | [] => rfl
  | y :: r => by
    show ((y == x) || L2.inV (.str x) (r.map V.str)) = _
    rw [inV_strs x r, Bool.eq_iff_iff, Bool.or_eq_true, beq_iff_eq, decide_eq_true_eq, decide_eq_true_eq, List.mem_cons]
    exact or_congr_left eq_comm
theorem inV_none (x : V) (h : ∀ y : Str, eqV (.str y) x = false) (xs : List Str) : L2.inV x (xs.map V.str) = false := by
  unfold L2.inV
  rw [List.any_map, List.any_eq_false]
  intro y _
  show ¬ eqV (.str y) x = true
  rw [h y]
  decide
theorem op_inM (hu : X.A.in1.units < cLine) : OpR X (compareOp .In) (rInM X.K) := by
  intro pins s σ H x y v u Q I rx ry h
  obtain ⟨d, p, xs, ht, r, rfl, hq, q⟩ := h
  cases ry
  obtain ⟨its, rv, pl, hz⟩ := I.list hq
  have fl : (xs.map V.str).all flatV = true := by rw [List.all_map, List.all_eq_true]; exact fun _ _ => rfl
  have key : ∃ e : Value → Bool, (∀ w ∈ its, SeqAt.EqAt X.A.in1 s w v (e w)) ∧ its.any e = inM d xs := by
    have flat : flatV x = true → L2.inV x (xs.map V.str) = inM d xs → ∃ e : Value → Bool, (∀ w ∈ its, SeqAt.EqAt X.A.in1 s w v (e w)) ∧ its.any e = inM d xs := fun fx e =>
      ⟨eqU x, mem_eqAt rx fx rv fl, (any_eqU rv fl).trans e⟩
    have no : inM d xs = false → (∀ z t, SeqAt.EqAt X.A.in1 s (.str z t) v false) → ∃ e : Value → Bool, (∀ w ∈ its, SeqAt.EqAt X.A.in1 s w v (e w)) ∧ its.any e = inM d xs := fun e h =>
      ⟨fun _ => false, fun w hw => by obtain ⟨z, t, rfl⟩ := vals_strs rv w hw; exact h z t, by rw [e, List.any_eq_false]; exact fun _ _ => Bool.false_ne_true⟩
    cases r with
    | non => exact flat rfl (inV_none _ (fun _ => rfl) xs)
    | bl b => exact flat rfl (inV_none _ (fun _ => rfl) xs)
    | int i => exact flat rfl (inV_none _ (fun _ => rfl) xs)
    | str z => exact flat rfl (inV_strs z xs)
    | ty n => exact absurd rfl ht
    | lst hf _ =>
      cases rx
      obtain ⟨its', _, p1, _⟩ := I.list (SqL.of hf)
      exact no rfl fun z t => .str_list z t p1.isList hu
    | tup hf _ =>
      cases rx
      obtain ⟨its', _, p1, _⟩ := I.tuple hf
      exact no rfl fun z t => .str_tuple z t p1 hu
    | dic hf _ =>
      cases rx
      obtain ⟨_, _, vs1, _, d1⟩ := dk_of I.hok hf
      exact no rfl fun z t => str_dict z t d1 hu
    | scr hf =>
      cases rx
      obtain ⟨its', _, p1, _⟩ := I.list hf
      exact no rfl fun z t => .str_list z t p1.isList hu
  obtain ⟨e, h1, h2⟩ := key
  refine SeqAt.in_listAt e pl.isList (fun w hw => h1 w (by simpa using hw)) ⟨.bl _, H, I, rfl, ?_⟩
  rw [show its.toArray.any e = its.any e by simp, h2]
  exact q
theorem rd_inM {K : PySem.W.Frag} {xs : List Str} (ht : d1.tyn ≠ "type") : RD K (rInM K) d1 (.lst (xs.map .str)) (.bl (inM d1 xs)) := fun F H v1 v2 s r1 r2 Q q => by
  cases r2 with
  | lst hf r =>
    have e := RepL.strs_inv r
    subst e
    exact ⟨d1, _, xs, ht, r1.mono s, rfl, SqL.of (s _ _ hf), q _ F H (.refl s) (.bl _)⟩
theorem ed_inM {xs : List Str} (ht : d1.tyn ≠ "type") (hm : behindInMarks .In b = false) (ha : ED c η a ρ d1) (hb : ED c η b ρ (.lst (xs.map .str))) : ED c η (.Compare a [.In] [b] pos) ρ (.bl (inM d1 xs)) := ed_cmp (fun X hX => hX.K ▸ op_inM (by have := hX.room.units; show _ + 1 < _; omega)) (rd_inM ht) hm ha hb
end DL

set_option Elab.async false
set_option linter.all false
set_option maxRecDepth 100000
set_option maxHeartbeats 4000000
namespace DL
open PySem L2
/-! ### the law's own data in plain functions -/
theorem rangeD_inv {lo : Int} {n i : Nat} {d : D} (h : (rangeD lo n)[i]? = some d) : i < n ∧ d = .int (lo + (i : Nat)) := by
  rw [rangeD_get] at h
  split at h
  · rename_i hi
    cases h
    exact ⟨hi, rfl⟩
  · cases h
theorem rangeD_len (lo : Int) (n : Nat) : (rangeD lo n).length = n := by unfold rangeD; rw [List.length_map, List.length_range]
theorem up_succ (f : Nat → Str) (i : Nat) : ((List.range (i + 1)).map f).map D.str = ((List.range i).map f).map D.str ++ [.str (f i)] := by
  rw [List.range_succ, List.map_append, List.map_append]; rfl
theorem cutL_map {α β : Type} (f : α → β) (xs : List α) (lo hi : Option Int) : cutL (xs.map f) lo hi = (cutL xs lo hi).map f := by
  unfold cutL
  rw [List.length_map, List.map_take, List.map_drop]
theorem cutL_len {α : Type} (xs : List α) (lo hi : Option Int) : (cutL xs lo hi).length ≤ xs.length := by
  unfold cutL
  rw [List.length_take, List.length_drop]
  omega
theorem not_dec {p : Prop} [Decidable p] (h : (!decide p) = true) : ¬ p := by simpa using h
theorem not_dec' {p : Prop} [Decidable p] (h : (!decide p) = false) : p := by simpa using h
def wholeD : D → Bool
  | .int _ => true
  | _ => false
def cellAt (ns : List Int) (k : Int) : Int := if k < (ns.length : Int) then ns.getD k.toNat 0 else 0
def mixed (x k : Int) : Int := ((x + 7 * k + 3) * 48271 % 2147483647) * ((x + 7 * k + 3) * 48271 % 2147483647) % 2147483647
theorem mixed_nonneg (x k : Int) : 0 ≤ mixed x k := Int.emod_nonneg _ (by decide)
theorem mixed_lt (x k : Int) : mixed x k < 2147483647 := Int.emod_lt_of_pos _ (by decide)
/-! things, sums, questions -/
inductive Th where
  | num (i : Int) | box (x : Str)
def Th.d : Th → D
  | .num i => .int i
  | .box x => .str x
def lawThing (n : Int) (own : Str) (names : List Str) : Th :=
  if n % 2 = 0 ∧ names.getD (n / 2 % 5).toNat default ≠ own then .box (names.getD (n / 2 % 5).toNat default) else .num ([n / 2 % 4, n / 2 % 1000, n / 2 % 1000000, 999999 - n / 2 % 3].getD (n / 20 % 4).toNat 0)
inductive Ak where
  | lt | eq | ge | ne
  deriving DecidableEq, Inhabited
inductive Sg where
  | plus | minus | times | ask (a : Ak)
  deriving DecidableEq
instance : Inhabited Sg := ⟨.plus⟩
def Ak.str : Ak → Str
  | .lt => "<" | .eq => "=" | .ge => ">=" | .ne => "!="
def Sg.str : Sg → Str
  | .plus => "+" | .minus => "-" | .times => "*" | .ask a => a.str
def sgs : List Sg := [.plus, .minus, .times, .ask .lt, .ask .eq, .ask .ge, .ask .ne]
def aks : List Ak := [.lt, .eq, .ge, .ne]
theorem sg_at : ∀ j : Nat, j < 7 → (["+", "-", "*", "<", "=", ">=", "!="] : List Str).getD j default = (sgs.getD j default).str := by decide +kernel
theorem ak_at : ∀ j : Nat, j < 4 → (["<", "=", ">=", "!="] : List Str).getD j default = (aks.getD j default).str := by decide +kernel
inductive Sm where
  | one (a : Th) | op (s : Sg) (a b : Th)
def Sm.d : Sm → D
  | .one a => .tup [a.d]
  | .op s a b => .tup [.str s.str, a.d, b.d]
structure Qn where
  s : Ak
  a : Th
  b : Th
def Qn.d (q : Qn) : D := .tup [.str q.s.str, q.a.d, q.b.d]
def lawSum (n : Int) (own : Str) (names : List Str) : Sm :=
  if n % 8 = 0 then .one (lawThing (n / 8) own names) else .op (sgs.getD (n % 8 - 1).toNat default) (lawThing (n / 8) own names) (lawThing (n / 640) own names)
def lawQuestion (n : Int) (names : List Str) : Qn := ⟨aks.getD (n % 4).toNat default, lawThing (n / 4) "" names, lawThing (n / 320) "" names⟩
/-! boxes -/
abbrev Bx := List (Str × Int)
def bxD (bx : Bx) : List (Str × D) := bx.map fun p => (p.1, .int p.2)
def lookI : Bx → Str → Option Int
  | [], _ => none
  | (y, i) :: r, x => if y = x then some i else lookI r x
def hasI (bx : Bx) (x : Str) : Bool := bx.any fun p => decide (p.1 = x)
def putI (bx : Bx) (x : Str) (i : Int) : Bx := if hasI bx x then bx.map fun p => if p.1 = x then (p.1, i) else p else bx ++ [(x, i)]
theorem lookD_bx (x : Str) : ∀ bx : Bx, lookD (bxD bx) x = (lookI bx x).map .int
  | [] => rfl
  | (y, i) :: r => by
    show (if y = x then some (D.int i) else lookD (bxD r) x) = (if y = x then some i else lookI r x).map .int
    rw [lookD_bx x r]
    split <;> rfl
theorem putD_bx (bx : Bx) (x : Str) (i : Int) : putD (bxD bx) x (.int i) = bxD (putI bx x i) := by
  unfold putD putI
  have e : hasD (bxD bx) x = hasI bx x := by
    unfold hasD hasI bxD
    rw [List.any_map]
    rfl
  rw [e]
  split
  · unfold bxD
    rw [List.map_map, List.map_map]
    refine List.map_congr_left fun p _ => ?_
    show (if p.1 = x then (p.1, D.int i) else (p.1, D.int p.2)) = ((if p.1 = x then (p.1, i) else p).1, D.int (if p.1 = x then (p.1, i) else p).2)
    split <;> rfl
  · unfold bxD
    rw [List.map_append]
    rfl
theorem bx_depthk : ∀ bx : Bx, D.depthk (bxD bx) = 0
  | [] => by unfold bxD; rw [List.map_nil, D.depthk]
  | p :: r => by
    have ih := bx_depthk r
    unfold bxD at ih ⊢
    rw [List.map_cons, D.depthk, ih]
    simp [D.depth]
theorem bx_depth (bx : Bx) : (D.dic (bxD bx)).depth ≤ 60 := by
  rw [D.depth, bx_depthk]; decide
def getI (bx : Bx) (x : Str) : Int := (lookI bx x).getD 0
theorem lookI_put (bx : Bx) (x y : Str) (i : Int) : lookI (putI bx x i) y = if y = x then some i else lookI bx y := by
  have h := lookD_put (bxD bx) x y (.int i)
  rw [putD_bx, lookD_bx, lookD_bx] at h
  split at h
  · rename_i e
    rw [if_pos e]
    cases z : lookI (putI bx x i) y with
    | none => rw [z] at h; cases h
    | some j => rw [z] at h; cases h; rfl
  · rename_i e
    rw [if_neg e]
    cases z : lookI (putI bx x i) y with
    | none =>
      rw [z] at h
      cases z2 : lookI bx y with
      | none => rfl
      | some j => rw [z2] at h; cases h
    | some j =>
      rw [z] at h
      cases z2 : lookI bx y with
      | none => rw [z2] at h; cases h
      | some j2 => rw [z2] at h; cases h; rfl
theorem getI_put (bx : Bx) (x y : Str) (i : Int) : getI (putI bx x i) y = if y = x then i else getI bx y := by
  unfold getI
  rw [lookI_put]
  split <;> rfl
theorem getD_bx (bx : Bx) (x : Str) : (lookD (bxD bx) x).getD (.int 0) = .int (getI bx x) := by
  rw [lookD_bx]
  unfold getI
  cases lookI bx x <;> rfl
/-- numbers are from 0 to 999999 -/
def BxOk (bx : Bx) : Prop := ∀ p ∈ bx, 0 ≤ p.2 ∧ p.2 < 1000000
theorem BxOk.look {bx : Bx} (h : BxOk bx) {x : Str} {i : Int} (e : lookI bx x = some i) : 0 ≤ i ∧ i < 1000000 := by
  induction bx with
  | nil => cases e
  | cons p r ih =>
    obtain ⟨y, j⟩ := p
    simp only [lookI] at e
    split at e
    · cases e; exact h (y, _) List.mem_cons_self
    · exact ih (fun q hq => h q (List.mem_cons_of_mem _ hq)) e
theorem BxOk.get {bx : Bx} (h : BxOk bx) (x : Str) : 0 ≤ getI bx x ∧ getI bx x < 1000000 := by
  unfold getI
  cases e : lookI bx x with
  | none => exact ⟨by decide, by decide⟩
  | some i => exact h.look e
theorem BxOk.put {bx : Bx} (h : BxOk bx) (x : Str) {i : Int} (hi : 0 ≤ i ∧ i < 1000000) : BxOk (putI bx x i) := by
  unfold putI
  split
  · intro p hp
    rw [List.mem_map] at hp
    obtain ⟨q, hq, rfl⟩ := hp
    split
    · exact hi
    · exact h q hq
  · intro p hp
    rw [List.mem_append, List.mem_singleton] at hp
    rcases hp with hp | rfl
    · exact h p hp
    · exact hi
theorem putI_len (bx : Bx) (x : Str) (i : Int) : (putI bx x i).length ≤ bx.length + 1 := by
  unfold putI
  split
  · rw [List.length_map]; omega
  · rw [List.length_append]; simp
def Th.ok : Th → Prop
  | .num i => 0 ≤ i ∧ i < 1000000
  | .box _ => True
def Th.val (bx : Bx) : Th → Int
  | .num i => i
  | .box x => getI bx x
theorem Th.val_ok {bx : Bx} (h : BxOk bx) {t : Th} (ht : t.ok) : 0 ≤ t.val bx ∧ t.val bx < 1000000 := by
  cases t with
  | num i => exact ht
  | box x => exact h.get x
def Ak.holds : Ak → Int → Int → Bool
  | .lt, i, j => decide (i < j)
  | .eq, i, j => decide (i = j)
  | .ge, i, j => decide (j ≤ i)
  | .ne, i, j => !decide (i = j)
def Qn.asked (bx : Bx) (q : Qn) : Bool := q.s.holds (q.a.val bx) (q.b.val bx)
def Sm.reck (bx : Bx) : Sm → Int
  | .one a => a.val bx
  | .op .plus a b => (a.val bx + b.val bx) % 1000000
  | .op .minus a b => (a.val bx - b.val bx) % 1000000
  | .op .times a b => a.val bx * b.val bx % 1000000
  | .op (.ask s) a b => if s.holds (a.val bx) (b.val bx) then 1 else 0
def Sm.ok : Sm → Prop
  | .one a => a.ok
  | .op _ a b => a.ok ∧ b.ok
def Qn.ok (q : Qn) : Prop := q.a.ok ∧ q.b.ok
theorem Sm.reck_ok {bx : Bx} (h : BxOk bx) {t : Sm} (ht : t.ok) : 0 ≤ t.reck bx ∧ t.reck bx < 1000000 := by
  cases t with
  | one a => exact a.val_ok h ht
  | op s a b =>
    cases s with
    | plus => exact ⟨Int.emod_nonneg _ (by decide), Int.emod_lt_of_pos _ (by decide)⟩
    | minus => exact ⟨Int.emod_nonneg _ (by decide), Int.emod_lt_of_pos _ (by decide)⟩
    | times => exact ⟨Int.emod_nonneg _ (by decide), Int.emod_lt_of_pos _ (by decide)⟩
    | ask s =>
      show 0 ≤ (if s.holds (a.val bx) (b.val bx) then (1 : Int) else 0) ∧ (if s.holds (a.val bx) (b.val bx) then (1 : Int) else 0) < 1000000
      split <;> decide
theorem getD4 {a b c d : Int} {k : Nat} {P : Int → Prop} (h : k < 4) (ha : P a) (hb : P b) (hc : P c) (hd : P d) : P ([a, b, c, d].getD k 0) := by
  match k, h with
  | 0, _ => exact ha
  | 1, _ => exact hb
  | 2, _ => exact hc
  | 3, _ => exact hd
theorem lawThing_ok (n : Int) (own : Str) (names : List Str) : (lawThing n own names).ok := by
  unfold lawThing
  split
  · exact trivial
  · exact getD4 (P := fun i => 0 ≤ i ∧ i < 1000000) (by omega) (by omega) (by omega) (by omega) (by omega)
theorem lawSum_ok (n : Int) (own : Str) (names : List Str) : (lawSum n own names).ok := by
  unfold lawSum
  split
  · exact lawThing_ok _ _ _
  · exact ⟨lawThing_ok _ _ _, lawThing_ok _ _ _⟩
theorem lawQuestion_ok (n : Int) (names : List Str) : (lawQuestion n names).ok := ⟨lawThing_ok _ _ _, lawThing_ok _ _ _⟩
/-! names -/
def ltr (i : Int) : Str := ⟨#[("abcdefghijklmnopqrstuvwxyz" : Str).cps.toList.getD i.toNat 0]⟩
def lawTail (x : Int) : Str := Txt.join "" ((List.range 6).map fun j => ltr ((x / 72 + 5 * (0 + (j : Nat)) + 1) % 26))
def lawSize (x : Int) : Int := ([1, 3, 4, 5, 6] : List Int).getD (x / 3 % 5).toNat 0
def lawWord (x : Int) (i : Nat) : Str :=
  if x % 3 = 1 then cutS (lawTail x) none (some (x / 15 % lawSize x)) ++ ltr ((x / 72 + 5 * (0 + (i : Nat))) % 26) ++ cutS (lawTail x) (some (x / 15 % lawSize x + 1)) (some (lawSize x))
  else if x % 3 = 2 then ltr ((x / 72 + 7 * ((0 + (i : Nat)) / 4)) % 26) ++ cutS ("4" ++ lawTail x) none (some ((0 + (i : Nat)) % 4 + x / 18 % 3))
  else if 0 < (x / 26 + (0 + (i : Nat))) % 6 then ltr ((x / 72 + 5 * (0 + (i : Nat))) % 26) ++ toString ((x + (0 + (i : Nat))) % 10) ++ cutS (lawTail x) none (some ((x / 26 + (0 + (i : Nat))) % 6 - 1))
  else ltr ((x / 72 + 5 * (0 + (i : Nat))) % 26)
theorem lawWord_1 {x : Int} (h : x % 3 = 1) (i : Nat) : lawWord x i = cutS (lawTail x) none (some (x / 15 % lawSize x)) ++ ltr ((x / 72 + 5 * (0 + (i : Nat))) % 26) ++ cutS (lawTail x) (some (x / 15 % lawSize x + 1)) (some (lawSize x)) := by
  unfold lawWord; rw [if_pos h]
theorem lawWord_2 {x : Int} (h1 : ¬ x % 3 = 1) (h : x % 3 = 2) (i : Nat) : lawWord x i = ltr ((x / 72 + 7 * ((0 + (i : Nat)) / 4)) % 26) ++ cutS ("4" ++ lawTail x) none (some ((0 + (i : Nat)) % 4 + x / 18 % 3)) := by
  unfold lawWord; rw [if_neg h1, if_pos h]
theorem lawWord_3 {x : Int} (h1 : ¬ x % 3 = 1) (h2 : ¬ x % 3 = 2) (i : Nat) (h : 0 < (x / 26 + (0 + (i : Nat))) % 6) : lawWord x i = ltr ((x / 72 + 5 * (0 + (i : Nat))) % 26) ++ toString ((x + (0 + (i : Nat))) % 10) ++ cutS (lawTail x) none (some ((x / 26 + (0 + (i : Nat))) % 6 - 1)) := by
  unfold lawWord; rw [if_neg h1, if_neg h2, if_pos h]
theorem lawWord_4 {x : Int} (h1 : ¬ x % 3 = 1) (h2 : ¬ x % 3 = 2) (i : Nat) (h : ¬ 0 < (x / 26 + (0 + (i : Nat))) % 6) : lawWord x i = ltr ((x / 72 + 5 * (0 + (i : Nat))) % 26) := by
  unfold lawWord; rw [if_neg h1, if_neg h2, if_neg h]
theorem lawTail_eq (x : Int) : lawTail x = ltr ((x / 72 + 5 * (0 + (0 : Nat)) + 1) % 26) ++ ltr ((x / 72 + 5 * (0 + (1 : Nat)) + 1) % 26) ++ ltr ((x / 72 + 5 * (0 + (2 : Nat)) + 1) % 26) ++ ltr ((x / 72 + 5 * (0 + (3 : Nat)) + 1) % 26) ++ ltr ((x / 72 + 5 * (0 + (4 : Nat)) + 1) % 26) ++ ltr ((x / 72 + 5 * (0 + (5 : Nat)) + 1) % 26) := by rfl
instance {i : Int} : Sz (ltr i) 1 := ⟨Nat.le_refl _⟩
theorem ltr_len (i : Int) : (ltr i).length = 1 := rfl
theorem lawTail_len (x : Int) : (lawTail x).length = 6 := by rw [lawTail_eq]; simp only [len_append, ltr_len]
instance {x : Int} : Sz (lawTail x) 6 := ⟨Nat.le_of_eq (lawTail_len x)⟩
theorem lawSize_mem : ∀ j : Nat, j < 5 → 1 ≤ ([1, 3, 4, 5, 6] : List Int).getD j 0 ∧ ([1, 3, 4, 5, 6] : List Int).getD j 0 ≤ 6 := by decide
theorem lawSize_ok (x : Int) : 1 ≤ lawSize x ∧ lawSize x ≤ 6 := lawSize_mem _ (by omega)
def lawSpecial : List Str := ["ifx", "fix", "undone", "pulled", "pushes", "blocks", "loops", "put", "swap", "round"]
def lawNames0 (x : Int) : List Str := (List.range 12).map (lawWord x)
def lawNames1 (x : Int) : List Str := if x % 5 = 3 ∧ lawSpecial.getD (x / 40 % 10).toNat default ∉ lawNames0 x then (lawNames0 x).set (x / 5 % 8).toNat (lawSpecial.getD (x / 40 % 10).toNat default) else lawNames0 x
def lawNames (x : Int) : List Str := if x % 7 = 2 then cutL (lawNames1 x) none (some 8) ++ cutL (lawNames1 x) none (some 4) else lawNames1 x
theorem lawNames1_pos {x : Int} (h : x % 5 = 3) (h2 : lawSpecial.getD (x / 40 % 10).toNat default ∉ lawNames0 x) : lawNames1 x = (lawNames0 x).set (x / 5 % 8).toNat (lawSpecial.getD (x / 40 % 10).toNat default) := by
  unfold lawNames1; rw [if_pos ⟨h, h2⟩]
theorem lawNames1_neg {x : Int} (h : ¬ (x % 5 = 3 ∧ lawSpecial.getD (x / 40 % 10).toNat default ∉ lawNames0 x)) : lawNames1 x = lawNames0 x := by
  unfold lawNames1; rw [if_neg h]
theorem lawNames0_len (x : Int) : (lawNames0 x).length = 12 := by unfold lawNames0; rw [List.length_map, List.length_range]
theorem lawNames1_len (x : Int) : (lawNames1 x).length = 12 := by
  unfold lawNames1
  split
  · rw [List.length_set, lawNames0_len]
  · exact lawNames0_len x
theorem cut_to {α : Type} (xs : List α) (k : Nat) (h : k ≤ xs.length) : cutL xs none (some (k : Int)) = xs.take k := by
  unfold cutL
  rw [HT.sIx_none, HT.sIx_nat, Nat.min_eq_left h]
  simp
theorem lawNames_len (x : Int) : (lawNames x).length = 12 := by
  unfold lawNames
  have h := lawNames1_len x
  split
  · rw [List.length_append]
    rw [show ((8 : Int)) = ((8 : Nat) : Int) from rfl, show ((4 : Int)) = ((4 : Nat) : Int) from rfl, cut_to _ 8 (by omega), cut_to _ 4 (by omega), List.length_take, List.length_take]
    omega
  · exact h
/-! the law's boxes -/
def lawBoxN (x : Int) (names : List Str) : Nat → Bx
  | 0 => []
  | i + 1 => if 0 < mixed x (3 * (0 + (i : Nat))) % 5 then putI (lawBoxN x names i) (names.getD (0 + (i : Int)).toNat default) ([mixed x (3 * (0 + (i : Nat))) / 5 % 4, mixed x (3 * (0 + (i : Nat))) / 5 % 4, mixed x (3 * (0 + (i : Nat))) / 5 % 1000, mixed x (3 * (0 + (i : Nat))) / 5 % 1000000].getD (mixed x (3 * (0 + (i : Nat))) % 4).toNat 0) else lawBoxN x names i
def lawBoxes (x : Int) (names : List Str) : Bx := lawBoxN x names 6
theorem lawBoxN_pos {x : Int} {names : List Str} {i : Nat} (h : 0 < mixed x (3 * (0 + (i : Nat))) % 5) : lawBoxN x names (i + 1) = putI (lawBoxN x names i) (names.getD (0 + (i : Int)).toNat default) ([mixed x (3 * (0 + (i : Nat))) / 5 % 4, mixed x (3 * (0 + (i : Nat))) / 5 % 4, mixed x (3 * (0 + (i : Nat))) / 5 % 1000, mixed x (3 * (0 + (i : Nat))) / 5 % 1000000].getD (mixed x (3 * (0 + (i : Nat))) % 4).toNat 0) := by
  rw [lawBoxN, if_pos h]
theorem lawBoxN_neg {x : Int} {names : List Str} {i : Nat} (h : ¬ 0 < mixed x (3 * (0 + (i : Nat))) % 5) : lawBoxN x names (i + 1) = lawBoxN x names i := by
  rw [lawBoxN, if_neg h]
theorem lawBoxN_len (x : Int) (names : List Str) : ∀ i : Nat, (lawBoxN x names i).length ≤ i
  | 0 => Nat.le_refl _
  | i + 1 => by
    rw [lawBoxN]
    have ih := lawBoxN_len x names i
    split
    · have := putI_len (lawBoxN x names i) (names.getD (0 + (i : Int)).toNat default) ([mixed x (3 * (0 + (i : Nat))) / 5 % 4, mixed x (3 * (0 + (i : Nat))) / 5 % 4, mixed x (3 * (0 + (i : Nat))) / 5 % 1000, mixed x (3 * (0 + (i : Nat))) / 5 % 1000000].getD (mixed x (3 * (0 + (i : Nat))) % 4).toNat 0)
      omega
    · omega
theorem lawBoxN_ok (x : Int) (names : List Str) : ∀ i : Nat, BxOk (lawBoxN x names i)
  | 0 => fun _ h => by cases h
  | i + 1 => by
    rw [lawBoxN]
    have ih := lawBoxN_ok x names i
    split
    · refine ih.put _ ?_
      exact getD4 (P := fun i => 0 ≤ i ∧ i < 1000000) (by omega) (by omega) (by omega) (by omega) (by omega)
    · exact ih
theorem lawBoxes_ok (x : Int) (names : List Str) : BxOk (lawBoxes x names) := lawBoxN_ok x names 6
theorem lawBoxes_len (x : Int) (names : List Str) : (lawBoxes x names).length ≤ 6 := lawBoxN_len x names 6
/-! what is a name -/
def TAKENs : List Str := ["block", "if", "else", "fi", "from", "loop", "until", "call", "undo", "push", "pull"]
def smallD : D → Prop
  | .ty _ => False
  | .str z => z.length ≤ 100000
  | _ => True
def isNameS (z : Str) : Bool := ((decide (1 ≤ (z.length : Int)) && decide ((z.length : Int) ≤ 6)) && !decide (z ∈ TAKENs)) && (decide (z.cps.toList.getD (0 : Int).toNat 0 ∈ ("abcdefghijklmnopqrstuvwxyz" : Str).cps.toList) && (z.cps.toList.map fun n => decide (n ∈ (("abcdefghijklmnopqrstuvwxyz" : Str) ++ ("0123456789" : Str)).cps.toList)).all id)
theorem name_and {a b : Bool} (h : (!true || (!a || b)) = false) : a = true ∧ b = false := by cases a <;> cases b <;> simp_all
theorem isNameS_out {z : Str} (h : (!true || (!(decide (1 ≤ (z.length : Int)) && decide ((z.length : Int) ≤ 6)) || inD (.str z) (TAKENs.map .str))) = true) : isNameS z = false := by
  rw [inD_strs] at h
  unfold isNameS
  generalize (decide (1 ≤ (z.length : Int)) && decide ((z.length : Int) ≤ 6)) = a at h ⊢
  generalize decide (z ∈ TAKENs) = b at h ⊢
  cases a <;> cases b <;> first | rfl | exact absurd h (by decide)
theorem isNameS_in {z : Str} (h : (!true || (!(decide (1 ≤ (z.length : Int)) && decide ((z.length : Int) ≤ 6)) || inD (.str z) (TAKENs.map .str))) = false) : isNameS z = (decide (z.cps.toList.getD (0 : Int).toNat 0 ∈ ("abcdefghijklmnopqrstuvwxyz" : Str).cps.toList) && (z.cps.toList.map fun n => decide (n ∈ (("abcdefghijklmnopqrstuvwxyz" : Str) ++ ("0123456789" : Str)).cps.toList)).all id) := by
  rw [inD_strs] at h
  unfold isNameS
  generalize (decide (1 ≤ (z.length : Int)) && decide ((z.length : Int) ≤ 6)) = a at h ⊢
  generalize decide (z ∈ TAKENs) = b at h ⊢
  cases a <;> cases b <;> first | rfl | exact absurd h (by decide)
def isNameD : D → Bool
  | .str z => isNameS z
  | _ => false
def isNumD : D → Bool
  | .int i => decide (0 ≤ i) && decide (i < 1000000)
  | _ => false
theorem smallD.ty {d : D} (h : smallD d) : d.tyn ≠ "type" := by
  cases d <;> first | (simp [D.tyn]; done) | exact False.elim h
end DL

set_option Elab.async false
set_option linter.all false
set_option maxRecDepth 100000
set_option maxHeartbeats 4000000
namespace DL
open PySem L2
/-! ### which texts are names, by their signs -/
def takenL : List (List Nat) := [[98, 108, 111, 99, 107], [105, 102], [101, 108, 115, 101], [102, 105], [102, 114, 111, 109], [108, 111, 111, 112], [117, 110, 116, 105, 108], [99, 97, 108, 108], [117, 110, 100, 111], [112, 117, 115, 104], [112, 117, 108, 108]]
theorem takenL_eq : TAKENs.map (fun z => z.cps.toList) = takenL := by decide +kernel
theorem letters_eq : ("abcdefghijklmnopqrstuvwxyz" : Str).cps.toList = (List.range 26).map (97 + ·) := by decide +kernel
theorem figures_eq : ("0123456789" : Str).cps.toList = (List.range 10).map (48 + ·) := by decide +kernel
def ltrB (n : Nat) : Bool := decide (97 ≤ n) && decide (n < 123)
def figB (n : Nat) : Bool := decide (48 ≤ n) && decide (n < 58)
def isNameL (w : List Nat) : Bool := (decide (1 ≤ w.length) && decide (w.length ≤ 6)) && !takenL.contains w && (ltrB (w.getD 0 0) && w.all fun n => ltrB n || figB n)
theorem mem_letters {n : Nat} (h : ltrB n = true) : n ∈ ("abcdefghijklmnopqrstuvwxyz" : Str).cps.toList := by
  rw [letters_eq, List.mem_map]
  unfold ltrB at h
  simp at h
  exact ⟨n - 97, by rw [List.mem_range]; omega, by omega⟩
theorem mem_figures {n : Nat} (h : figB n = true) : n ∈ ("0123456789" : Str).cps.toList := by
  rw [figures_eq, List.mem_map]
  unfold figB at h
  simp at h
  exact ⟨n - 48, by rw [List.mem_range]; omega, by omega⟩
theorem isNameS_of {z : Str} (h : isNameL z.cps.toList = true) : isNameS z = true := by
  unfold isNameL at h
  rw [Bool.and_eq_true, Bool.and_eq_true, Bool.and_eq_true, Bool.and_eq_true] at h
  obtain ⟨⟨⟨h1, h2⟩, h3⟩, h4, h5⟩ := h
  have l : z.cps.toList.length = z.length := rfl
  have e1 := of_decide_eq_true h1
  have e2 := of_decide_eq_true h2
  rw [l] at e1 e2
  have e3 : z ∉ TAKENs := fun hm => by
    have : z.cps.toList ∈ takenL := by rw [← takenL_eq]; exact List.mem_map_of_mem hm
    rw [List.contains_iff_mem.mpr this] at h3
    cases h3
  unfold isNameS
  rw [decide_eq_true (show 1 ≤ (z.length : Int) by omega), decide_eq_true (show (z.length : Int) ≤ 6 by omega), decide_eq_false e3, show (0 : Int).toNat = 0 from rfl, decide_eq_true (mem_letters h4)]
  show (z.cps.toList.map _).all id = true
  rw [List.all_map, List.all_eq_true]
  intro n hn
  rw [List.all_eq_true] at h5
  have := h5 n hn
  show decide (n ∈ ((_ : Str).cps ++ (_ : Str).cps).toList) = true
  rw [Array.toList_append, decide_eq_true_eq, List.mem_append]
  rw [Bool.or_eq_true] at this
  exact this.elim (fun h => .inl (mem_letters h)) fun h => .inr (mem_figures h)
/-- a letter, a figure, then letters: no word that is taken -/
theorem isNameL_fig {l f : Nat} {r : List Nat} (hl : ltrB l = true) (hf : figB f = true) (hr : r.all ltrB = true) (hn : r.length ≤ 4) : isNameL (l :: f :: r) = true := by
  unfold isNameL
  have e : takenL.contains (l :: f :: r) = false := by
    rw [Bool.eq_false_iff]
    intro h
    rw [List.contains_iff_mem] at h
    have : ∀ w ∈ takenL, figB (w.getD 1 0) = false := by decide +kernel
    have := this _ h
    rw [show (l :: f :: r).getD 1 0 = f from rfl, hf] at this
    cases this
  rw [e, decide_eq_true (show 1 ≤ (l :: f :: r).length by simp), decide_eq_true (show (l :: f :: r).length ≤ 6 by simp; omega)]
  show (((true && true) && !false) && (ltrB l && ((ltrB l || figB l) && ((ltrB f || figB f) && r.all fun n => ltrB n || figB n)))) = true
  rw [hl, hf]
  simp only [Bool.or_true, Bool.true_or, Bool.true_and, Bool.and_true, Bool.not_false]
  rw [List.all_eq_true] at hr ⊢
  intro n h
  rw [hr n h]
  rfl
theorem isNameL_one {l : Nat} (hl : ltrB l = true) : isNameL [l] = true := by
  unfold isNameL
  have e : takenL.contains [l] = false := by
    rw [Bool.eq_false_iff]
    intro h
    rw [List.contains_iff_mem] at h
    have : ∀ w ∈ takenL, w.length ≠ 1 := by decide +kernel
    exact this _ h rfl
  rw [e]
  show (((true && true) && !false) && (ltrB l && ((ltrB l || figB l) && true))) = true
  rw [hl]
  rfl
/-! the signs of the law's names -/
theorem ltr_cps {i : Int} (h0 : 0 ≤ i) (h : i < 26) : (ltr i).cps.toList = [97 + i.toNat] := by
  have := letters_eq
  unfold ltr
  rw [this, List.getD_eq_getElem?_getD, List.getElem?_map, List.getElem?_range (by omega)]
  rfl
def tailL (a : Nat) : List Nat := (List.range 6).map fun j => 97 + (a + 5 * j + 1) % 26
theorem append_cps (x y : Str) : (x ++ y).cps.toList = x.cps.toList ++ y.cps.toList := Array.toList_append
theorem lawTail_cps (x : Int) : (lawTail x).cps.toList = tailL (x / 72 % 26).toNat := by
  rw [lawTail_eq]
  rw [append_cps, append_cps, append_cps, append_cps, append_cps, ltr_cps (by omega) (by omega), ltr_cps (by omega) (by omega), ltr_cps (by omega) (by omega), ltr_cps (by omega) (by omega), ltr_cps (by omega) (by omega), ltr_cps (by omega) (by omega)]
  show [97 + ((x / 72 + 5 * (0 + (0 : Nat)) + 1) % 26).toNat, 97 + ((x / 72 + 5 * (0 + (1 : Nat)) + 1) % 26).toNat, 97 + ((x / 72 + 5 * (0 + (2 : Nat)) + 1) % 26).toNat, 97 + ((x / 72 + 5 * (0 + (3 : Nat)) + 1) % 26).toNat, 97 + ((x / 72 + 5 * (0 + (4 : Nat)) + 1) % 26).toNat, 97 + ((x / 72 + 5 * (0 + (5 : Nat)) + 1) % 26).toNat] = tailL (x / 72 % 26).toNat
  have e : ∀ j : Nat, ((x / 72 + 5 * (0 + (j : Nat)) + 1) % 26).toNat = ((x / 72 % 26).toNat + 5 * j + 1) % 26 := fun j => by omega
  rw [e 0, e 1, e 2, e 3, e 4, e 5]
  rfl

theorem cutS_cps (z : Str) (lo hi : Option Int) : (cutS z lo hi).cps.toList = (z.cps.toList.drop (HT.sIx z.length 0 lo)).take (HT.sIx z.length z.length hi - HT.sIx z.length 0 lo) := rfl
theorem cutS_to (z : Str) {p : Int} (h0 : 0 ≤ p) : (cutS z none (some p)).cps.toList = z.cps.toList.take p.toNat := by
  obtain ⟨k, rfl⟩ := Int.eq_ofNat_of_zero_le h0
  rw [cutS_cps, HT.sIx_none, HT.sIx_nat, List.drop_zero, Nat.sub_zero, List.take_eq_take_iff]
  show min (min k z.length) z.cps.toList.length = min (k : Int).toNat z.cps.toList.length
  rw [show z.cps.toList.length = z.length from rfl]
  omega
theorem cutS_mid (z : Str) {p q : Int} (h0 : 0 ≤ p) (h1 : p ≤ q) (hq : q ≤ z.length) : (cutS z (some p) (some q)).cps.toList = (z.cps.toList.drop p.toNat).take (q.toNat - p.toNat) := by
  obtain ⟨k, rfl⟩ := Int.eq_ofNat_of_zero_le h0
  obtain ⟨j, rfl⟩ := Int.eq_ofNat_of_zero_le (Int.le_trans h0 h1)
  rw [cutS_cps, HT.sIx_nat, HT.sIx_nat, Nat.min_eq_left (by omega), Nat.min_eq_left (by omega)]
  rfl
def all1 : Bool := (List.range 26).all fun a => [1, 3, 4, 5, 6].all fun s => (List.range s).all fun p => (List.range 12).all fun k => isNameL ((tailL a).take p ++ [97 + (a + 5 * k) % 26] ++ ((tailL a).drop (p + 1)).take (s - (p + 1)))
theorem all1_ok : all1 = true := by decide +kernel
theorem word1 {a s p k : Nat} (ha : a < 26) (hs : s ∈ [1, 3, 4, 5, 6]) (hp : p < s) (hk : k < 12) : isNameL ((tailL a).take p ++ [97 + (a + 5 * k) % 26] ++ ((tailL a).drop (p + 1)).take (s - (p + 1))) = true := by
  have h := all1_ok
  unfold all1 at h
  rw [List.all_eq_true] at h
  have h := h a (List.mem_range.mpr ha)
  rw [List.all_eq_true] at h
  have h := h s hs
  rw [List.all_eq_true] at h
  have h := h p (List.mem_range.mpr hp)
  rw [List.all_eq_true] at h
  exact h k (List.mem_range.mpr hk)
theorem tailL_ltr (a : Nat) : (tailL a).all ltrB = true := by
  unfold tailL
  rw [List.all_map, List.all_eq_true]
  intro j _
  show (decide (97 ≤ 97 + (a + 5 * j + 1) % 26) && decide (97 + (a + 5 * j + 1) % 26 < 123)) = true
  rw [decide_eq_true (by omega), decide_eq_true (by omega)]
  rfl
theorem all_take {p : Nat → Bool} {xs : List Nat} (h : xs.all p = true) (n : Nat) : (xs.take n).all p = true := by
  rw [List.all_eq_true] at h ⊢
  exact fun x hx => h x (List.mem_of_mem_take hx)
theorem ltr_ok {i : Int} (h0 : 0 ≤ i) (h : i < 26) : ltrB (97 + i.toNat) = true := by
  unfold ltrB
  rw [decide_eq_true (by omega), decide_eq_true (by omega)]
  rfl
theorem size_mem : ∀ j : Nat, j < 5 → (([1, 3, 4, 5, 6] : List Int).getD j 0).toNat ∈ [1, 3, 4, 5, 6] := by decide
theorem digit_cps : ∀ i : Nat, i < 10 → (Str.ofString (toString (i : Int))).cps.toList = [48 + i] := by decide +kernel
theorem lawWord_ok (x : Int) {i : Nat} (hi : i < 12) : isNameS (lawWord x i) = true := by
  apply isNameS_of
  have hz := lawSize_ok x
  by_cases h1 : x % 3 = 1
  · have p0 : 0 ≤ x / 15 % lawSize x := Int.emod_nonneg _ (by omega)
    have p1 : x / 15 % lawSize x < lawSize x := Int.emod_lt_of_pos _ (by omega)
    rw [lawWord_1 h1, append_cps, append_cps, cutS_to _ p0, cutS_mid _ (by omega) (by omega) (by rw [lawTail_len]; omega), lawTail_cps, ltr_cps (by omega) (by omega)]
    have e : ((x / 72 + 5 * (0 + (i : Nat))) % 26).toNat = ((x / 72 % 26).toNat + 5 * i) % 26 := by omega
    rw [e, show (x / 15 % lawSize x + 1).toNat = (x / 15 % lawSize x).toNat + 1 by omega]
    exact word1 (by omega) (size_mem _ (by omega)) (by omega) hi
  · by_cases h2 : x % 3 = 2
    · rw [lawWord_2 h1 h2, append_cps, cutS_to _ (by omega), ltr_cps (by omega) (by omega), append_cps, lawTail_cps, show ("4" : Str).cps.toList = [52] from by decide +kernel]
      cases e : ((0 + (i : Int)) % 4 + x / 18 % 3).toNat with
      | zero => exact isNameL_one (ltr_ok (by omega) (by omega))
      | succ m =>
        have hm : m ≤ 4 := by omega
        exact isNameL_fig (ltr_ok (by omega) (by omega)) (by decide) (all_take (tailL_ltr _) m) (Nat.le_trans (List.length_take_le _ _) hm)
    · by_cases h3 : 0 < (x / 26 + (0 + (i : Nat))) % 6
      · rw [lawWord_3 h1 h2 i h3, append_cps, append_cps, cutS_to _ (by omega), ltr_cps (by omega) (by omega), lawTail_cps]
        obtain ⟨m, hm⟩ := Int.eq_ofNat_of_zero_le (show 0 ≤ (x + (0 + (i : Nat))) % 10 by omega)
        rw [hm, digit_cps m (by omega)]
        refine isNameL_fig (ltr_ok (by omega) (by omega)) ?_ (all_take (tailL_ltr _) _) (Nat.le_trans (List.length_take_le _ _) (by omega))
        unfold figB
        rw [decide_eq_true (by omega), decide_eq_true (by omega)]
        rfl
      · rw [lawWord_4 h1 h2 i h3, ltr_cps (by omega) (by omega)]
        exact isNameL_one (ltr_ok (by omega) (by omega))
theorem special_ok : ∀ z ∈ lawSpecial, isNameL z.cps.toList = true := by decide +kernel
theorem getD_mem {z : Str} {xs : List Str} {j : Nat} (h : j < xs.length) : xs.getD j z ∈ xs := by
  rw [List.getD_eq_getElem?_getD, List.getElem?_eq_getElem h]
  exact List.getElem_mem h
theorem lawNames1_ok (x : Int) : ∀ z ∈ lawNames1 x, isNameS z = true := by
  have h0 : ∀ z ∈ lawNames0 x, isNameS z = true := by
    intro z hz
    unfold lawNames0 at hz
    rw [List.mem_map] at hz
    obtain ⟨i, hi, rfl⟩ := hz
    exact lawWord_ok x (List.mem_range.mp hi)
  unfold lawNames1
  split
  · intro z hz
    rcases List.mem_or_eq_of_mem_set hz with h | rfl
    · exact h0 z h
    · exact isNameS_of (special_ok _ (getD_mem (by show _ < 10; omega)))
  · exact h0
theorem lawNames_ok (x : Int) : ∀ z ∈ lawNames x, isNameS z = true := by
  intro z hz
  unfold lawNames at hz
  split at hz
  · rw [List.mem_append] at hz
    rcases hz with h | h
    · exact lawNames1_ok x z (List.mem_of_mem_drop (List.mem_of_mem_take h))
    · exact lawNames1_ok x z (List.mem_of_mem_drop (List.mem_of_mem_take h))
  · exact lawNames1_ok x z hz
end DL

set_option Elab.async false
set_option linter.all false
set_option maxRecDepth 100000
set_option maxHeartbeats 4000000
namespace DL
open PySem L2
abbrev topS (i : Nat) : Stmt := PySem.Challenge.pw_turnedrun_k01_sums_and_questions.main.body.getD i (.Pass ⟨0, 0, 0, 0⟩)
structure Tx (c : Cc) : Prop where
  len : c.mg "len" = none
  isinstance : c.mg "isinstance" = none
  int : c.mg "int" = none
  str : c.mg "str" = none
  bool : c.mg "bool" = none
  all : c.mg "all" = none
  min : c.mg "min" = none
  dict : c.mg "dict" = none
  range : c.mg "range" = none
  c_MOST_SIGNS : ∀ {η : Nm} {ρ : List Sl} {pos : Pos}, glB η.sc "MOST_SIGNS" = true → ED c η (.Name "MOST_SIGNS" pos) ρ (.int 6)
  c_BOUND : ∀ {η : Nm} {ρ : List Sl} {pos : Pos}, glB η.sc "BOUND" = true → ED c η (.Name "BOUND" pos) ρ (.int 1000000)
  c_LETTERS : ∀ {η : Nm} {ρ : List Sl} {pos : Pos}, glB η.sc "LETTERS" = true → ED c η (.Name "LETTERS" pos) ρ (.str "abcdefghijklmnopqrstuvwxyz")
  c_FIGURES : ∀ {η : Nm} {ρ : List Sl} {pos : Pos}, glB η.sc "FIGURES" = true → ED c η (.Name "FIGURES" pos) ρ (.str "0123456789")
  c_TAKEN : ∀ {η : Nm} {ρ : List Sl} {pos : Pos}, glB η.sc "TAKEN" = true → ED c η (.Name "TAKEN" pos) ρ (.tup ((["block", "if", "else", "fi", "from", "loop", "until", "call", "undo", "push", "pull"] : List Str).map .str))
  c_ASKING : ∀ {η : Nm} {ρ : List Sl} {pos : Pos}, glB η.sc "ASKING" = true → ED c η (.Name "ASKING" pos) ρ (.tup ((["<", "=", ">=", "!="] : List Str).map .str))
/-! the things of the last two rounds -/
def lawGood : List Str := ["a", "z9", "q00000", "if0", "put", "swap", "round", "done", "t0", "zzzzzz", "a12345"]
def lawBad : List D := (TAKENs.map .str) ++ [.str "", .str "abcdefg", .str "a-b", .str "aB", .str "A", .str "1a", .str "_a", .str "a b", .str "a1.", .str "7", .int 5, .non, .bl true, .lst [.str "a"], .tup [.str "a"], .dic []]
def isTyB : D → Bool
  | .ty _ => false
  | .str z => decide (z.length ≤ 100000)
  | _ => true
theorem small_of {d : D} (h : isTyB d = true) : smallD d := by
  cases d with
  | str z => exact (by simpa [isTyB] using h : z.length ≤ 100000)
  | ty => cases h
  | _ => exact trivial
theorem lawGood_ok : ∀ z ∈ lawGood, isNameL z.cps.toList = true := by decide +kernel
theorem lawBad_small : ∀ d ∈ lawBad, isTyB d = true := by
  intro d hd
  have : (lawBad.all isTyB) = true := by decide +kernel
  exact List.all_eq_true.mp this d hd
theorem lawBad_no : ∀ d ∈ lawBad, isNameD d = false := by
  intro d hd
  have : (lawBad.all fun d => !isNameD d) = true := by decide +kernel
  have := List.all_eq_true.mp this d hd
  simpa using this
theorem good_ok {names : List Str} (hok : ∀ z ∈ names, isNameS z = true) : ∀ z ∈ names ++ lawGood, isNameS z = true := by
  intro z hz
  rcases List.mem_append.mp hz with h | h
  · exact hok z h
  · exact isNameS_of (lawGood_ok z h)
theorem known1 {names : List Str} (hok : ∀ z ∈ names, isNameS z = true) {d : D} (hd : d ∈ (names ++ lawGood).map D.str ++ lawBad) : smallD d ∧ isNameD d = inM d (names ++ lawGood) := by
  rcases List.mem_append.mp hd with h | h
  · rw [List.mem_map] at h
    obtain ⟨z, hz, rfl⟩ := h
    have h1 := good_ok hok z hz
    refine ⟨?_, ?_⟩
    · show z.length ≤ 100000
      unfold isNameS at h1
      simp only [Bool.and_eq_true] at h1
      have := of_decide_eq_true h1.1.1.2
      omega
    · show isNameS z = decide (z ∈ names ++ lawGood)
      rw [h1, decide_eq_true hz]
  · refine ⟨small_of (lawBad_small d h), ?_⟩
    have h1 := lawBad_no d h
    rw [h1]
    cases d <;> first | rfl | skip
    rename_i z
    show false = decide (z ∈ names ++ lawGood)
    rw [decide_eq_false]
    intro hm
    have := good_ok hok z hm
    rw [show isNameS z = isNameD (.str z) from rfl, h1] at this
    cases this
theorem lt_le (x : Int) : decide (x < 1000000) = decide (x ≤ 999999) := by rw [decide_eq_decide]; omega
def lawNums : List D := [.int 0, .int 1, .int 999999, .int 500000, .int (-1), .int 1000000, .int (10 ^ 30), .bl true, .bl false, .non, .str "1", .lst [], .tup [], .dic []]
theorem lawNums_small : ∀ d ∈ lawNums, isTyB d = true := by
  intro d hd
  have : (lawNums.all isTyB) = true := by decide +kernel
  exact List.all_eq_true.mp this d hd
section
variable {c : Cc} (T : Tx c)
include T
abbrev s_cell_at : Stmt := topS 14
abbrev n_cell_at : List Str := ["_law_script", "_law_k"]
abbrev e_cell_at : Nm := ⟨n_cell_at, defScope s_cell_at, fun _ => true⟩
omit T in
theorem sc_cell_at : FnScope n_cell_at ["_law_script", "_law_k"] (defScope s_cell_at) := ⟨rfl, rfl, rfl, by decide +kernel, rfl, by decide +kernel, by decide +kernel⟩
def R_cell_at (ds : List D) (d : D) : Prop := ∃ ns k, ds = [.scr ns, .int k] ∧ 0 ≤ k ∧ d = .int (cellAt ns k)
theorem b_cell_at {ds : List D} {d : D} (h : R_cell_at ds d) : BodyD c e_cell_at s_cell_at (rho n_cell_at ds) d := by
  have nd := sc_cell_at.nd
  obtain ⟨ns, k, rfl, hk, rfl⟩ := h
  left
  exact
    (sd_if (et_lt (ed_var 1 rfl) (ed_lenC T.len (ea_cons (ed_var 0 rfl) ea_nil)))
      (fun h100 =>
        (sd_rt (s1_ret (ED.is (ed_ixc (ed_var 0 rfl) (ed_var 1 rfl) (by simp at h100; omega)) (by simp at h100; unfold cellAt; rw [if_pos h100])))))
      (fun h100 =>
        (sd_nil
          (sd_rt (s1_ret (ED.is ed_int (by simp at h100; unfold cellAt; rw [if_neg (by omega)])))))))
abbrev s_mixed : Stmt := topS 15
abbrev n_mixed : List Str := ["_law_cell", "_law_k", "_law_number"]
abbrev e_mixed : Nm := ⟨n_mixed, defScope s_mixed, fun _ => true⟩
omit T in
theorem sc_mixed : FnScope n_mixed ["_law_cell", "_law_k"] (defScope s_mixed) := ⟨rfl, rfl, rfl, by decide +kernel, rfl, by decide +kernel, by decide +kernel⟩
def R_mixed (ds : List D) (d : D) : Prop := ∃ x k, ds = [.int x, .int k] ∧ d = .int (mixed x k)
theorem b_mixed {ds : List D} {d : D} (h : R_mixed ds d) : BodyD c e_mixed s_mixed (rho n_mixed ds) d := by
  have nd := sc_mixed.nd
  obtain ⟨x, k, rfl, rfl⟩ := h
  left
  exact
    (sd_cons (s1_set 2 (ed_mod (by decide) (ed_mul (.inr ⟨by decide, by decide⟩) (ed_add (ed_add (ed_var 0 rfl) (ed_mul (.inl ⟨by decide, by decide⟩) ed_int (ed_var 1 rfl))) ed_int) ed_int) ed_int) nd)
      (sd_rt (s1_ret (ED.is (ed_mod (by decide) (ed_mul (.inl ⟨by omega, by omega⟩) (ed_var 2 rfl) (ed_var 2 rfl)) ed_int) (by first | rfl | (try clear nd; simp_all; done))))))
abbrev s_whole : Stmt := topS 16
abbrev n_whole : List Str := ["_law_found"]
abbrev e_whole : Nm := ⟨n_whole, defScope s_whole, fun _ => true⟩
omit T in
theorem sc_whole : FnScope n_whole ["_law_found"] (defScope s_whole) := ⟨rfl, rfl, rfl, by decide +kernel, rfl, by decide +kernel, by decide +kernel⟩
def R_whole (ds : List D) (d : D) : Prop := ∃ x, ds = [x] ∧ x.tyn ≠ "type" ∧ d = .bl (wholeD x)
theorem b_whole {ds : List D} {d : D} (h : R_whole ds d) : BodyD c e_whole s_whole (rho n_whole ds) d := by
  have nd := sc_whole.nd
  obtain ⟨x, rfl, ht, rfl⟩ := h
  left
  cases x with
  | ty => exact absurd rfl ht
  | int x => exact
    (sd_rt (s1_ret (ED.is (ed_and (ed_isi (by exact tn_int) (by exact kit_int_int) T.isinstance (ea_cons (ed_var 0 rfl) (ea_cons (ed_type T.int (by decide +kernel)) ea_nil))) fun h1 => (ed_one (ed_not (ed_isi (by exact tn_int) (by exact kit_int_bool) T.isinstance (ea_cons (ed_var 0 rfl) (ea_cons (ed_type T.bool (by decide +kernel)) ea_nil)))))) (by first | rfl | (try clear nd; simp_all; done)))))
  | bl x => exact
    (sd_rt (s1_ret (ED.is (ed_and (ed_isi (by exact tn_bool) (by exact kit_bool_int) T.isinstance (ea_cons (ed_var 0 rfl) (ea_cons (ed_type T.int (by decide +kernel)) ea_nil))) fun h1 => (ed_one (ed_not (ed_isi (by exact tn_bool) (by exact kit_bool_bool) T.isinstance (ea_cons (ed_var 0 rfl) (ea_cons (ed_type T.bool (by decide +kernel)) ea_nil)))))) (by first | rfl | (try clear nd; simp_all; done)))))
  | str x => exact
    (sd_rt (s1_ret (ED.is (ed_and (ed_isi (by exact tn_str) (by exact kit_str_int) T.isinstance (ea_cons (ed_var 0 rfl) (ea_cons (ed_type T.int (by decide +kernel)) ea_nil))) fun h1 => (ed_one (ed_not (ed_isi (by exact tn_str) (by exact kit_str_bool) T.isinstance (ea_cons (ed_var 0 rfl) (ea_cons (ed_type T.bool (by decide +kernel)) ea_nil)))))) (by first | rfl | (try clear nd; simp_all; done)))))
  | non => exact
    (sd_rt (s1_ret (ED.is (ed_and (ed_isi (by exact tn_NoneType) (by exact kit_NoneType_int) T.isinstance (ea_cons (ed_var 0 rfl) (ea_cons (ed_type T.int (by decide +kernel)) ea_nil))) fun h1 => (ed_one (ed_not (ed_isi (by exact tn_NoneType) (by exact kit_NoneType_bool) T.isinstance (ea_cons (ed_var 0 rfl) (ea_cons (ed_type T.bool (by decide +kernel)) ea_nil)))))) (by first | rfl | (try clear nd; simp_all; done)))))
  | tup x => exact
    (sd_rt (s1_ret (ED.is (ed_and (ed_isi (by exact tn_tuple) (by exact kit_tuple_int) T.isinstance (ea_cons (ed_var 0 rfl) (ea_cons (ed_type T.int (by decide +kernel)) ea_nil))) fun h1 => (ed_one (ed_not (ed_isi (by exact tn_tuple) (by exact kit_tuple_bool) T.isinstance (ea_cons (ed_var 0 rfl) (ea_cons (ed_type T.bool (by decide +kernel)) ea_nil)))))) (by first | rfl | (try clear nd; simp_all; done)))))
  | lst x => exact
    (sd_rt (s1_ret (ED.is (ed_and (ed_isi (by exact tn_list) (by exact kit_list_int) T.isinstance (ea_cons (ed_var 0 rfl) (ea_cons (ed_type T.int (by decide +kernel)) ea_nil))) fun h1 => (ed_one (ed_not (ed_isi (by exact tn_list) (by exact kit_list_bool) T.isinstance (ea_cons (ed_var 0 rfl) (ea_cons (ed_type T.bool (by decide +kernel)) ea_nil)))))) (by first | rfl | (try clear nd; simp_all; done)))))
  | dic x => exact
    (sd_rt (s1_ret (ED.is (ed_and (ed_isi (by exact tn_dict) (by exact kit_dict_int) T.isinstance (ea_cons (ed_var 0 rfl) (ea_cons (ed_type T.int (by decide +kernel)) ea_nil))) fun h1 => (ed_one (ed_not (ed_isi (by exact tn_dict) (by exact kit_dict_bool) T.isinstance (ea_cons (ed_var 0 rfl) (ea_cons (ed_type T.bool (by decide +kernel)) ea_nil)))))) (by first | rfl | (try clear nd; simp_all; done)))))
  | scr x => exact
    (sd_rt (s1_ret (ED.is (ed_and (ed_isi (by exact tn_list) (by exact kit_list_int) T.isinstance (ea_cons (ed_var 0 rfl) (ea_cons (ed_type T.int (by decide +kernel)) ea_nil))) fun h1 => (ed_one (ed_not (ed_isi (by exact tn_list) (by exact kit_list_bool) T.isinstance (ea_cons (ed_var 0 rfl) (ea_cons (ed_type T.bool (by decide +kernel)) ea_nil)))))) (by first | rfl | (try clear nd; simp_all; done)))))
abbrev s_names : Stmt := topS 17
abbrev n_names : List Str := ["_law_cell", "_law_letters", "_law_some", "_law_size", "_law_tail", "_law_k", "_law_word", "_law_place", "_law_words", "_law_j"]
abbrev e_names : Nm := ⟨n_names, defScope s_names, fun _ => true⟩
omit T in
theorem sc_names : FnScope n_names ["_law_cell"] (defScope s_names) := ⟨rfl, rfl, rfl, by decide +kernel, rfl, by decide +kernel, by decide +kernel⟩
def R_names (ds : List D) (d : D) : Prop := ∃ x, ds = [.int x] ∧ d = .lst ((lawNames x).map .str)
theorem b_names {ds : List D} {d : D} (h : R_names ds d) : SD c e_names [defBody s_names] (rho n_names ds) (.ro d) := by
  have nd := sc_names.nd
  obtain ⟨x, rfl, rfl⟩ := h
  have sz : 0 < lawSize x := by have := lawSize_ok x; omega
  have tl := lawTail_len x
  have al : ("abcdefghijklmnopqrstuvwxyz" : Str).length = 26 := by decide +kernel
  have alc : ("abcdefghijklmnopqrstuvwxyz" : Str).cps.toList.length = 26 := by decide +kernel
  exact
    (sd_cons (s1_set 1 ed_str nd)
      (sd_cons (s1_setO 2 (eo_lst ea_nil) nd)
        (sd_cons (s1_set 3 (ed_ixi (EO.ed (eo_lst (ea_cons ed_int (ea_cons ed_int (ea_cons ed_int (ea_cons ed_int (ea_cons ed_int ea_nil))))))) (ed_mod (by decide) (ed_fdiv ⟨by decide, by decide⟩ (ed_var 0 rfl) ed_int) ed_int) (by first | omega | (simp only [rangeD_len, List.length_set, List.length_cons, List.length_nil, List.length_map, List.length_append, List.length_range] <;> omega) | (have h1 := cutL_len ((lawNames1 x).map D.str) none (some 8); have h2 := cutL_len ((lawNames1 x).map D.str) none (some 4); rw [List.length_map, lawNames1_len] at h1 h2; omega))) nd)
          (sd_cons (s1_set 4 (ed_join (by rw [List.map_map, show ("" : Str).length = 0 from by decide +kernel, Nat.mul_zero]; exact (by decide : ((List.range 6).map (fun _ => 1)).sum + 0 ≤ 1000000)) ed_str (EO.ed (eo_comp [("_law_j", 9)] nd (id_range1 T.range (ea_cons ed_int ea_nil)) (comp_rangeS 9 _ nd (h := fun k hk => (ed_ixz sz_one (ed_var 1 rfl) (ed_mod (by decide) (ed_add (ed_add (ed_fdiv ⟨by decide, by decide⟩ (ed_var 0 rfl) ed_int) (ed_mul (.inl ⟨by decide, by decide⟩) ed_int (ed_var 9 rfl))) ed_int) ed_int) (by first | (refine ⟨by omega, ?_⟩; rw [show ∀ s : Str, (s.cps.toList.length : Int) = s.length from fun _ => rfl]; omega) | (constructor <;> simp <;> omega))))) (by first | omega | (simp only [rangeD_len, List.length_set, List.length_cons, List.length_nil, List.length_map, List.length_append, List.length_range] <;> omega) | (have h1 := cutL_len ((lawNames1 x).map D.str) none (some 8); have h2 := cutL_len ((lawNames1 x).map D.str) none (some 4); rw [List.length_map, lawNames1_len] at h1 h2; omega))))) nd)
            (sd_cons (s1_forN 5 12 (fun i => [.va (.int x), .va (.str "abcdefghijklmnopqrstuvwxyz"), .ow (.lst (((List.range i).map (lawWord x)).map .str)), .va (.int (lawSize x)), .va (.str (lawTail x)), .no, .no, .no, .no, .no]) (id_range1 T.range (ea_cons ed_int ea_nil)) rfl nd (by repeat (first | exact trivial | refine And.intro rfl ?_)) (fun _ => by simp) (fun i d hd => by obtain ⟨hi, rfl⟩ := rangeD_inv hd; exact
                (sd_cons (s1_set 6 (ed_ixz sz_one (ed_var 1 rfl) (ed_mod (by decide) (ed_add (ed_fdiv ⟨by decide, by decide⟩ (ed_var 0 rfl) ed_int) (ed_mul (.inl ⟨by decide, by decide⟩) ed_int (ed_var 5 rfl))) ed_int) (by first | (refine ⟨by omega, ?_⟩; rw [show ∀ s : Str, (s.cps.toList.length : Int) = s.length from fun _ => rfl]; omega) | (constructor <;> simp <;> omega))) nd)
                  (sd_cons (s1_if (out := .nx [.va (.int x), .va (.str "abcdefghijklmnopqrstuvwxyz"), .ow (.lst (((List.range i).map (lawWord x)).map .str)), .va (.int (lawSize x)), .va (.str (lawTail x)), .va (.int (0 + (i : Nat))), .va (.str (lawWord x i)), .no, .no, .no]) (et_eq rfl (ed_mod (by decide) (ed_var 0 rfl) ed_int) ed_int) (fun h100 => 
                      (sd_cons (s1_set 7 (ed_mod (by first | omega | (simp only [rangeD_len, List.length_set, List.length_cons, List.length_nil, List.length_map, List.length_append, List.length_range] <;> omega) | (simp <;> omega)) (ed_fdiv ⟨by decide, by decide⟩ (ed_var 0 rfl) ed_int) (ed_var 3 rfl)) nd)
                        (sd_cons (s1_set 6 (ed_addS sz_add (ed_addS sz_add (ed_slS (lo := none) (hi := some _) sz_one (ed_var 4 rfl) trivial (ed_var 7 rfl)) (ed_var 6 rfl)) (ed_slS (lo := some _) (hi := some _) sz_one (ed_var 4 rfl) (ed_add (ed_var 7 rfl) ed_int) (ed_var 3 rfl))) nd)
                          (sd_nil (sd_endw (by
    have a : x % 3 = 1 := by simpa using h100
    rw [lawWord_1 a]; repeat (first | exact trivial | refine And.intro rfl ?_))))))) (fun h100 => 
                      (sd_if (et_eq rfl (ed_mod (by decide) (ed_var 0 rfl) ed_int) ed_int)
                        (fun h101 =>
                          (sd_cons (s1_set 6 (ed_ixz sz_one (ed_var 1 rfl) (ed_mod (by decide) (ed_add (ed_fdiv ⟨by decide, by decide⟩ (ed_var 0 rfl) ed_int) (ed_mul (.inl ⟨by decide, by decide⟩) ed_int (ed_fdiv ⟨by decide, by decide⟩ (ed_var 5 rfl) ed_int))) ed_int) (by first | (refine ⟨by omega, ?_⟩; rw [show ∀ s : Str, (s.cps.toList.length : Int) = s.length from fun _ => rfl]; omega) | (constructor <;> simp <;> omega))) nd)
                            (sd_cons (s1_set 6 (ed_addS sz_add (ed_var 6 rfl) (ed_slS (lo := none) (hi := some _) sz_one (ed_addS sz_add ed_str (ed_var 4 rfl)) trivial (ed_add (ed_mod (by decide) (ed_var 5 rfl) ed_int) (ed_mod (by decide) (ed_fdiv ⟨by decide, by decide⟩ (ed_var 0 rfl) ed_int) ed_int)))) nd)
                              (sd_nil
                                (sd_nil (sd_endw (by
    have a : ¬ x % 3 = 1 := by simpa using h100
    have b : x % 3 = 2 := by simpa using h101
    rw [lawWord_2 a b]; repeat (first | exact trivial | refine And.intro rfl ?_))))))))
                        (fun h101 =>
                          (sd_if (et_gt (ed_mod (by decide) (ed_add (ed_fdiv ⟨by decide, by decide⟩ (ed_var 0 rfl) ed_int) (ed_var 5 rfl)) ed_int) ed_int)
                            (fun h102 =>
                              (sd_cons (s1_set 6 (ed_addS sz_add (ed_var 6 rfl) (ed_strI (log_small (by omega)) T.str (ea_cons (ed_mod (by decide) (ed_add (ed_var 0 rfl) (ed_var 5 rfl)) ed_int) ea_nil))) nd)
                                (sd_cons (s1_set 6 (ed_addS sz_add (ed_var 6 rfl) (ed_slS (lo := none) (hi := some _) sz_one (ed_var 4 rfl) trivial (ed_sub (ed_mod (by decide) (ed_add (ed_fdiv ⟨by decide, by decide⟩ (ed_var 0 rfl) ed_int) (ed_var 5 rfl)) ed_int) ed_int))) nd)
                                  (sd_nil
                                    (sd_nil
                                      (sd_nil (sd_endw (by
    have a : ¬ x % 3 = 1 := by simpa using h100
    have b : ¬ x % 3 = 2 := by simpa using h101
    rw [lawWord_3 a b i (of_decide_eq_true h102)]; repeat (first | exact trivial | refine And.intro rfl ?_)))))))))
                            (fun h102 =>
                              (sd_nil
                                (sd_nil
                                  (sd_nil (sd_endw (by
    have a : ¬ x % 3 = 1 := by simpa using h100
    have b : ¬ x % 3 = 2 := by simpa using h101
    rw [lawWord_4 a b i (of_decide_eq_false h102)]; repeat (first | exact trivial | refine And.intro rfl ?_))))))))))))
                    (sd_cons (s1_app 2 rfl (ed_var 6 rfl) (by first | omega | (simp only [rangeD_len, List.length_set, List.length_cons, List.length_nil, List.length_map, List.length_append, List.length_range] <;> omega) | (have h1 := cutL_len ((lawNames1 x).map D.str) none (some 8); have h2 := cutL_len ((lawNames1 x).map D.str) none (some 4); rw [List.length_map, lawNames1_len] at h1 h2; omega)) (fun _ _ _ h1 h2 => pe_bm PySem.F.plainAttrs_list PySem.F.slot_list_append PySem.F.type_list_append mt_append h1 h2))
                      (sd_nil (sd_endw (by rw [up_succ]; repeat (first | exact trivial | refine And.intro rfl ?_)))))))))
              (sd_cons (s1_if (out := .nx [.va (.int x), .no, .ow (.lst ((lawNames1 x).map .str)), .no, .no, .no, .no, .no, .no, .no]) (et_eq rfl (ed_mod (by decide) (ed_var 0 rfl) ed_int) ed_int) (fun h103 => 
                  (sd_cons (s1_set 8 (EO.ed (eo_lst (ea_cons ed_str (ea_cons ed_str (ea_cons ed_str (ea_cons ed_str (ea_cons ed_str (ea_cons ed_str (ea_cons ed_str (ea_cons ed_str (ea_cons ed_str (ea_cons ed_str ea_nil)))))))))))) nd)
                    (sd_if (et_borrow 2 rfl (et_notIn (.lst _) rfl flatS (by rfl) (ed_ixs (ed_var 8 rfl) (ed_mod (by decide) (ed_fdiv ⟨by decide, by decide⟩ (ed_var 0 rfl) ed_int) ed_int) (by first | omega | (simp only [rangeD_len, List.length_set, List.length_cons, List.length_nil, List.length_map, List.length_append, List.length_range] <;> omega) | (have h1 := cutL_len ((lawNames1 x).map D.str) none (some 8); have h2 := cutL_len ((lawNames1 x).map D.str) none (some 4); rw [List.length_map, lawNames1_len] at h1 h2; omega))) (ed_var 2 rfl)))
                      (fun h104 =>
                        (sd_cons (s1_setix 2 rfl (ed_ixs (ed_var 8 rfl) (ed_mod (by decide) (ed_fdiv ⟨by decide, by decide⟩ (ed_var 0 rfl) ed_int) ed_int) (by first | omega | (simp only [rangeD_len, List.length_set, List.length_cons, List.length_nil, List.length_map, List.length_append, List.length_range] <;> omega) | (have h1 := cutL_len ((lawNames1 x).map D.str) none (some 8); have h2 := cutL_len ((lawNames1 x).map D.str) none (some 4); rw [List.length_map, lawNames1_len] at h1 h2; omega))) (ed_mod (by decide) (ed_fdiv ⟨by decide, by decide⟩ (ed_var 0 rfl) ed_int) ed_int) (by first | omega | (simp only [rangeD_len, List.length_set, List.length_cons, List.length_nil, List.length_map, List.length_append, List.length_range] <;> omega) | (have h1 := cutL_len ((lawNames1 x).map D.str) none (some 8); have h2 := cutL_len ((lawNames1 x).map D.str) none (some 4); rw [List.length_map, lawNames1_len] at h1 h2; omega)) (fun _ _ _ _ h1 h2 h3 => ps_asg h3 (pg_sub h1 h2 set_list)))
                          (sd_nil
                            (sd_nil (sd_endw (by
    have a : x % 5 = 3 := by simpa using h103
    rw [inD_strs] at h104
    rw [lawNames1_pos a (not_dec h104), List.map_set]; repeat (first | exact trivial | refine And.intro rfl ?_)))))))
                      (fun h104 =>
                        (sd_nil
                          (sd_nil (sd_endw (by
    have a : x % 5 = 3 := by simpa using h103
    rw [inD_strs] at h104
    rw [lawNames1_neg (fun z => z.2 (not_dec' h104))]; repeat (first | exact trivial | refine And.intro rfl ?_))))))))) (fun h103 => 
                  (sd_nil (sd_endw (by
    have a : ¬ x % 5 = 3 := by simpa using h103
    rw [lawNames1_neg (fun z => a z.1)]; repeat (first | exact trivial | refine And.intro rfl ?_))))))
                (sd_if (et_eq rfl (ed_mod (by decide) (ed_var 0 rfl) ed_int) ed_int)
                  (fun h105 =>
                    (sd_freeze 2 rfl
                    (sd_cons (s1_setO 2 (eo_cat (by first | omega | (simp only [rangeD_len, List.length_set, List.length_cons, List.length_nil, List.length_map, List.length_append, List.length_range] <;> omega) | (have h1 := cutL_len ((lawNames1 x).map D.str) none (some 8); have h2 := cutL_len ((lawNames1 x).map D.str) none (some 4); rw [List.length_map, lawNames1_len] at h1 h2; omega)) (EO.ed (eo_slL (lo := none) (hi := some _) (ed_var 2 rfl) trivial ed_int)) (EO.ed (eo_slL (lo := none) (hi := some _) (ed_var 2 rfl) trivial ed_int))) nd)
                      (sd_nil
                        (SD.isO (sd_ro (s1_retW (i := 2) rfl)) (by
    have a : x % 7 = 2 := by simpa using h105
    rw [cutL_map, cutL_map, ← List.map_append]; unfold lawNames; rw [if_pos a]))))))
                  (fun h105 =>
                    (sd_nil
                      (SD.isO (sd_ro (s1_retW (i := 2) rfl)) (by
    have a : ¬ x % 7 = 2 := by simpa using h105
    unfold lawNames; rw [if_neg a])))))))))))
abbrev s_thing : Stmt := topS 18
abbrev n_thing : List Str := ["_law_number", "_law_own", "_law_names_here", "_law_name", "_law_some"]
abbrev e_thing : Nm := ⟨n_thing, defScope s_thing, fun _ => true⟩
omit T in
theorem sc_thing : FnScope n_thing ["_law_number", "_law_own", "_law_names_here"] (defScope s_thing) := ⟨rfl, rfl, rfl, by decide +kernel, rfl, by decide +kernel, by decide +kernel⟩
def R_thing (ds : List D) (d : D) : Prop := ∃ n own names, ds = [.int n, .str own, .lst (names.map .str)] ∧ names.length = 12 ∧ d = (lawThing n own names).d
theorem b_thing {ds : List D} {d : D} (h : R_thing ds d) : BodyD c e_thing s_thing (rho n_thing ds) d := by
  have nd := sc_thing.nd
  obtain ⟨n, own, names, rfl, hn, rfl⟩ := h
  left
  exact
    (sd_cons (s1_set 3 (ed_ixs (ed_var 2 rfl) (ed_mod (by decide) (ed_fdiv ⟨by decide, by decide⟩ (ed_var 0 rfl) ed_int) ed_int) (by first | omega | (simp only [rangeD_len, List.length_set, List.length_cons, List.length_nil, List.length_map, List.length_append, List.length_range] <;> omega) | (simp <;> omega))) nd)
      (sd_if (EP'.et (ep_and (et_eq rfl (ed_mod (by decide) (ed_var 0 rfl) ed_int) ed_int) fun h1 => (ep_and1 (et_ne rfl (ed_var 3 rfl) (ed_var 1 rfl)))))
        (fun h100 =>
          (sd_rt (s1_ret (ED.is (ed_var 3 rfl) (by unfold lawThing; simp at h100; rw [if_pos ⟨h100.1, h100.2⟩]; rfl)))))
        (fun h100 =>
          (sd_nil
            (sd_cons (s1_set 4 (EO.ed (eo_lst (ea_cons (ed_mod (by decide) (ed_fdiv ⟨by decide, by decide⟩ (ed_var 0 rfl) ed_int) ed_int) (ea_cons (ed_mod (by decide) (ed_fdiv ⟨by decide, by decide⟩ (ed_var 0 rfl) ed_int) ed_int) (ea_cons (ed_mod (by decide) (ed_fdiv ⟨by decide, by decide⟩ (ed_var 0 rfl) ed_int) ed_int) (ea_cons (ed_sub ed_int (ed_mod (by decide) (ed_fdiv ⟨by decide, by decide⟩ (ed_var 0 rfl) ed_int) ed_int)) ea_nil)))))) nd)
              (sd_rt (s1_ret (ED.is (ed_ixi (ed_var 4 rfl) (ed_mod (by decide) (ed_fdiv ⟨by decide, by decide⟩ (ed_var 0 rfl) ed_int) ed_int) (by first | omega | (simp only [rangeD_len, List.length_set, List.length_cons, List.length_nil, List.length_map, List.length_append, List.length_range] <;> omega) | (simp <;> omega))) (by unfold lawThing; simp at h100; rw [if_neg (fun z => z.2 (h100 z.1))]; rfl)))))))))
abbrev s_sum : Stmt := topS 19
abbrev n_sum : List Str := ["_law_number", "_law_own", "_law_names_here", "_law_one"]
abbrev e_sum : Nm := ⟨n_sum, defScope s_sum, fun _ => true⟩
omit T in
theorem sc_sum : FnScope n_sum ["_law_number", "_law_own", "_law_names_here"] (defScope s_sum) := ⟨rfl, rfl, rfl, by decide +kernel, rfl, by decide +kernel, by decide +kernel⟩
def R_sum (ds : List D) (d : D) : Prop := ∃ n own names, ds = [.int n, .str own, .lst (names.map .str)] ∧ names.length = 12 ∧ d = (lawSum n own names).d
theorem b_sum {ds : List D} {d : D} (C__law_thing : Call c 1 "_law_thing" (spP c.K R_thing)) (hk : 1 ≤ c.k) (h : R_sum ds d) : BodyD c e_sum s_sum (rho n_sum ds) d := by
  have nd := sc_sum.nd
  obtain ⟨n, own, names, rfl, hn, rfl⟩ := h
  left
  exact
    (sd_cons (s1_set 3 (ed_call C__law_thing (by omega) (⟨_, _, _, rfl, hn, rfl⟩) (ea_cons (ed_fdiv ⟨by decide, by decide⟩ (ed_var 0 rfl) ed_int) (ea_cons (ed_var 1 rfl) (ea_cons (ed_var 2 rfl) ea_nil)))) nd)
      (sd_if (et_eq rfl (ed_mod (by decide) (ed_var 0 rfl) ed_int) ed_int)
        (fun h100 =>
          (sd_rt (s1_ret (ED.is (ed_tup (ea_cons (ed_var 3 rfl) ea_nil)) (by unfold lawSum; simp at h100; rw [if_pos h100]; rfl)))))
        (fun h100 =>
          (sd_nil
            (sd_rt (s1_ret (ED.is (ed_tup (ea_cons (ed_ixs (EO.ed (eo_lst (ea_cons ed_str (ea_cons ed_str (ea_cons ed_str (ea_cons ed_str (ea_cons ed_str (ea_cons ed_str (ea_cons ed_str ea_nil))))))))) (ed_sub (ed_mod (by decide) (ed_var 0 rfl) ed_int) ed_int) (by simp at h100; simp; omega)) (ea_cons (ed_var 3 rfl) (ea_cons (ed_call C__law_thing (by omega) (⟨_, _, _, rfl, hn, rfl⟩) (ea_cons (ed_fdiv ⟨by decide, by decide⟩ (ed_var 0 rfl) ed_int) (ea_cons (ed_var 1 rfl) (ea_cons (ed_var 2 rfl) ea_nil)))) ea_nil)))) (by unfold lawSum; simp at h100; rw [if_neg h100, sg_at (n % 8 - 1).toNat (by omega)]; rfl))))))))
abbrev s_question : Stmt := topS 20
abbrev n_question : List Str := ["_law_number", "_law_names_here", "_law_one"]
abbrev e_question : Nm := ⟨n_question, defScope s_question, fun _ => true⟩
omit T in
theorem sc_question : FnScope n_question ["_law_number", "_law_names_here"] (defScope s_question) := ⟨rfl, rfl, rfl, by decide +kernel, rfl, by decide +kernel, by decide +kernel⟩
def R_question (ds : List D) (d : D) : Prop := ∃ n names, ds = [.int n, .lst (names.map .str)] ∧ names.length = 12 ∧ d = (lawQuestion n names).d
theorem b_question {ds : List D} {d : D} (C__law_thing : Call c 1 "_law_thing" (spP c.K R_thing)) (hk : 1 ≤ c.k) (h : R_question ds d) : BodyD c e_question s_question (rho n_question ds) d := by
  have nd := sc_question.nd
  obtain ⟨n, names, rfl, hn, rfl⟩ := h
  left
  exact
    (sd_cons (s1_set 2 (ed_call C__law_thing (by omega) (⟨_, _, _, rfl, hn, rfl⟩) (ea_cons (ed_fdiv ⟨by decide, by decide⟩ (ed_var 0 rfl) ed_int) (ea_cons ed_str (ea_cons (ed_var 1 rfl) ea_nil)))) nd)
      (sd_rt (s1_ret (ED.is (ed_tup (ea_cons (ed_ixs (EO.ed (eo_lst (ea_cons ed_str (ea_cons ed_str (ea_cons ed_str (ea_cons ed_str ea_nil)))))) (ed_mod (by decide) (ed_var 0 rfl) ed_int) (by first | omega | (simp only [rangeD_len, List.length_set, List.length_cons, List.length_nil, List.length_map, List.length_append, List.length_range] <;> omega) | (simp <;> omega))) (ea_cons (ed_var 2 rfl) (ea_cons (ed_call C__law_thing (by omega) (⟨_, _, _, rfl, hn, rfl⟩) (ea_cons (ed_fdiv ⟨by decide, by decide⟩ (ed_var 0 rfl) ed_int) (ea_cons ed_str (ea_cons (ed_var 1 rfl) ea_nil)))) ea_nil)))) (by rw [ak_at (n % 4).toNat (by omega)]; rfl)))))
abbrev s_boxes : Stmt := topS 21
abbrev n_boxes : List Str := ["_law_cell", "_law_names_here", "_law_found", "_law_k", "_law_number", "_law_more"]
abbrev e_boxes : Nm := ⟨n_boxes, defScope s_boxes, fun _ => true⟩
omit T in
theorem sc_boxes : FnScope n_boxes ["_law_cell", "_law_names_here"] (defScope s_boxes) := ⟨rfl, rfl, rfl, by decide +kernel, rfl, by decide +kernel, by decide +kernel⟩
def R_boxes (ds : List D) (d : D) : Prop := ∃ x names, ds = [.int x, .lst (names.map .str)] ∧ names.length = 12 ∧ d = .dic (bxD (lawBoxes x names))
theorem b_boxes {ds : List D} {d : D} (C__law_mixed : Call c 1 "_law_mixed" (spP c.K R_mixed)) (hk : 1 ≤ c.k) (h : R_boxes ds d) : SD c e_boxes [defBody s_boxes] (rho n_boxes ds) (.ro d) := by
  have nd := sc_boxes.nd
  obtain ⟨x, names, rfl, hn, rfl⟩ := h
  exact
    (sd_cons (s1_setO 2 eo_dic nd)
      (sd_cons (s1_forN 3 6 (fun i => [.va (.int x), .va (.lst (names.map .str)), .ow (.dic (bxD (lawBoxN x names i))), .no, .no, .no]) (id_range1 T.range (ea_cons ed_int ea_nil)) rfl nd (by repeat (first | exact trivial | refine And.intro rfl ?_)) (fun _ => by simp) (fun i d hd => by obtain ⟨hi, rfl⟩ := rangeD_inv hd; have hl := lawBoxN_len x names i; exact
          (sd_cons (s1_set 4 (ed_call C__law_mixed (by omega) (⟨_, _, rfl, rfl⟩) (ea_cons (ed_var 0 rfl) (ea_cons (ed_mul (.inl ⟨by decide, by decide⟩) ed_int (ed_var 3 rfl)) ea_nil))) nd)
            (sd_if (et_gt (ed_mod (by decide) (ed_var 4 rfl) ed_int) ed_int)
              (fun h100 =>
                (sd_cons (s1_set 5 (ed_fdiv ⟨by decide, by decide⟩ (ed_var 4 rfl) ed_int) nd)
                  (sd_cons (s1_dput 2 rfl (ed_ixi (EO.ed (eo_lst (ea_cons (ed_mod (by decide) (ed_var 5 rfl) ed_int) (ea_cons (ed_mod (by decide) (ed_var 5 rfl) ed_int) (ea_cons (ed_mod (by decide) (ed_var 5 rfl) ed_int) (ea_cons (ed_mod (by decide) (ed_var 5 rfl) ed_int) ea_nil)))))) (ed_mod (by decide) (ed_var 4 rfl) ed_int) (by first | omega | (simp only [rangeD_len, List.length_set, List.length_cons, List.length_nil, List.length_map, List.length_append, List.length_range] <;> omega) | (simp <;> omega))) (ed_ixs (ed_var 1 rfl) (ed_var 3 rfl) (by first | omega | (simp only [rangeD_len, List.length_set, List.length_cons, List.length_nil, List.length_map, List.length_append, List.length_range] <;> omega) | (simp <;> omega))) (by have : (bxD (lawBoxN x names i)).length = (lawBoxN x names i).length := (by unfold bxD; rw [List.length_map]); omega))
                    (sd_nil
                      (sd_nil (sd_endw (by
    rw [lawBoxN_pos (of_decide_eq_true h100), ← putD_bx]; repeat (first | exact trivial | refine And.intro rfl ?_))))))))
              (fun h100 =>
                (sd_nil
                  (sd_nil (sd_endw (by
    rw [lawBoxN_neg (of_decide_eq_false h100)]; repeat (first | exact trivial | refine And.intro rfl ?_))))))))))
        (SD.isO (sd_ro (s1_retW (i := 2) rfl)) (by rfl))))
abbrev s_value : Stmt := topS 9
abbrev n_value : List Str := ["thing", "boxes"]
abbrev e_value : Nm := ⟨n_value, defScope s_value, fun _ => true⟩
omit T in
theorem sc_value : FnScope n_value ["thing", "boxes"] (defScope s_value) := ⟨rfl, rfl, rfl, by decide +kernel, rfl, by decide +kernel, by decide +kernel⟩
def R_value (ds : List D) (d : D) : Prop := ∃ t bx, ds = [Th.d t, .dic (bxD bx)] ∧ d = .int (t.val bx)
theorem b_value {ds : List D} {d : D} (h : R_value ds d) : BodyD c e_value s_value (rho n_value ds) d := by
  have nd := sc_value.nd
  obtain ⟨t, bx, rfl, rfl⟩ := h
  left
  cases t with
  | num i => exact
    (sd_if (et_val (ed_isi (by exact tn_int) (by exact kit_int_str) T.isinstance (ea_cons (ed_var 0 rfl) (ea_cons (ed_type T.str (by decide +kernel)) ea_nil))))
      (fun h100 =>(absurd h100 (by decide)))
      (fun h100 =>
        (sd_nil
          (sd_rt (s1_ret (ED.is (ed_var 0 rfl) (by first | rfl | (try clear nd; simp_all; done))))))))
  | box x => exact
    (sd_if (et_val (ed_isi (by exact tn_str) (by exact kit_str_str) T.isinstance (ea_cons (ed_var 0 rfl) (ea_cons (ed_type T.str (by decide +kernel)) ea_nil))))
      (fun h100 =>
        (sd_rt (s1_ret (ED.is (ed_get (ed_var 1 rfl) (ed_var 0 rfl) ed_int) (by rw [getD_bx]; rfl)))))
      (fun h100 =>(absurd h100 (by decide))))
abbrev s_holds : Stmt := topS 10
abbrev n_holds : List Str := ["sign", "one", "other"]
abbrev e_holds : Nm := ⟨n_holds, defScope s_holds, fun _ => true⟩
omit T in
theorem sc_holds : FnScope n_holds ["sign", "one", "other"] (defScope s_holds) := ⟨rfl, rfl, rfl, by decide +kernel, rfl, by decide +kernel, by decide +kernel⟩
def R_holds (ds : List D) (d : D) : Prop := ∃ s i j, ds = [.str (Ak.str s), .int i, .int j] ∧ d = .bl (s.holds i j)
theorem b_holds {ds : List D} {d : D} (h : R_holds ds d) : BodyD c e_holds s_holds (rho n_holds ds) d := by
  have nd := sc_holds.nd
  obtain ⟨s, i, j, rfl, rfl⟩ := h
  left
  cases s with
  | lt => exact
    (sd_if (et_eq rfl (ed_var 0 rfl) ed_str)
      (fun h100 =>
        (sd_rt (s1_ret (ED.is (ed_lt (ed_var 1 rfl) (ed_var 2 rfl)) (by rfl)))))
      (fun h100 =>(absurd h100 (by decide +kernel))))
  | eq => exact
    (sd_if (et_eq rfl (ed_var 0 rfl) ed_str)
      (fun h100 =>(absurd h100 (by decide +kernel)))
      (fun h100 =>
        (sd_nil
          (sd_if (et_eq rfl (ed_var 0 rfl) ed_str)
            (fun h101 =>(absurd h101 (by decide +kernel)))
            (fun h101 =>
              (sd_nil
                (sd_if (et_eq rfl (ed_var 0 rfl) ed_str)
                  (fun h102 =>
                    (sd_rt (s1_ret (ED.is (ed_eq rfl (ed_var 1 rfl) (ed_var 2 rfl)) (by rw [eqS_int]; rfl)))))
                  (fun h102 =>(absurd h102 (by decide +kernel))))))))))
  | ge => exact
    (sd_if (et_eq rfl (ed_var 0 rfl) ed_str)
      (fun h100 =>(absurd h100 (by decide +kernel)))
      (fun h100 =>
        (sd_nil
          (sd_if (et_eq rfl (ed_var 0 rfl) ed_str)
            (fun h101 =>
              (sd_rt (s1_ret (ED.is (ed_ge (ed_var 1 rfl) (ed_var 2 rfl)) (by rfl)))))
            (fun h101 =>(absurd h101 (by decide +kernel)))))))
  | ne => exact
    (sd_if (et_eq rfl (ed_var 0 rfl) ed_str)
      (fun h100 =>(absurd h100 (by decide +kernel)))
      (fun h100 =>
        (sd_nil
          (sd_if (et_eq rfl (ed_var 0 rfl) ed_str)
            (fun h101 =>(absurd h101 (by decide +kernel)))
            (fun h101 =>
              (sd_nil
                (sd_if (et_eq rfl (ed_var 0 rfl) ed_str)
                  (fun h102 =>(absurd h102 (by decide +kernel)))
                  (fun h102 =>
                    (sd_nil
                      (sd_rt (s1_ret (ED.is (ed_ne rfl (ed_var 1 rfl) (ed_var 2 rfl)) (by rw [eqS_int]; rfl)))))))))))))
abbrev s_asked : Stmt := topS 11
abbrev n_asked : List Str := ["question", "boxes"]
abbrev e_asked : Nm := ⟨n_asked, defScope s_asked, fun _ => true⟩
omit T in
theorem sc_asked : FnScope n_asked ["question", "boxes"] (defScope s_asked) := ⟨rfl, rfl, rfl, by decide +kernel, rfl, by decide +kernel, by decide +kernel⟩
def R_asked (ds : List D) (d : D) : Prop := ∃ q bx, ds = [Qn.d q, .dic (bxD bx)] ∧ d = .bl (q.asked bx)
theorem b_asked {ds : List D} {d : D} (C_value : Call c 1 "value" (spP c.K R_value)) (C_holds : Call c 1 "holds" (spP c.K R_holds)) (hk : 1 ≤ c.k) (h : R_asked ds d) : BodyD c e_asked s_asked (rho n_asked ds) d := by
  have nd := sc_asked.nd
  obtain ⟨q, bx, rfl, rfl⟩ := h
  left
  exact
    (sd_rt (s1_ret (ED.is (ed_call C_holds (by omega) (⟨_, _, _, rfl, rfl⟩) (ea_cons (ed_ixT rfl (ed_var 0 rfl) ed_int) (ea_cons (ed_call C_value (by omega) (⟨_, _, rfl, rfl⟩) (ea_cons (ed_ixT rfl (ed_var 0 rfl) ed_int) (ea_cons (ed_var 1 rfl) ea_nil))) (ea_cons (ed_call C_value (by omega) (⟨_, _, rfl, rfl⟩) (ea_cons (ed_ixT rfl (ed_var 0 rfl) ed_int) (ea_cons (ed_var 1 rfl) ea_nil))) ea_nil)))) (by first | rfl | (try clear nd; simp_all; done)))))
abbrev s_reckoned : Stmt := topS 12
abbrev n_reckoned : List Str := ["made", "boxes", "one", "other"]
abbrev e_reckoned : Nm := ⟨n_reckoned, defScope s_reckoned, fun _ => true⟩
omit T in
theorem sc_reckoned : FnScope n_reckoned ["made", "boxes"] (defScope s_reckoned) := ⟨rfl, rfl, rfl, by decide +kernel, rfl, by decide +kernel, by decide +kernel⟩
def R_reckoned (ds : List D) (d : D) : Prop := ∃ m bx, ds = [Sm.d m, .dic (bxD bx)] ∧ m.ok ∧ BxOk bx ∧ d = .int (m.reck bx)
theorem b_reckoned {ds : List D} {d : D} (C_value : Call c 1 "value" (spP c.K R_value)) (C_asked : Call c 2 "asked" (spP c.K R_asked)) (hk : 2 ≤ c.k) (h : R_reckoned ds d) : BodyD c e_reckoned s_reckoned (rho n_reckoned ds) d := by
  have nd := sc_reckoned.nd
  obtain ⟨m, bx, rfl, hm, hb, rfl⟩ := h
  left
  cases m with
  | one a => exact
    (sd_if (et_eq rfl (ed_len (.tup _) T.len (ea_cons (ed_var 0 rfl) ea_nil)) ed_int)
      (fun h100 =>
        (sd_rt (s1_ret (ED.is (ed_call C_value (by omega) (⟨_, _, rfl, rfl⟩) (ea_cons (ed_ixT rfl (ed_var 0 rfl) ed_int) (ea_cons (ed_var 1 rfl) ea_nil))) (by first | rfl | (try clear nd; simp_all; done))))))
      (fun h100 =>(absurd h100 (by simp))))
  | op s a b =>
    have va := Th.val_ok hb hm.1
    have vb := Th.val_ok hb hm.2
    cases s with
    | plus => exact
    (sd_if (et_eq rfl (ed_len (.tup _) T.len (ea_cons (ed_var 0 rfl) ea_nil)) ed_int)
      (fun h100 =>(absurd h100 (by simp)))
      (fun h100 =>
        (sd_nil
          (sd_if (et_in (.tup _) rfl flatS (by rfl) (ed_ixT rfl (ed_var 0 rfl) ed_int) (T.c_ASKING (by decide +kernel)))
            (fun h101 =>(absurd h101 (by decide +kernel)))
            (fun h101 =>
              (sd_nil
                (sd_cons (s1_set 2 (ed_call C_value (by omega) (⟨_, _, rfl, rfl⟩) (ea_cons (ed_ixT rfl (ed_var 0 rfl) ed_int) (ea_cons (ed_var 1 rfl) ea_nil))) nd)
                  (sd_cons (s1_set 3 (ed_call C_value (by omega) (⟨_, _, rfl, rfl⟩) (ea_cons (ed_ixT rfl (ed_var 0 rfl) ed_int) (ea_cons (ed_var 1 rfl) ea_nil))) nd)
                    (sd_if (et_eq rfl (ed_ixT rfl (ed_var 0 rfl) ed_int) ed_str)
                      (fun h102 =>
                        (sd_rt (s1_ret (ED.is (ed_mod (by first | omega | (simp only [rangeD_len, List.length_set, List.length_cons, List.length_nil, List.length_map, List.length_append, List.length_range] <;> omega) | (simp <;> omega)) (ed_add (ed_var 2 rfl) (ed_var 3 rfl)) (T.c_BOUND (by decide +kernel))) (by first | rfl | (try clear nd; simp_all; done))))))
                      (fun h102 =>(absurd h102 (by decide +kernel))))))))))))
    | minus => exact
    (sd_if (et_eq rfl (ed_len (.tup _) T.len (ea_cons (ed_var 0 rfl) ea_nil)) ed_int)
      (fun h100 =>(absurd h100 (by simp)))
      (fun h100 =>
        (sd_nil
          (sd_if (et_in (.tup _) rfl flatS (by rfl) (ed_ixT rfl (ed_var 0 rfl) ed_int) (T.c_ASKING (by decide +kernel)))
            (fun h101 =>(absurd h101 (by decide +kernel)))
            (fun h101 =>
              (sd_nil
                (sd_cons (s1_set 2 (ed_call C_value (by omega) (⟨_, _, rfl, rfl⟩) (ea_cons (ed_ixT rfl (ed_var 0 rfl) ed_int) (ea_cons (ed_var 1 rfl) ea_nil))) nd)
                  (sd_cons (s1_set 3 (ed_call C_value (by omega) (⟨_, _, rfl, rfl⟩) (ea_cons (ed_ixT rfl (ed_var 0 rfl) ed_int) (ea_cons (ed_var 1 rfl) ea_nil))) nd)
                    (sd_if (et_eq rfl (ed_ixT rfl (ed_var 0 rfl) ed_int) ed_str)
                      (fun h102 =>(absurd h102 (by decide +kernel)))
                      (fun h102 =>
                        (sd_nil
                          (sd_if (et_eq rfl (ed_ixT rfl (ed_var 0 rfl) ed_int) ed_str)
                            (fun h103 =>
                              (sd_rt (s1_ret (ED.is (ed_mod (by first | omega | (simp only [rangeD_len, List.length_set, List.length_cons, List.length_nil, List.length_map, List.length_append, List.length_range] <;> omega) | (simp <;> omega)) (ed_sub (ed_var 2 rfl) (ed_var 3 rfl)) (T.c_BOUND (by decide +kernel))) (by first | rfl | (try clear nd; simp_all; done))))))
                            (fun h103 =>(absurd h103 (by decide +kernel)))))))))))))))
    | times => exact
    (sd_if (et_eq rfl (ed_len (.tup _) T.len (ea_cons (ed_var 0 rfl) ea_nil)) ed_int)
      (fun h100 =>(absurd h100 (by simp)))
      (fun h100 =>
        (sd_nil
          (sd_if (et_in (.tup _) rfl flatS (by rfl) (ed_ixT rfl (ed_var 0 rfl) ed_int) (T.c_ASKING (by decide +kernel)))
            (fun h101 =>(absurd h101 (by decide +kernel)))
            (fun h101 =>
              (sd_nil
                (sd_cons (s1_set 2 (ed_call C_value (by omega) (⟨_, _, rfl, rfl⟩) (ea_cons (ed_ixT rfl (ed_var 0 rfl) ed_int) (ea_cons (ed_var 1 rfl) ea_nil))) nd)
                  (sd_cons (s1_set 3 (ed_call C_value (by omega) (⟨_, _, rfl, rfl⟩) (ea_cons (ed_ixT rfl (ed_var 0 rfl) ed_int) (ea_cons (ed_var 1 rfl) ea_nil))) nd)
                    (sd_if (et_eq rfl (ed_ixT rfl (ed_var 0 rfl) ed_int) ed_str)
                      (fun h102 =>(absurd h102 (by decide +kernel)))
                      (fun h102 =>
                        (sd_nil
                          (sd_if (et_eq rfl (ed_ixT rfl (ed_var 0 rfl) ed_int) ed_str)
                            (fun h103 =>(absurd h103 (by decide +kernel)))
                            (fun h103 =>
                              (sd_nil
                                (sd_rt (s1_ret (ED.is (ed_mod (by first | omega | (simp only [rangeD_len, List.length_set, List.length_cons, List.length_nil, List.length_map, List.length_append, List.length_range] <;> omega) | (simp <;> omega)) (ed_mul (.inl ⟨by omega, by omega⟩) (ed_var 2 rfl) (ed_var 3 rfl)) (T.c_BOUND (by decide +kernel))) (by first | rfl | (try clear nd; simp_all; done)))))))))))))))))))
    | ask s => exact
    (sd_if (et_eq rfl (ed_len (.tup _) T.len (ea_cons (ed_var 0 rfl) ea_nil)) ed_int)
      (fun h100 =>(absurd h100 (by simp)))
      (fun h100 =>
        (sd_nil
          (sd_if (et_in (.tup _) rfl flatS (by rfl) (ed_ixT rfl (ed_var 0 rfl) ed_int) (T.c_ASKING (by decide +kernel)))
            (fun h101 =>
              (sd_rt (s1_ret (ED.is (ed_intB T.int (ea_cons (ed_call C_asked (by omega) (⟨⟨s, a, b⟩, _, rfl, rfl⟩) (ea_cons (ed_var 0 rfl) (ea_cons (ed_var 1 rfl) ea_nil))) ea_nil)) (by first | rfl | (try clear nd; simp_all; done))))))
            (fun h101 =>(absurd h101 (by cases s <;> decide +kernel)))))))
abbrev s_lvalue : Stmt := topS 24
abbrev n_lvalue : List Str := ["_law_thing_here", "_law_boxes_here"]
abbrev e_lvalue : Nm := ⟨n_lvalue, defScope s_lvalue, fun _ => true⟩
omit T in
theorem sc_lvalue : FnScope n_lvalue ["_law_thing_here", "_law_boxes_here"] (defScope s_lvalue) := ⟨rfl, rfl, rfl, by decide +kernel, rfl, by decide +kernel, by decide +kernel⟩
def R_lvalue (ds : List D) (d : D) : Prop := ∃ t bx, ds = [Th.d t, .dic (bxD bx)] ∧ d = .int (t.val bx)
theorem b_lvalue {ds : List D} {d : D} (h : R_lvalue ds d) : BodyD c e_lvalue s_lvalue (rho n_lvalue ds) d := by
  have nd := sc_lvalue.nd
  obtain ⟨t, bx, rfl, rfl⟩ := h
  left
  cases t with
  | num i => exact
    (sd_if (et_val (ed_isi (by exact tn_int) (by exact kit_int_str) T.isinstance (ea_cons (ed_var 0 rfl) (ea_cons (ed_type T.str (by decide +kernel)) ea_nil))))
      (fun h100 =>(absurd h100 (by decide)))
      (fun h100 =>
        (sd_nil
          (sd_rt (s1_ret (ED.is (ed_var 0 rfl) (by first | rfl | (try clear nd; simp_all; done))))))))
  | box x => exact
    (sd_if (et_val (ed_isi (by exact tn_str) (by exact kit_str_str) T.isinstance (ea_cons (ed_var 0 rfl) (ea_cons (ed_type T.str (by decide +kernel)) ea_nil))))
      (fun h100 =>
        (sd_rt (s1_ret (ED.is (ed_get (ed_var 1 rfl) (ed_var 0 rfl) ed_int) (by rw [getD_bx]; rfl)))))
      (fun h100 =>(absurd h100 (by decide))))
abbrev s_ltrue : Stmt := topS 25
abbrev n_ltrue : List Str := ["_law_question_here", "_law_boxes_here", "_law_one", "_law_other"]
abbrev e_ltrue : Nm := ⟨n_ltrue, defScope s_ltrue, fun _ => true⟩
omit T in
theorem sc_ltrue : FnScope n_ltrue ["_law_question_here", "_law_boxes_here"] (defScope s_ltrue) := ⟨rfl, rfl, rfl, by decide +kernel, rfl, by decide +kernel, by decide +kernel⟩
def R_ltrue (ds : List D) (d : D) : Prop := ∃ q bx, ds = [Qn.d q, .dic (bxD bx)] ∧ d = .bl (q.asked bx)
theorem b_ltrue {ds : List D} {d : D} (C__law_value : Call c 1 "_law_value" (spP c.K R_lvalue)) (hk : 1 ≤ c.k) (h : R_ltrue ds d) : BodyD c e_ltrue s_ltrue (rho n_ltrue ds) d := by
  have nd := sc_ltrue.nd
  obtain ⟨⟨s, a, b⟩, bx, rfl, rfl⟩ := h
  left
  cases s with
  | lt => exact
    (sd_cons (s1_set 2 (ed_call C__law_value (by omega) (⟨_, _, rfl, rfl⟩) (ea_cons (ed_ixT rfl (ed_var 0 rfl) ed_int) (ea_cons (ed_var 1 rfl) ea_nil))) nd)
      (sd_cons (s1_set 3 (ed_call C__law_value (by omega) (⟨_, _, rfl, rfl⟩) (ea_cons (ed_ixT rfl (ed_var 0 rfl) ed_int) (ea_cons (ed_var 1 rfl) ea_nil))) nd)
        (sd_rt (s1_ret (ED.is (ed_ixb (EO.ed (eo_lst (ea_cons (ed_lt (ed_var 2 rfl) (ed_var 3 rfl)) (ea_cons (ed_eq rfl (ed_var 2 rfl) (ed_var 3 rfl)) (ea_cons (ed_ge (ed_var 2 rfl) (ed_var 3 rfl)) (ea_cons (ed_ne rfl (ed_var 2 rfl) (ed_var 3 rfl)) ea_nil)))))) (ed_index (j := (0)) rfl rfl (⟨_, rfl, by show eqF _ (.str (Ak.str .lt)) = true; decide +kernel⟩) (fun m z h1 h2 => by omega) (EO.ed (eo_lst (ea_cons ed_str (ea_cons ed_str (ea_cons ed_str (ea_cons ed_str ea_nil)))))) (ed_ixT rfl (ed_var 0 rfl) ed_int) fun _ _ _ h1 h2 => pe_bm PySem.F.plainAttrs_list PySem.F.slot_list_index PySem.F.type_list_index mt_index h1 (pa_cons h2 pa_nil)) (by first | omega | (simp only [rangeD_len, List.length_set, List.length_cons, List.length_nil, List.length_map, List.length_append, List.length_range] <;> omega) | (simp <;> omega))) (by first | rfl | (simp only [List.getD_cons_succ, eqS_int]; rfl) | (show D.bl (eqS _ _) = _; rw [eqS_int]; rfl) | (show D.bl (!eqS _ _) = _; rw [eqS_int]; rfl)))))))
  | eq => exact
    (sd_cons (s1_set 2 (ed_call C__law_value (by omega) (⟨_, _, rfl, rfl⟩) (ea_cons (ed_ixT rfl (ed_var 0 rfl) ed_int) (ea_cons (ed_var 1 rfl) ea_nil))) nd)
      (sd_cons (s1_set 3 (ed_call C__law_value (by omega) (⟨_, _, rfl, rfl⟩) (ea_cons (ed_ixT rfl (ed_var 0 rfl) ed_int) (ea_cons (ed_var 1 rfl) ea_nil))) nd)
        (sd_rt (s1_ret (ED.is (ed_ixb (EO.ed (eo_lst (ea_cons (ed_lt (ed_var 2 rfl) (ed_var 3 rfl)) (ea_cons (ed_eq rfl (ed_var 2 rfl) (ed_var 3 rfl)) (ea_cons (ed_ge (ed_var 2 rfl) (ed_var 3 rfl)) (ea_cons (ed_ne rfl (ed_var 2 rfl) (ed_var 3 rfl)) ea_nil)))))) (ed_index (j := (1)) rfl rfl (⟨_, rfl, by show eqF _ (.str (Ak.str .eq)) = true; decide +kernel⟩) (fun m z h1 h2 => by have this : m = 0 := (by omega); subst this <;> (cases h2; show eqF _ (.str (Ak.str .eq)) = false; decide +kernel)) (EO.ed (eo_lst (ea_cons ed_str (ea_cons ed_str (ea_cons ed_str (ea_cons ed_str ea_nil)))))) (ed_ixT rfl (ed_var 0 rfl) ed_int) fun _ _ _ h1 h2 => pe_bm PySem.F.plainAttrs_list PySem.F.slot_list_index PySem.F.type_list_index mt_index h1 (pa_cons h2 pa_nil)) (by first | omega | (simp only [rangeD_len, List.length_set, List.length_cons, List.length_nil, List.length_map, List.length_append, List.length_range] <;> omega) | (simp <;> omega))) (by first | rfl | (simp only [List.getD_cons_succ, eqS_int]; rfl) | (show D.bl (eqS _ _) = _; rw [eqS_int]; rfl) | (show D.bl (!eqS _ _) = _; rw [eqS_int]; rfl)))))))
  | ge => exact
    (sd_cons (s1_set 2 (ed_call C__law_value (by omega) (⟨_, _, rfl, rfl⟩) (ea_cons (ed_ixT rfl (ed_var 0 rfl) ed_int) (ea_cons (ed_var 1 rfl) ea_nil))) nd)
      (sd_cons (s1_set 3 (ed_call C__law_value (by omega) (⟨_, _, rfl, rfl⟩) (ea_cons (ed_ixT rfl (ed_var 0 rfl) ed_int) (ea_cons (ed_var 1 rfl) ea_nil))) nd)
        (sd_rt (s1_ret (ED.is (ed_ixb (EO.ed (eo_lst (ea_cons (ed_lt (ed_var 2 rfl) (ed_var 3 rfl)) (ea_cons (ed_eq rfl (ed_var 2 rfl) (ed_var 3 rfl)) (ea_cons (ed_ge (ed_var 2 rfl) (ed_var 3 rfl)) (ea_cons (ed_ne rfl (ed_var 2 rfl) (ed_var 3 rfl)) ea_nil)))))) (ed_index (j := (2)) rfl rfl (⟨_, rfl, by show eqF _ (.str (Ak.str .ge)) = true; decide +kernel⟩) (fun m z h1 h2 => by have this : m = 0 ∨ m = 1 := (by omega); rcases this with rfl | rfl <;> (cases h2; show eqF _ (.str (Ak.str .ge)) = false; decide +kernel)) (EO.ed (eo_lst (ea_cons ed_str (ea_cons ed_str (ea_cons ed_str (ea_cons ed_str ea_nil)))))) (ed_ixT rfl (ed_var 0 rfl) ed_int) fun _ _ _ h1 h2 => pe_bm PySem.F.plainAttrs_list PySem.F.slot_list_index PySem.F.type_list_index mt_index h1 (pa_cons h2 pa_nil)) (by first | omega | (simp only [rangeD_len, List.length_set, List.length_cons, List.length_nil, List.length_map, List.length_append, List.length_range] <;> omega) | (simp <;> omega))) (by first | rfl | (simp only [List.getD_cons_succ, eqS_int]; rfl) | (show D.bl (eqS _ _) = _; rw [eqS_int]; rfl) | (show D.bl (!eqS _ _) = _; rw [eqS_int]; rfl)))))))
  | ne => exact
    (sd_cons (s1_set 2 (ed_call C__law_value (by omega) (⟨_, _, rfl, rfl⟩) (ea_cons (ed_ixT rfl (ed_var 0 rfl) ed_int) (ea_cons (ed_var 1 rfl) ea_nil))) nd)
      (sd_cons (s1_set 3 (ed_call C__law_value (by omega) (⟨_, _, rfl, rfl⟩) (ea_cons (ed_ixT rfl (ed_var 0 rfl) ed_int) (ea_cons (ed_var 1 rfl) ea_nil))) nd)
        (sd_rt (s1_ret (ED.is (ed_ixb (EO.ed (eo_lst (ea_cons (ed_lt (ed_var 2 rfl) (ed_var 3 rfl)) (ea_cons (ed_eq rfl (ed_var 2 rfl) (ed_var 3 rfl)) (ea_cons (ed_ge (ed_var 2 rfl) (ed_var 3 rfl)) (ea_cons (ed_ne rfl (ed_var 2 rfl) (ed_var 3 rfl)) ea_nil)))))) (ed_index (j := (3)) rfl rfl (⟨_, rfl, by show eqF _ (.str (Ak.str .ne)) = true; decide +kernel⟩) (fun m z h1 h2 => by have this : m = 0 ∨ m = 1 ∨ m = 2 := (by omega); rcases this with rfl | rfl | rfl <;> (cases h2; show eqF _ (.str (Ak.str .ne)) = false; decide +kernel)) (EO.ed (eo_lst (ea_cons ed_str (ea_cons ed_str (ea_cons ed_str (ea_cons ed_str ea_nil)))))) (ed_ixT rfl (ed_var 0 rfl) ed_int) fun _ _ _ h1 h2 => pe_bm PySem.F.plainAttrs_list PySem.F.slot_list_index PySem.F.type_list_index mt_index h1 (pa_cons h2 pa_nil)) (by first | omega | (simp only [rangeD_len, List.length_set, List.length_cons, List.length_nil, List.length_map, List.length_append, List.length_range] <;> omega) | (simp <;> omega))) (by first | rfl | (simp only [List.getD_cons_succ, eqS_int]; rfl) | (show D.bl (eqS _ _) = _; rw [eqS_int]; rfl) | (show D.bl (!eqS _ _) = _; rw [eqS_int]; rfl)))))))
abbrev s_lreckoned : Stmt := topS 26
abbrev n_lreckoned : List Str := ["_law_made", "_law_boxes_here", "_law_one", "_law_other"]
abbrev e_lreckoned : Nm := ⟨n_lreckoned, defScope s_lreckoned, fun _ => true⟩
omit T in
theorem sc_lreckoned : FnScope n_lreckoned ["_law_made", "_law_boxes_here"] (defScope s_lreckoned) := ⟨rfl, rfl, rfl, by decide +kernel, rfl, by decide +kernel, by decide +kernel⟩
def R_lreckoned (ds : List D) (d : D) : Prop := ∃ m bx, ds = [Sm.d m, .dic (bxD bx)] ∧ m.ok ∧ BxOk bx ∧ d = .int (m.reck bx)
theorem b_lreckoned {ds : List D} {d : D} (C__law_value : Call c 1 "_law_value" (spP c.K R_lvalue)) (C__law_true : Call c 2 "_law_true" (spP c.K R_ltrue)) (hk : 2 ≤ c.k) (h : R_lreckoned ds d) : BodyD c e_lreckoned s_lreckoned (rho n_lreckoned ds) d := by
  have nd := sc_lreckoned.nd
  obtain ⟨m, bx, rfl, hm, hb, rfl⟩ := h
  left
  cases m with
  | one a => exact
    (sd_if (et_eq rfl (ed_len (.tup _) T.len (ea_cons (ed_var 0 rfl) ea_nil)) ed_int)
      (fun h100 =>
        (sd_rt (s1_ret (ED.is (ed_call C__law_value (by omega) (⟨_, _, rfl, rfl⟩) (ea_cons (ed_ixT rfl (ed_var 0 rfl) ed_int) (ea_cons (ed_var 1 rfl) ea_nil))) (by first | rfl | (try clear nd; simp_all; done))))))
      (fun h100 =>(absurd h100 (by simp))))
  | op s a b =>
    have va := Th.val_ok hb hm.1
    have vb := Th.val_ok hb hm.2
    cases s with
    | plus => exact
    (sd_if (et_eq rfl (ed_len (.tup _) T.len (ea_cons (ed_var 0 rfl) ea_nil)) ed_int)
      (fun h100 =>(absurd h100 (by simp)))
      (fun h100 =>
        (sd_nil
          (sd_if (et_notIn (.lst _) rfl flatS (by rfl) (ed_ixT rfl (ed_var 0 rfl) ed_int) (EO.ed (eo_lst (ea_cons ed_str (ea_cons ed_str (ea_cons ed_str ea_nil))))))
            (fun h101 =>(absurd h101 (by decide +kernel)))
            (fun h101 =>
              (sd_nil
                (sd_cons (s1_set 2 (ed_call C__law_value (by omega) (⟨_, _, rfl, rfl⟩) (ea_cons (ed_ixT rfl (ed_var 0 rfl) ed_int) (ea_cons (ed_var 1 rfl) ea_nil))) nd)
                  (sd_cons (s1_set 3 (ed_call C__law_value (by omega) (⟨_, _, rfl, rfl⟩) (ea_cons (ed_ixT rfl (ed_var 0 rfl) ed_int) (ea_cons (ed_var 1 rfl) ea_nil))) nd)
                    (sd_rt (s1_ret (ED.is (ed_mod (by decide) (ed_ixi (EO.ed (eo_lst (ea_cons (ed_add (ed_var 2 rfl) (ed_var 3 rfl)) (ea_cons (ed_sub (ed_var 2 rfl) (ed_var 3 rfl)) (ea_cons (ed_mul (.inl ⟨by omega, by omega⟩) (ed_var 2 rfl) (ed_var 3 rfl)) ea_nil))))) (ed_index (j := (0)) rfl rfl ⟨_, rfl, by decide +kernel⟩ (fun m z h1 h2 => by omega) (EO.ed (eo_lst (ea_cons ed_str (ea_cons ed_str (ea_cons ed_str ea_nil))))) (ed_ixT rfl (ed_var 0 rfl) ed_int) fun _ _ _ h1 h2 => pe_bm PySem.F.plainAttrs_list PySem.F.slot_list_index PySem.F.type_list_index mt_index h1 (pa_cons h2 pa_nil)) (by first | omega | (simp only [rangeD_len, List.length_set, List.length_cons, List.length_nil, List.length_map, List.length_append, List.length_range] <;> omega) | (simp <;> omega))) ed_int) (by first | rfl | (try clear nd; simp_all; done)))))))))))))
    | minus => exact
    (sd_if (et_eq rfl (ed_len (.tup _) T.len (ea_cons (ed_var 0 rfl) ea_nil)) ed_int)
      (fun h100 =>(absurd h100 (by simp)))
      (fun h100 =>
        (sd_nil
          (sd_if (et_notIn (.lst _) rfl flatS (by rfl) (ed_ixT rfl (ed_var 0 rfl) ed_int) (EO.ed (eo_lst (ea_cons ed_str (ea_cons ed_str (ea_cons ed_str ea_nil))))))
            (fun h101 =>(absurd h101 (by decide +kernel)))
            (fun h101 =>
              (sd_nil
                (sd_cons (s1_set 2 (ed_call C__law_value (by omega) (⟨_, _, rfl, rfl⟩) (ea_cons (ed_ixT rfl (ed_var 0 rfl) ed_int) (ea_cons (ed_var 1 rfl) ea_nil))) nd)
                  (sd_cons (s1_set 3 (ed_call C__law_value (by omega) (⟨_, _, rfl, rfl⟩) (ea_cons (ed_ixT rfl (ed_var 0 rfl) ed_int) (ea_cons (ed_var 1 rfl) ea_nil))) nd)
                    (sd_rt (s1_ret (ED.is (ed_mod (by decide) (ed_ixi (EO.ed (eo_lst (ea_cons (ed_add (ed_var 2 rfl) (ed_var 3 rfl)) (ea_cons (ed_sub (ed_var 2 rfl) (ed_var 3 rfl)) (ea_cons (ed_mul (.inl ⟨by omega, by omega⟩) (ed_var 2 rfl) (ed_var 3 rfl)) ea_nil))))) (ed_index (j := (1)) rfl rfl ⟨_, rfl, by decide +kernel⟩ (fun m z h1 h2 => by have this : m = 0 := (by omega); subst this; cases h2; decide +kernel) (EO.ed (eo_lst (ea_cons ed_str (ea_cons ed_str (ea_cons ed_str ea_nil))))) (ed_ixT rfl (ed_var 0 rfl) ed_int) fun _ _ _ h1 h2 => pe_bm PySem.F.plainAttrs_list PySem.F.slot_list_index PySem.F.type_list_index mt_index h1 (pa_cons h2 pa_nil)) (by first | omega | (simp only [rangeD_len, List.length_set, List.length_cons, List.length_nil, List.length_map, List.length_append, List.length_range] <;> omega) | (simp <;> omega))) ed_int) (by first | rfl | (try clear nd; simp_all; done)))))))))))))
    | times => exact
    (sd_if (et_eq rfl (ed_len (.tup _) T.len (ea_cons (ed_var 0 rfl) ea_nil)) ed_int)
      (fun h100 =>(absurd h100 (by simp)))
      (fun h100 =>
        (sd_nil
          (sd_if (et_notIn (.lst _) rfl flatS (by rfl) (ed_ixT rfl (ed_var 0 rfl) ed_int) (EO.ed (eo_lst (ea_cons ed_str (ea_cons ed_str (ea_cons ed_str ea_nil))))))
            (fun h101 =>(absurd h101 (by decide +kernel)))
            (fun h101 =>
              (sd_nil
                (sd_cons (s1_set 2 (ed_call C__law_value (by omega) (⟨_, _, rfl, rfl⟩) (ea_cons (ed_ixT rfl (ed_var 0 rfl) ed_int) (ea_cons (ed_var 1 rfl) ea_nil))) nd)
                  (sd_cons (s1_set 3 (ed_call C__law_value (by omega) (⟨_, _, rfl, rfl⟩) (ea_cons (ed_ixT rfl (ed_var 0 rfl) ed_int) (ea_cons (ed_var 1 rfl) ea_nil))) nd)
                    (sd_rt (s1_ret (ED.is (ed_mod (by decide) (ed_ixi (EO.ed (eo_lst (ea_cons (ed_add (ed_var 2 rfl) (ed_var 3 rfl)) (ea_cons (ed_sub (ed_var 2 rfl) (ed_var 3 rfl)) (ea_cons (ed_mul (.inl ⟨by omega, by omega⟩) (ed_var 2 rfl) (ed_var 3 rfl)) ea_nil))))) (ed_index (j := (2)) rfl rfl ⟨_, rfl, by decide +kernel⟩ (fun m z h1 h2 => by have this : m = 0 ∨ m = 1 := (by omega); rcases this with rfl | rfl <;> (cases h2; decide +kernel)) (EO.ed (eo_lst (ea_cons ed_str (ea_cons ed_str (ea_cons ed_str ea_nil))))) (ed_ixT rfl (ed_var 0 rfl) ed_int) fun _ _ _ h1 h2 => pe_bm PySem.F.plainAttrs_list PySem.F.slot_list_index PySem.F.type_list_index mt_index h1 (pa_cons h2 pa_nil)) (by first | omega | (simp only [rangeD_len, List.length_set, List.length_cons, List.length_nil, List.length_map, List.length_append, List.length_range] <;> omega) | (simp <;> omega))) ed_int) (by first | rfl | (try clear nd; simp_all; done)))))))))))))
    | ask s => exact
    (sd_if (et_eq rfl (ed_len (.tup _) T.len (ea_cons (ed_var 0 rfl) ea_nil)) ed_int)
      (fun h100 =>(absurd h100 (by simp)))
      (fun h100 =>
        (sd_nil
          (sd_if (et_notIn (.lst _) rfl flatS (by rfl) (ed_ixT rfl (ed_var 0 rfl) ed_int) (EO.ed (eo_lst (ea_cons ed_str (ea_cons ed_str (ea_cons ed_str ea_nil))))))
            (fun h101 =>
              (sd_rt (s1_ret (ED.is (ed_intB T.int (ea_cons (ed_call C__law_true (by omega) (⟨⟨s, a, b⟩, _, rfl, rfl⟩) (ea_cons (ed_var 0 rfl) (ea_cons (ed_var 1 rfl) ea_nil))) ea_nil)) (by first | rfl | (try clear nd; simp_all; done))))))
            (fun h101 =>(absurd h101 (by cases s <;> decide +kernel)))))))
abbrev s_is_name : Stmt := topS 7
abbrev n_is_name : List Str := ["thing", "sign"]
abbrev e_is_name : Nm := ⟨n_is_name, defScope s_is_name, fun _ => true⟩
omit T in
theorem sc_is_name : FnScope n_is_name ["thing"] (defScope s_is_name) := ⟨rfl, rfl, rfl, by decide +kernel, rfl, by decide +kernel, by decide +kernel⟩
def R_is_name (ds : List D) (d : D) : Prop := ∃ x, ds = [x] ∧ smallD x ∧ d = .bl (isNameD x)
theorem b_is_name {ds : List D} {d : D} (h : R_is_name ds d) : BodyD c e_is_name s_is_name (rho n_is_name ds) d := by
  have nd := sc_is_name.nd
  obtain ⟨x, rfl, ht, rfl⟩ := h
  left
  cases x with
  | ty => exact absurd ht (by simp [smallD])
  | str z =>
    have hz : z.length ≤ 100000 := ht
    exact
    (sd_if (EP'.et (ep_or (et_not (et_val (ed_isi (by exact tn_str) (by exact kit_str_str) T.isinstance (ea_cons (ed_var 0 rfl) (ea_cons (ed_type T.str (by decide +kernel)) ea_nil))))) fun h2 => (ep_or (et_not (et_chain (fun _ _ => op_le) (rd_I0 fun _ => .bl _) (fun _ _ => op_le) (fun _ => rd_I0 fun _ => .bl _) ed_int (ed_lenS (hz) T.len (ea_cons (ed_var 0 rfl) ea_nil)) (fun _ => (T.c_MOST_SIGNS (by decide +kernel))) (by with_unfolding_all rfl))) fun h1 => (ep_or1 (et_in (.tup _) rfl flatS (by rfl) (ed_var 0 rfl) (T.c_TAKEN (by decide +kernel)))))))
      (fun h100 =>
        (sd_rt (s1_ret (ED.is ed_bl (by
    show D.bl false = D.bl (isNameS z)
    rw [isNameS_out h100])))))
      (fun h100 =>
        (sd_nil
          (sd_rt (s1_ret (ED.is (ed_and (ed_inSign (by rfl) (ed_ixz (hz) (ed_var 0 rfl) ed_int (by
    obtain ⟨a, -⟩ := name_and h100
    rw [Bool.and_eq_true] at a
    have := of_decide_eq_true a.1
    exact ⟨Int.le_refl _, by show (0 : Int) < (z.length : Int); omega⟩)) (T.c_LETTERS (by decide +kernel))) fun h3 => (ed_one (ed_all T.all (ea_cons (EO.ed (eo_comp [("sign", 1)] nd (id_str (ed_var 0 rfl)) (comp_signsB 1 _ nd (h := fun k hk => (ed_inSign (by rfl) (ed_var 1 rfl) (ed_addS sz_add (T.c_LETTERS (by decide +kernel)) (T.c_FIGURES (by decide +kernel)))))) (by show (z.cps.toList.map _).length ≤ _; rw [List.length_map]; exact hz))) ea_nil)))) (by
    show _ = D.bl (isNameS z)
    rw [isNameS_in h100])))))))
  | int x => exact
    (sd_if (EP'.et (ep_or (kb := true) (et_not (et_val (ed_isi (by exact tn_int) (by exact kit_int_str) T.isinstance (ea_cons (ed_var 0 rfl) (ea_cons (ed_type T.str (by decide +kernel)) ea_nil))))) fun h1 => (absurd h1 (by decide))))
      (fun h100 =>
        (sd_rt (s1_ret (ED.is ed_bl (by first | rfl | (try clear nd; simp_all; done))))))
      (fun h100 =>(absurd h100 (by decide))))
  | bl x => exact
    (sd_if (EP'.et (ep_or (kb := true) (et_not (et_val (ed_isi (by exact tn_bool) (by exact kit_bool_str) T.isinstance (ea_cons (ed_var 0 rfl) (ea_cons (ed_type T.str (by decide +kernel)) ea_nil))))) fun h1 => (absurd h1 (by decide))))
      (fun h100 =>
        (sd_rt (s1_ret (ED.is ed_bl (by first | rfl | (try clear nd; simp_all; done))))))
      (fun h100 =>(absurd h100 (by decide))))
  | non => exact
    (sd_if (EP'.et (ep_or (kb := true) (et_not (et_val (ed_isi (by exact tn_NoneType) (by exact kit_NoneType_str) T.isinstance (ea_cons (ed_var 0 rfl) (ea_cons (ed_type T.str (by decide +kernel)) ea_nil))))) fun h1 => (absurd h1 (by decide))))
      (fun h100 =>
        (sd_rt (s1_ret (ED.is ed_bl (by first | rfl | (try clear nd; simp_all; done))))))
      (fun h100 =>(absurd h100 (by decide))))
  | tup x => exact
    (sd_if (EP'.et (ep_or (kb := true) (et_not (et_val (ed_isi (by exact tn_tuple) (by exact kit_tuple_str) T.isinstance (ea_cons (ed_var 0 rfl) (ea_cons (ed_type T.str (by decide +kernel)) ea_nil))))) fun h1 => (absurd h1 (by decide))))
      (fun h100 =>
        (sd_rt (s1_ret (ED.is ed_bl (by first | rfl | (try clear nd; simp_all; done))))))
      (fun h100 =>(absurd h100 (by decide))))
  | lst x => exact
    (sd_if (EP'.et (ep_or (kb := true) (et_not (et_val (ed_isi (by exact tn_list) (by exact kit_list_str) T.isinstance (ea_cons (ed_var 0 rfl) (ea_cons (ed_type T.str (by decide +kernel)) ea_nil))))) fun h1 => (absurd h1 (by decide))))
      (fun h100 =>
        (sd_rt (s1_ret (ED.is ed_bl (by first | rfl | (try clear nd; simp_all; done))))))
      (fun h100 =>(absurd h100 (by decide))))
  | dic x => exact
    (sd_if (EP'.et (ep_or (kb := true) (et_not (et_val (ed_isi (by exact tn_dict) (by exact kit_dict_str) T.isinstance (ea_cons (ed_var 0 rfl) (ea_cons (ed_type T.str (by decide +kernel)) ea_nil))))) fun h1 => (absurd h1 (by decide))))
      (fun h100 =>
        (sd_rt (s1_ret (ED.is ed_bl (by first | rfl | (try clear nd; simp_all; done))))))
      (fun h100 =>(absurd h100 (by decide))))
  | scr x => exact
    (sd_if (EP'.et (ep_or (kb := true) (et_not (et_val (ed_isi (by exact tn_list) (by exact kit_list_str) T.isinstance (ea_cons (ed_var 0 rfl) (ea_cons (ed_type T.str (by decide +kernel)) ea_nil))))) fun h1 => (absurd h1 (by decide))))
      (fun h100 =>
        (sd_rt (s1_ret (ED.is ed_bl (by first | rfl | (try clear nd; simp_all; done))))))
      (fun h100 =>(absurd h100 (by decide))))
abbrev s_is_number : Stmt := topS 8
abbrev n_is_number : List Str := ["thing"]
abbrev e_is_number : Nm := ⟨n_is_number, defScope s_is_number, fun _ => true⟩
omit T in
theorem sc_is_number : FnScope n_is_number ["thing"] (defScope s_is_number) := ⟨rfl, rfl, rfl, by decide +kernel, rfl, by decide +kernel, by decide +kernel⟩
def R_is_number (ds : List D) (d : D) : Prop := ∃ x, ds = [x] ∧ smallD x ∧ d = .bl (isNumD x)
theorem b_is_number {ds : List D} {d : D} (h : R_is_number ds d) : BodyD c e_is_number s_is_number (rho n_is_number ds) d := by
  have nd := sc_is_number.nd
  obtain ⟨x, rfl, ht, rfl⟩ := h
  left
  cases x with
  | ty => exact absurd ht (by simp [smallD])
  | int x => exact
    (sd_rt (s1_ret (ED.is (ed_and (ed_isi (by exact tn_int) (by exact kit_int_int) T.isinstance (ea_cons (ed_var 0 rfl) (ea_cons (ed_type T.int (by decide +kernel)) ea_nil))) fun h2 => (ed_and (ed_not (ed_isi (by exact tn_int) (by exact kit_int_bool) T.isinstance (ea_cons (ed_var 0 rfl) (ea_cons (ed_type T.bool (by decide +kernel)) ea_nil)))) fun h1 => (ed_one (ed_chain (fun _ _ => op_le) (rd_I0 fun _ => .bl _) (fun _ _ => op_lt) (fun _ => rd_I0 fun _ => .bl _) ed_int (ed_var 0 rfl) (fun _ => (T.c_BOUND (by decide +kernel))) (by with_unfolding_all rfl))))) (by first | rfl | (try clear nd; simp_all; done)))))
  | bl x => exact
    (sd_rt (s1_ret (ED.is (ed_and (ed_isi (by exact tn_bool) (by exact kit_bool_int) T.isinstance (ea_cons (ed_var 0 rfl) (ea_cons (ed_type T.int (by decide +kernel)) ea_nil))) fun h2 => (ed_and (kb := false) (ed_not (ed_isi (by exact tn_bool) (by exact kit_bool_bool) T.isinstance (ea_cons (ed_var 0 rfl) (ea_cons (ed_type T.bool (by decide +kernel)) ea_nil)))) fun h1 => (absurd h1 (by decide)))) (by first | rfl | (try clear nd; simp_all; done)))))
  | str x => exact
    (sd_rt (s1_ret (ED.is (ed_and (kb := false) (ed_isi (by exact tn_str) (by exact kit_str_int) T.isinstance (ea_cons (ed_var 0 rfl) (ea_cons (ed_type T.int (by decide +kernel)) ea_nil))) fun h1 => (absurd h1 (by decide))) (by first | rfl | (try clear nd; simp_all; done)))))
  | non => exact
    (sd_rt (s1_ret (ED.is (ed_and (kb := false) (ed_isi (by exact tn_NoneType) (by exact kit_NoneType_int) T.isinstance (ea_cons (ed_var 0 rfl) (ea_cons (ed_type T.int (by decide +kernel)) ea_nil))) fun h1 => (absurd h1 (by decide))) (by first | rfl | (try clear nd; simp_all; done)))))
  | tup x => exact
    (sd_rt (s1_ret (ED.is (ed_and (kb := false) (ed_isi (by exact tn_tuple) (by exact kit_tuple_int) T.isinstance (ea_cons (ed_var 0 rfl) (ea_cons (ed_type T.int (by decide +kernel)) ea_nil))) fun h1 => (absurd h1 (by decide))) (by first | rfl | (try clear nd; simp_all; done)))))
  | lst x => exact
    (sd_rt (s1_ret (ED.is (ed_and (kb := false) (ed_isi (by exact tn_list) (by exact kit_list_int) T.isinstance (ea_cons (ed_var 0 rfl) (ea_cons (ed_type T.int (by decide +kernel)) ea_nil))) fun h1 => (absurd h1 (by decide))) (by first | rfl | (try clear nd; simp_all; done)))))
  | dic x => exact
    (sd_rt (s1_ret (ED.is (ed_and (kb := false) (ed_isi (by exact tn_dict) (by exact kit_dict_int) T.isinstance (ea_cons (ed_var 0 rfl) (ea_cons (ed_type T.int (by decide +kernel)) ea_nil))) fun h1 => (absurd h1 (by decide))) (by first | rfl | (try clear nd; simp_all; done)))))
  | scr x => exact
    (sd_rt (s1_ret (ED.is (ed_and (kb := false) (ed_isi (by exact tn_list) (by exact kit_list_int) T.isinstance (ea_cons (ed_var 0 rfl) (ea_cons (ed_type T.int (by decide +kernel)) ea_nil))) fun h1 => (absurd h1 (by decide))) (by first | rfl | (try clear nd; simp_all; done)))))
abbrev s_things : Stmt := topS 27
abbrev n_things : List Str := ["_law_names_here", "_law_words", "_law_bad", "_law_good"]
abbrev e_things : Nm := ⟨n_things, defScope s_things, fun _ => true⟩
omit T in
theorem sc_things : FnScope n_things ["_law_names_here"] (defScope s_things) := ⟨rfl, rfl, rfl, by decide +kernel, rfl, by decide +kernel, by decide +kernel⟩
def R_things (ds : List D) (d : D) : Prop := ∃ names : List Str, ds = [.lst (names.map .str)] ∧ names.length ≤ 100 ∧ d = .tup [.lst ((names ++ lawGood).map .str), .lst lawBad]
theorem b_things {ds : List D} {d : D} (h : R_things ds d) : BodyD c e_things s_things (rho n_things ds) d := by
  have nd := sc_things.nd
  obtain ⟨names, rfl, hn, rfl⟩ := h
  left
  exact
    (sd_cons (s1_set 1 (EO.ed (eo_lst (ea_cons ed_str (ea_cons ed_str (ea_cons ed_str (ea_cons ed_str (ea_cons ed_str (ea_cons ed_str (ea_cons ed_str (ea_cons ed_str (ea_cons ed_str (ea_cons ed_str (ea_cons ed_str ea_nil))))))))))))) nd)
      (sd_cons (s1_set 2 (EO.ed (eo_cat (by first | decide | (simp only [List.length_map, List.length_cons, List.length_nil]; omega)) (ed_var 1 rfl) (EO.ed (eo_lst (ea_cons ed_str (ea_cons ed_str (ea_cons ed_str (ea_cons ed_str (ea_cons ed_str (ea_cons ed_str (ea_cons ed_str (ea_cons ed_str (ea_cons ed_str (ea_cons ed_str (ea_cons ed_int (ea_cons ed_non (ea_cons ed_bl (ea_cons (EO.ed (eo_lst (ea_cons ed_str ea_nil))) (ea_cons (ed_tup (ea_cons ed_str ea_nil)) (ea_cons (EO.ed eo_dic) ea_nil)))))))))))))))))))) nd)
        (sd_cons (s1_set 3 (EO.ed (eo_cat (by first | decide | (simp only [List.length_map, List.length_cons, List.length_nil]; omega)) (ed_var 0 rfl) (EO.ed (eo_lst (ea_cons ed_str (ea_cons ed_str (ea_cons ed_str (ea_cons ed_str (ea_cons ed_str (ea_cons ed_str (ea_cons ed_str (ea_cons ed_str (ea_cons ed_str (ea_cons ed_str (ea_cons ed_str ea_nil))))))))))))))) nd)
          (sd_rt (s1_ret (ED.is (ed_tup (ea_cons (ed_var 3 rfl) (ea_cons (ed_var 2 rfl) ea_nil))) (by rw [List.map_append]; rfl)))))))
abbrev s_known : Stmt := topS 28
abbrev n_known : List Str := ["_law_names_here", "_law_good", "_law_bad", "_law_thing_here", "_law_found"]
abbrev e_known : Nm := ⟨n_known, defScope s_known, fun _ => true⟩
omit T in
theorem sc_known : FnScope n_known ["_law_names_here"] (defScope s_known) := ⟨rfl, rfl, rfl, by decide +kernel, rfl, by decide +kernel, by decide +kernel⟩
def R_known (ds : List D) (d : D) : Prop := ∃ names : List Str, ds = [.lst (names.map .str)] ∧ names.length = 12 ∧ (∀ z ∈ names, isNameS z = true) ∧ d = .bl true
theorem b_known {ds : List D} {d : D} (C__law_whole : Call c 1 "_law_whole" (spP c.K R_whole)) (C_is_name : Call c 1 "is_name" (spP c.K R_is_name)) (C_is_number : Call c 1 "is_number" (spP c.K R_is_number)) (C__law_things : Call c 1 "_law_things" (spP c.K R_things)) (hk : 1 ≤ c.k) (h : R_known ds d) : BodyD c e_known s_known (rho n_known ds) d := by
  have nd := sc_known.nd
  obtain ⟨names, rfl, hn, hok, rfl⟩ := h
  left
  exact
    (sd_cons (s1_asg (ed_call C__law_things (by omega) (⟨_, rfl, by rw [hn]; decide, rfl⟩) (ea_cons (ed_var 0 rfl) ea_nil)) (td_name2 1 2 nd))
      (sd_cons (s1_forN 3 ((names ++ lawGood).map D.str ++ lawBad).length (fun _ => [.va (.lst (names.map .str)), .va (.lst ((names ++ lawGood).map .str)), .va (.lst lawBad), .no, .no]) (id_list (EO.ed (eo_cat (by rw [List.length_map, List.length_append, hn]; decide) (ed_var 1 rfl) (ed_var 2 rfl)))) rfl nd (by repeat (first | exact trivial | refine And.intro rfl ?_)) (fun _ => by simp) (fun i d hd => by obtain ⟨hs, he⟩ := known1 hok (List.mem_of_getElem? hd); have ht := hs.ty; exact
          (sd_cons (s1_set 4 (ed_call C_is_name (by omega) (⟨_, rfl, by assumption, rfl⟩) (ea_cons (ed_var 3 rfl) ea_nil)) nd)
            (sd_if (EP'.et (ep_or (et_not (et_val (ed_isi (by exact tn_bool) (by exact kit_bool_bool) T.isinstance (ea_cons (ed_var 4 rfl) (ea_cons (ed_type T.bool (by decide +kernel)) ea_nil))))) fun h1 => (ep_or1 (et_ne rfl (ed_var 4 rfl) (ed_inM (by assumption) (by rfl) (ed_var 3 rfl) (ed_var 1 rfl))))))
              (fun h100 =>(absurd h100 (by simp; exact he)))
              (fun h100 =>
                (sd_nil
                  (sd_nil (sd_endw (by repeat (first | exact trivial | refine And.intro rfl ?_))))))))))
        (sd_cons (s1_forN 3 lawNums.length (fun _ => [.va (.lst (names.map .str)), .no, .no, .no, .no]) (id_list (EO.ed (eo_lst (ea_cons ed_int (ea_cons ed_int (ea_cons ed_int (ea_cons ed_int (ea_cons (ed_neg ed_int) (ea_cons ed_int (ea_cons (ed_pow ⟨by decide, by decide, by decide⟩ ed_int ed_int) (ea_cons ed_bl (ea_cons ed_bl (ea_cons ed_non (ea_cons ed_str (ea_cons (EO.ed (eo_lst ea_nil)) (ea_cons (ed_tup ea_nil) (ea_cons (EO.ed eo_dic) ea_nil))))))))))))))))) rfl nd (by repeat (first | exact trivial | refine And.intro rfl ?_)) (fun _ => by simp) (fun i d hd => by have hs := small_of (lawNums_small d (List.mem_of_getElem? hd)); have ht := hs.ty; cases d with
    | ty => exact absurd hs (by simp [smallD])
            | int x => exact
                (sd_cons (s1_set 4 (ed_call C_is_number (by omega) (⟨_, rfl, by assumption, rfl⟩) (ea_cons (ed_var 3 rfl) ea_nil)) nd)
                  (sd_if (EP'.et (ep_or (et_not (et_val (ed_isi (by exact tn_bool) (by exact kit_bool_bool) T.isinstance (ea_cons (ed_var 4 rfl) (ea_cons (ed_type T.bool (by decide +kernel)) ea_nil))))) fun h3 => (ep_or1 (et_ne rfl (ed_var 4 rfl) (ed_and (ed_call C__law_whole (by omega) (⟨_, rfl, by first | exact tn_int | assumption, rfl⟩) (ea_cons (ed_var 3 rfl) ea_nil)) fun h2 => (ed_one (ed_chain (fun _ _ => op_le) (rd_I0 fun _ => .bl _) (fun _ _ => op_le) (fun _ => rd_I0 fun _ => .bl _) ed_int (ed_var 3 rfl) (fun _ => ed_int) (by with_unfolding_all rfl))))))))
                    (fun h101 =>(absurd h101 (by simp [isNumD, wholeD, lt_le])))
                    (fun h101 =>
                      (sd_nil
                        (sd_nil (sd_endw (by repeat (first | exact trivial | refine And.intro rfl ?_))))))))
            | bl x => exact
                (sd_cons (s1_set 4 (ed_call C_is_number (by omega) (⟨_, rfl, by assumption, rfl⟩) (ea_cons (ed_var 3 rfl) ea_nil)) nd)
                  (sd_if (EP'.et (ep_or (et_not (et_val (ed_isi (by exact tn_bool) (by exact kit_bool_bool) T.isinstance (ea_cons (ed_var 4 rfl) (ea_cons (ed_type T.bool (by decide +kernel)) ea_nil))))) fun h5 => (ep_or1 (et_ne rfl (ed_var 4 rfl) (ed_and (kb := false) (ed_call C__law_whole (by omega) (⟨_, rfl, by first | exact tn_int | assumption, rfl⟩) (ea_cons (ed_var 3 rfl) ea_nil)) fun h4 => (absurd h4 (by simp [wholeD])))))))
                    (fun h102 =>(absurd h102 (by simp [isNumD, wholeD, lt_le])))
                    (fun h102 =>
                      (sd_nil
                        (sd_nil (sd_endw (by repeat (first | exact trivial | refine And.intro rfl ?_))))))))
            | str x => exact
                (sd_cons (s1_set 4 (ed_call C_is_number (by omega) (⟨_, rfl, by assumption, rfl⟩) (ea_cons (ed_var 3 rfl) ea_nil)) nd)
                  (sd_if (EP'.et (ep_or (et_not (et_val (ed_isi (by exact tn_bool) (by exact kit_bool_bool) T.isinstance (ea_cons (ed_var 4 rfl) (ea_cons (ed_type T.bool (by decide +kernel)) ea_nil))))) fun h7 => (ep_or1 (et_ne rfl (ed_var 4 rfl) (ed_and (kb := false) (ed_call C__law_whole (by omega) (⟨_, rfl, by first | exact tn_int | assumption, rfl⟩) (ea_cons (ed_var 3 rfl) ea_nil)) fun h6 => (absurd h6 (by simp [wholeD])))))))
                    (fun h103 =>(absurd h103 (by simp [isNumD, wholeD, lt_le])))
                    (fun h103 =>
                      (sd_nil
                        (sd_nil (sd_endw (by repeat (first | exact trivial | refine And.intro rfl ?_))))))))
            | non => exact
                (sd_cons (s1_set 4 (ed_call C_is_number (by omega) (⟨_, rfl, by assumption, rfl⟩) (ea_cons (ed_var 3 rfl) ea_nil)) nd)
                  (sd_if (EP'.et (ep_or (et_not (et_val (ed_isi (by exact tn_bool) (by exact kit_bool_bool) T.isinstance (ea_cons (ed_var 4 rfl) (ea_cons (ed_type T.bool (by decide +kernel)) ea_nil))))) fun h9 => (ep_or1 (et_ne rfl (ed_var 4 rfl) (ed_and (kb := false) (ed_call C__law_whole (by omega) (⟨_, rfl, by first | exact tn_int | assumption, rfl⟩) (ea_cons (ed_var 3 rfl) ea_nil)) fun h8 => (absurd h8 (by simp [wholeD])))))))
                    (fun h104 =>(absurd h104 (by simp [isNumD, wholeD, lt_le])))
                    (fun h104 =>
                      (sd_nil
                        (sd_nil (sd_endw (by repeat (first | exact trivial | refine And.intro rfl ?_))))))))
            | lst x => exact
                (sd_cons (s1_set 4 (ed_call C_is_number (by omega) (⟨_, rfl, by assumption, rfl⟩) (ea_cons (ed_var 3 rfl) ea_nil)) nd)
                  (sd_if (EP'.et (ep_or (et_not (et_val (ed_isi (by exact tn_bool) (by exact kit_bool_bool) T.isinstance (ea_cons (ed_var 4 rfl) (ea_cons (ed_type T.bool (by decide +kernel)) ea_nil))))) fun h11 => (ep_or1 (et_ne rfl (ed_var 4 rfl) (ed_and (kb := false) (ed_call C__law_whole (by omega) (⟨_, rfl, by first | exact tn_int | assumption, rfl⟩) (ea_cons (ed_var 3 rfl) ea_nil)) fun h10 => (absurd h10 (by simp [wholeD])))))))
                    (fun h105 =>(absurd h105 (by simp [isNumD, wholeD, lt_le])))
                    (fun h105 =>
                      (sd_nil
                        (sd_nil (sd_endw (by repeat (first | exact trivial | refine And.intro rfl ?_))))))))
            | tup x => exact
                (sd_cons (s1_set 4 (ed_call C_is_number (by omega) (⟨_, rfl, by assumption, rfl⟩) (ea_cons (ed_var 3 rfl) ea_nil)) nd)
                  (sd_if (EP'.et (ep_or (et_not (et_val (ed_isi (by exact tn_bool) (by exact kit_bool_bool) T.isinstance (ea_cons (ed_var 4 rfl) (ea_cons (ed_type T.bool (by decide +kernel)) ea_nil))))) fun h13 => (ep_or1 (et_ne rfl (ed_var 4 rfl) (ed_and (kb := false) (ed_call C__law_whole (by omega) (⟨_, rfl, by first | exact tn_int | assumption, rfl⟩) (ea_cons (ed_var 3 rfl) ea_nil)) fun h12 => (absurd h12 (by simp [wholeD])))))))
                    (fun h106 =>(absurd h106 (by simp [isNumD, wholeD, lt_le])))
                    (fun h106 =>
                      (sd_nil
                        (sd_nil (sd_endw (by repeat (first | exact trivial | refine And.intro rfl ?_))))))))
            | dic x => exact
                (sd_cons (s1_set 4 (ed_call C_is_number (by omega) (⟨_, rfl, by assumption, rfl⟩) (ea_cons (ed_var 3 rfl) ea_nil)) nd)
                  (sd_if (EP'.et (ep_or (et_not (et_val (ed_isi (by exact tn_bool) (by exact kit_bool_bool) T.isinstance (ea_cons (ed_var 4 rfl) (ea_cons (ed_type T.bool (by decide +kernel)) ea_nil))))) fun h15 => (ep_or1 (et_ne rfl (ed_var 4 rfl) (ed_and (kb := false) (ed_call C__law_whole (by omega) (⟨_, rfl, by first | exact tn_int | assumption, rfl⟩) (ea_cons (ed_var 3 rfl) ea_nil)) fun h14 => (absurd h14 (by simp [wholeD])))))))
                    (fun h107 =>(absurd h107 (by simp [isNumD, wholeD, lt_le])))
                    (fun h107 =>
                      (sd_nil
                        (sd_nil (sd_endw (by repeat (first | exact trivial | refine And.intro rfl ?_))))))))
            | scr x => exact
                (sd_cons (s1_set 4 (ed_call C_is_number (by omega) (⟨_, rfl, by assumption, rfl⟩) (ea_cons (ed_var 3 rfl) ea_nil)) nd)
                  (sd_if (EP'.et (ep_or (et_not (et_val (ed_isi (by exact tn_bool) (by exact kit_bool_bool) T.isinstance (ea_cons (ed_var 4 rfl) (ea_cons (ed_type T.bool (by decide +kernel)) ea_nil))))) fun h17 => (ep_or1 (et_ne rfl (ed_var 4 rfl) (ed_and (kb := false) (ed_call C__law_whole (by omega) (⟨_, rfl, by first | exact tn_int | assumption, rfl⟩) (ea_cons (ed_var 3 rfl) ea_nil)) fun h16 => (absurd h16 (by simp [wholeD])))))))
                    (fun h108 =>(absurd h108 (by simp [isNumD, wholeD, lt_le])))
                    (fun h108 =>
                      (sd_nil
                        (sd_nil (sd_endw (by repeat (first | exact trivial | refine And.intro rfl ?_))))))))))
          (sd_rt (s1_ret (ED.is ed_bl (by first | rfl | (try clear nd; simp_all; done))))))))
abbrev s_law : Stmt := topS 29
abbrev n_law : List Str := ["_law_script", "_law_names_here", "_law_boxes_here", "_law_handed", "_law_k", "_law_number", "_law_made", "_law_found", "_law_question_here"]
abbrev e_law : Nm := ⟨n_law, defScope s_law, fun _ => true⟩
omit T in
theorem sc_law : FnScope n_law ["_law_script"] (defScope s_law) := ⟨rfl, rfl, rfl, by decide +kernel, rfl, by decide +kernel, by decide +kernel⟩
def R_law (ds : List D) (d : D) : Prop := ∃ ns : List Int, ds = [.scr ns] ∧ ns.length ≤ 63 ∧ d = .bl true
theorem b_law {ds : List D} {d : D} (C__law_cell_at : Call c 1 "_law_cell_at" (spP c.K R_cell_at)) (C__law_mixed : Call c 1 "_law_mixed" (spP c.K R_mixed)) (C__law_whole : Call c 1 "_law_whole" (spP c.K R_whole)) (C__law_names : Call c 1 "_law_names" (spO c.K R_names)) (C__law_sum : Call c 2 "_law_sum" (spP c.K R_sum)) (C__law_question : Call c 2 "_law_question" (spP c.K R_question)) (C__law_boxes : Call c 2 "_law_boxes" (spO c.K R_boxes)) (C_asked : Call c 2 "asked" (spP c.K R_asked)) (C_reckoned : Call c 3 "reckoned" (spP c.K R_reckoned)) (C__law_true : Call c 2 "_law_true" (spP c.K R_ltrue)) (C__law_reckoned : Call c 3 "_law_reckoned" (spP c.K R_lreckoned)) (C__law_known : Call c 2 "_law_known" (spP c.K R_known)) (hk : 3 ≤ c.k) (h : R_law ds d) : BodyD c e_law s_law (rho n_law ds) d := by
  have nd := sc_law.nd
  obtain ⟨ns, rfl, hl, rfl⟩ := h
  have hn := lawNames_len (cellAt ns 0)
  have hok := lawNames_ok (cellAt ns 0)
  have hb := lawBoxes_ok (cellAt ns 0) (lawNames (cellAt ns 0))
  left
  exact
    (sd_cons (s1_set 1 (EO.ed (eo_call C__law_names (by omega) (⟨_, rfl, rfl⟩) (ea_cons (ed_call C__law_cell_at (by omega) (⟨_, _, rfl, by omega, rfl⟩) (ea_cons (ed_var 0 rfl) (ea_cons ed_int ea_nil))) ea_nil))) nd)
      (sd_cons (s1_set 2 (EO.ed (eo_call C__law_boxes (by omega) (⟨_, _, rfl, hn, rfl⟩) (ea_cons (ed_call C__law_cell_at (by omega) (⟨_, _, rfl, by omega, rfl⟩) (ea_cons (ed_var 0 rfl) (ea_cons ed_int ea_nil))) (ea_cons (ed_var 1 rfl) ea_nil)))) nd)
        (sd_cons (s1_set 3 (EO.ed (eo_dictD T.dict (ea_cons (ed_var 2 rfl) ea_nil))) nd)
          (sd_cons (s1_forN 4 (if (ns.length : Int) < 30 then (ns.length : Int) else 30).toNat (fun _ => [.va (.scr ns), .va (.lst ((lawNames (cellAt ns 0)).map .str)), .va (.dic (bxD (lawBoxes (cellAt ns 0) (lawNames (cellAt ns 0))))), .va (.dic (bxD (lawBoxes (cellAt ns 0) (lawNames (cellAt ns 0))))), .no, .no, .no, .no, .no]) (id_range1 T.range (ea_cons (ed_min2 T.min (ea_cons ed_int (ea_cons (ed_lenC T.len (ea_cons (ed_var 0 rfl) ea_nil)) ea_nil))) ea_nil)) (rangeD_len _ _) nd (by repeat (first | exact trivial | refine And.intro rfl ?_)) (fun _ => by simp) (fun i d hd => by obtain ⟨hi, rfl⟩ := rangeD_inv hd; have hi2 : (0 + (i : Int)) < ns.length := (by split at hi <;> omega); exact
              (sd_cons (s1_set 5 (ed_call C__law_mixed (by omega) (⟨_, _, rfl, rfl⟩) (ea_cons (ed_ixc (ed_var 0 rfl) (ed_var 4 rfl) (by first | omega | (simp only [rangeD_len, List.length_set, List.length_cons, List.length_nil, List.length_map, List.length_append, List.length_range] <;> omega) | (simp <;> omega))) (ea_cons (ed_var 4 rfl) ea_nil))) nd)
                (sd_cons (s1_set 6 (ed_call C__law_sum (by omega) (⟨_, _, _, rfl, hn, rfl⟩) (ea_cons (ed_var 5 rfl) (ea_cons ed_str (ea_cons (ed_var 1 rfl) ea_nil)))) nd)
                  (sd_cons (s1_set 7 (ed_call C_reckoned (by omega) (⟨_, _, rfl, by first | exact lawSum_ok _ _ _ | assumption, by assumption, rfl⟩) (ea_cons (ed_var 6 rfl) (ea_cons (ed_var 3 rfl) ea_nil))) nd)
                    (sd_if (EP'.et (ep_or (et_not (et_val (ed_call C__law_whole (by omega) (⟨_, rfl, by first | exact tn_int | assumption, rfl⟩) (ea_cons (ed_var 7 rfl) ea_nil)))) fun h1 => (ep_or1 (et_ne rfl (ed_var 7 rfl) (ed_call C__law_reckoned (by omega) (⟨_, _, rfl, by first | exact lawSum_ok _ _ _ | assumption, by assumption, rfl⟩) (ea_cons (ed_var 6 rfl) (ea_cons (ed_var 2 rfl) ea_nil)))))))
                      (fun h100 =>(absurd h100 (by simp [wholeD])))
                      (fun h100 =>
                        (sd_nil
                          (sd_cons (s1_set 8 (ed_call C__law_question (by omega) (⟨_, _, rfl, hn, rfl⟩) (ea_cons (ed_fdiv ⟨by decide, by decide⟩ (ed_var 5 rfl) ed_int) (ea_cons (ed_var 1 rfl) ea_nil))) nd)
                            (sd_cons (s1_set 7 (ed_call C_asked (by omega) (⟨_, _, rfl, rfl⟩) (ea_cons (ed_var 8 rfl) (ea_cons (ed_var 3 rfl) ea_nil))) nd)
                              (sd_if (EP'.et (ep_or (et_not (et_val (ed_isi (by exact tn_bool) (by exact kit_bool_bool) T.isinstance (ea_cons (ed_var 7 rfl) (ea_cons (ed_type T.bool (by decide +kernel)) ea_nil))))) fun h2 => (ep_or1 (et_ne rfl (ed_var 7 rfl) (ed_call C__law_true (by omega) (⟨_, _, rfl, rfl⟩) (ea_cons (ed_var 8 rfl) (ea_cons (ed_var 2 rfl) ea_nil)))))))
                                (fun h101 =>(absurd h101 (by simp [wholeD])))
                                (fun h101 =>
                                  (sd_nil
                                    (sd_nil (sd_endw (by repeat (first | exact trivial | refine And.intro rfl ?_)))))))))))))))))
            (sd_rt (s1_ret (ED.is (ed_and (ed_same rfl rfl (bx_depth _) (ed_var 3 rfl) (ed_var 2 rfl)) fun h3 => (ed_one (ed_call C__law_known (by omega) (⟨_, rfl, hn, hok, rfl⟩) (ea_cons (ed_var 1 rfl) ea_nil)))) (by first | rfl | (try clear nd; simp_all; done)))))))))
end
theorem all_mk {l : PySem.W.OpenLaw} {w : World} {K : PySem.W.Frag} {h : Heap} {mg : Str → Option Value} {fa : Addr} (X : K.In h) (G : h.Ns mainGlobals mg) (hfa : mg "law" = some (.ref fa))
    {f_cell_at : Addr} {od0 an0 : Option Addr} {sl0 : Array (Option Value)} {oc0 kV0 dc0 pm0 cd0 ct0 : Value}
    {f_mixed : Addr} {od1 an1 : Option Addr} {sl1 : Array (Option Value)} {oc1 kV1 dc1 pm1 cd1 ct1 : Value}
    {f_whole : Addr} {od2 an2 : Option Addr} {sl2 : Array (Option Value)} {oc2 kV2 dc2 pm2 cd2 ct2 : Value}
    {f_names : Addr} {od3 an3 : Option Addr} {sl3 : Array (Option Value)} {oc3 kV3 dc3 pm3 cd3 ct3 : Value}
    {f_thing : Addr} {od4 an4 : Option Addr} {sl4 : Array (Option Value)} {oc4 kV4 dc4 pm4 cd4 ct4 : Value}
    {f_sum : Addr} {od5 an5 : Option Addr} {sl5 : Array (Option Value)} {oc5 kV5 dc5 pm5 cd5 ct5 : Value}
    {f_question : Addr} {od6 an6 : Option Addr} {sl6 : Array (Option Value)} {oc6 kV6 dc6 pm6 cd6 ct6 : Value}
    {f_boxes : Addr} {od7 an7 : Option Addr} {sl7 : Array (Option Value)} {oc7 kV7 dc7 pm7 cd7 ct7 : Value}
    {f_value : Addr} {od8 an8 : Option Addr} {sl8 : Array (Option Value)} {oc8 kV8 dc8 pm8 cd8 ct8 : Value}
    {f_holds : Addr} {od9 an9 : Option Addr} {sl9 : Array (Option Value)} {oc9 kV9 dc9 pm9 cd9 ct9 : Value}
    {f_asked : Addr} {od10 an10 : Option Addr} {sl10 : Array (Option Value)} {oc10 kV10 dc10 pm10 cd10 ct10 : Value}
    {f_reckoned : Addr} {od11 an11 : Option Addr} {sl11 : Array (Option Value)} {oc11 kV11 dc11 pm11 cd11 ct11 : Value}
    {f_lvalue : Addr} {od12 an12 : Option Addr} {sl12 : Array (Option Value)} {oc12 kV12 dc12 pm12 cd12 ct12 : Value}
    {f_ltrue : Addr} {od13 an13 : Option Addr} {sl13 : Array (Option Value)} {oc13 kV13 dc13 pm13 cd13 ct13 : Value}
    {f_lreckoned : Addr} {od14 an14 : Option Addr} {sl14 : Array (Option Value)} {oc14 kV14 dc14 pm14 cd14 ct14 : Value}
    {f_is_name : Addr} {od15 an15 : Option Addr} {sl15 : Array (Option Value)} {oc15 kV15 dc15 pm15 cd15 ct15 : Value}
    {f_is_number : Addr} {od16 an16 : Option Addr} {sl16 : Array (Option Value)} {oc16 kV16 dc16 pm16 cd16 ct16 : Value}
    {f_things : Addr} {od17 an17 : Option Addr} {sl17 : Array (Option Value)} {oc17 kV17 dc17 pm17 cd17 ct17 : Value}
    {f_known : Addr} {od18 an18 : Option Addr} {sl18 : Array (Option Value)} {oc18 kV18 dc18 pm18 cd18 ct18 : Value}
    {f_law : Addr} {od19 an19 : Option Addr} {sl19 : Array (Option Value)} {oc19 kV19 dc19 pm19 cd19 ct19 : Value}
    {t_MOST_SIGNS : Tok}
    {t_BOUND : Tok}
    {t_LETTERS : Tok}
    {t_FIGURES : Tok}
    {p_TAKEN : Addr} {dd_TAKEN : Option Addr} {its_TAKEN : Array Value} {m_TAKEN : Nat} {sl_TAKEN : Array (Option Value)}
    {p_ASKING : Addr} {dd_ASKING : Option Addr} {its_ASKING : Array Value} {m_ASKING : Nat} {sl_ASKING : Array (Option Value)}
    (a0 : PySem.W.nsIn K mainGlobals "_law_cell_at" = some (some (.ref f_cell_at)))
    (l0 : K.lookup f_cell_at = some ⟨oc0, od0, .func (PySem.W.fnOf "_law_cell_at" "_law_cell_at" (defArgs s_cell_at) (defBody s_cell_at) (defScope s_cell_at) .none kV0 dc0 pm0 an0 cd0 ct0), sl0⟩)
    (c0 : PySem.W.codeIn K cd0 "_law_cell_at" = true) (k0 : PySem.W.keepIn K (.ref f_cell_at) = true)
    (a1 : PySem.W.nsIn K mainGlobals "_law_mixed" = some (some (.ref f_mixed)))
    (l1 : K.lookup f_mixed = some ⟨oc1, od1, .func (PySem.W.fnOf "_law_mixed" "_law_mixed" (defArgs s_mixed) (defBody s_mixed) (defScope s_mixed) .none kV1 dc1 pm1 an1 cd1 ct1), sl1⟩)
    (c1 : PySem.W.codeIn K cd1 "_law_mixed" = true) (k1 : PySem.W.keepIn K (.ref f_mixed) = true)
    (a2 : PySem.W.nsIn K mainGlobals "_law_whole" = some (some (.ref f_whole)))
    (l2 : K.lookup f_whole = some ⟨oc2, od2, .func (PySem.W.fnOf "_law_whole" "_law_whole" (defArgs s_whole) (defBody s_whole) (defScope s_whole) .none kV2 dc2 pm2 an2 cd2 ct2), sl2⟩)
    (c2 : PySem.W.codeIn K cd2 "_law_whole" = true) (k2 : PySem.W.keepIn K (.ref f_whole) = true)
    (a3 : PySem.W.nsIn K mainGlobals "_law_names" = some (some (.ref f_names)))
    (l3 : K.lookup f_names = some ⟨oc3, od3, .func (PySem.W.fnOf "_law_names" "_law_names" (defArgs s_names) (defBody s_names) (defScope s_names) .none kV3 dc3 pm3 an3 cd3 ct3), sl3⟩)
    (c3 : PySem.W.codeIn K cd3 "_law_names" = true) (k3 : PySem.W.keepIn K (.ref f_names) = true)
    (a4 : PySem.W.nsIn K mainGlobals "_law_thing" = some (some (.ref f_thing)))
    (l4 : K.lookup f_thing = some ⟨oc4, od4, .func (PySem.W.fnOf "_law_thing" "_law_thing" (defArgs s_thing) (defBody s_thing) (defScope s_thing) .none kV4 dc4 pm4 an4 cd4 ct4), sl4⟩)
    (c4 : PySem.W.codeIn K cd4 "_law_thing" = true) (k4 : PySem.W.keepIn K (.ref f_thing) = true)
    (a5 : PySem.W.nsIn K mainGlobals "_law_sum" = some (some (.ref f_sum)))
    (l5 : K.lookup f_sum = some ⟨oc5, od5, .func (PySem.W.fnOf "_law_sum" "_law_sum" (defArgs s_sum) (defBody s_sum) (defScope s_sum) .none kV5 dc5 pm5 an5 cd5 ct5), sl5⟩)
    (c5 : PySem.W.codeIn K cd5 "_law_sum" = true) (k5 : PySem.W.keepIn K (.ref f_sum) = true)
    (a6 : PySem.W.nsIn K mainGlobals "_law_question" = some (some (.ref f_question)))
    (l6 : K.lookup f_question = some ⟨oc6, od6, .func (PySem.W.fnOf "_law_question" "_law_question" (defArgs s_question) (defBody s_question) (defScope s_question) .none kV6 dc6 pm6 an6 cd6 ct6), sl6⟩)
    (c6 : PySem.W.codeIn K cd6 "_law_question" = true) (k6 : PySem.W.keepIn K (.ref f_question) = true)
    (a7 : PySem.W.nsIn K mainGlobals "_law_boxes" = some (some (.ref f_boxes)))
    (l7 : K.lookup f_boxes = some ⟨oc7, od7, .func (PySem.W.fnOf "_law_boxes" "_law_boxes" (defArgs s_boxes) (defBody s_boxes) (defScope s_boxes) .none kV7 dc7 pm7 an7 cd7 ct7), sl7⟩)
    (c7 : PySem.W.codeIn K cd7 "_law_boxes" = true) (k7 : PySem.W.keepIn K (.ref f_boxes) = true)
    (a8 : PySem.W.nsIn K mainGlobals "value" = some (some (.ref f_value)))
    (l8 : K.lookup f_value = some ⟨oc8, od8, .func (PySem.W.fnOf "value" "value" (defArgs s_value) (defBody s_value) (defScope s_value) .none kV8 dc8 pm8 an8 cd8 ct8), sl8⟩)
    (c8 : PySem.W.codeIn K cd8 "value" = true) (k8 : PySem.W.keepIn K (.ref f_value) = true)
    (a9 : PySem.W.nsIn K mainGlobals "holds" = some (some (.ref f_holds)))
    (l9 : K.lookup f_holds = some ⟨oc9, od9, .func (PySem.W.fnOf "holds" "holds" (defArgs s_holds) (defBody s_holds) (defScope s_holds) .none kV9 dc9 pm9 an9 cd9 ct9), sl9⟩)
    (c9 : PySem.W.codeIn K cd9 "holds" = true) (k9 : PySem.W.keepIn K (.ref f_holds) = true)
    (a10 : PySem.W.nsIn K mainGlobals "asked" = some (some (.ref f_asked)))
    (l10 : K.lookup f_asked = some ⟨oc10, od10, .func (PySem.W.fnOf "asked" "asked" (defArgs s_asked) (defBody s_asked) (defScope s_asked) .none kV10 dc10 pm10 an10 cd10 ct10), sl10⟩)
    (c10 : PySem.W.codeIn K cd10 "asked" = true) (k10 : PySem.W.keepIn K (.ref f_asked) = true)
    (a11 : PySem.W.nsIn K mainGlobals "reckoned" = some (some (.ref f_reckoned)))
    (l11 : K.lookup f_reckoned = some ⟨oc11, od11, .func (PySem.W.fnOf "reckoned" "reckoned" (defArgs s_reckoned) (defBody s_reckoned) (defScope s_reckoned) .none kV11 dc11 pm11 an11 cd11 ct11), sl11⟩)
    (c11 : PySem.W.codeIn K cd11 "reckoned" = true) (k11 : PySem.W.keepIn K (.ref f_reckoned) = true)
    (a12 : PySem.W.nsIn K mainGlobals "_law_value" = some (some (.ref f_lvalue)))
    (l12 : K.lookup f_lvalue = some ⟨oc12, od12, .func (PySem.W.fnOf "_law_value" "_law_value" (defArgs s_lvalue) (defBody s_lvalue) (defScope s_lvalue) .none kV12 dc12 pm12 an12 cd12 ct12), sl12⟩)
    (c12 : PySem.W.codeIn K cd12 "_law_value" = true) (k12 : PySem.W.keepIn K (.ref f_lvalue) = true)
    (a13 : PySem.W.nsIn K mainGlobals "_law_true" = some (some (.ref f_ltrue)))
    (l13 : K.lookup f_ltrue = some ⟨oc13, od13, .func (PySem.W.fnOf "_law_true" "_law_true" (defArgs s_ltrue) (defBody s_ltrue) (defScope s_ltrue) .none kV13 dc13 pm13 an13 cd13 ct13), sl13⟩)
    (c13 : PySem.W.codeIn K cd13 "_law_true" = true) (k13 : PySem.W.keepIn K (.ref f_ltrue) = true)
    (a14 : PySem.W.nsIn K mainGlobals "_law_reckoned" = some (some (.ref f_lreckoned)))
    (l14 : K.lookup f_lreckoned = some ⟨oc14, od14, .func (PySem.W.fnOf "_law_reckoned" "_law_reckoned" (defArgs s_lreckoned) (defBody s_lreckoned) (defScope s_lreckoned) .none kV14 dc14 pm14 an14 cd14 ct14), sl14⟩)
    (c14 : PySem.W.codeIn K cd14 "_law_reckoned" = true) (k14 : PySem.W.keepIn K (.ref f_lreckoned) = true)
    (a15 : PySem.W.nsIn K mainGlobals "is_name" = some (some (.ref f_is_name)))
    (l15 : K.lookup f_is_name = some ⟨oc15, od15, .func (PySem.W.fnOf "is_name" "is_name" (defArgs s_is_name) (defBody s_is_name) (defScope s_is_name) .none kV15 dc15 pm15 an15 cd15 ct15), sl15⟩)
    (c15 : PySem.W.codeIn K cd15 "is_name" = true) (k15 : PySem.W.keepIn K (.ref f_is_name) = true)
    (a16 : PySem.W.nsIn K mainGlobals "is_number" = some (some (.ref f_is_number)))
    (l16 : K.lookup f_is_number = some ⟨oc16, od16, .func (PySem.W.fnOf "is_number" "is_number" (defArgs s_is_number) (defBody s_is_number) (defScope s_is_number) .none kV16 dc16 pm16 an16 cd16 ct16), sl16⟩)
    (c16 : PySem.W.codeIn K cd16 "is_number" = true) (k16 : PySem.W.keepIn K (.ref f_is_number) = true)
    (a17 : PySem.W.nsIn K mainGlobals "_law_things" = some (some (.ref f_things)))
    (l17 : K.lookup f_things = some ⟨oc17, od17, .func (PySem.W.fnOf "_law_things" "_law_things" (defArgs s_things) (defBody s_things) (defScope s_things) .none kV17 dc17 pm17 an17 cd17 ct17), sl17⟩)
    (c17 : PySem.W.codeIn K cd17 "_law_things" = true) (k17 : PySem.W.keepIn K (.ref f_things) = true)
    (a18 : PySem.W.nsIn K mainGlobals "_law_known" = some (some (.ref f_known)))
    (l18 : K.lookup f_known = some ⟨oc18, od18, .func (PySem.W.fnOf "_law_known" "_law_known" (defArgs s_known) (defBody s_known) (defScope s_known) .none kV18 dc18 pm18 an18 cd18 ct18), sl18⟩)
    (c18 : PySem.W.codeIn K cd18 "_law_known" = true) (k18 : PySem.W.keepIn K (.ref f_known) = true)
    (a19 : PySem.W.nsIn K mainGlobals "law" = some (some (.ref f_law)))
    (l19 : K.lookup f_law = some ⟨oc19, od19, .func (PySem.W.fnOf "law" "law" (defArgs s_law) (defBody s_law) (defScope s_law) .none kV19 dc19 pm19 an19 cd19 ct19), sl19⟩)
    (c19 : PySem.W.codeIn K cd19 "law" = true) (k19 : PySem.W.keepIn K (.ref f_law) = true)
    (z_len : PySem.W.nsIn K mainGlobals "len" = some none)
    (z_isinstance : PySem.W.nsIn K mainGlobals "isinstance" = some none)
    (z_int : PySem.W.nsIn K mainGlobals "int" = some none)
    (z_str : PySem.W.nsIn K mainGlobals "str" = some none)
    (z_bool : PySem.W.nsIn K mainGlobals "bool" = some none)
    (z_all : PySem.W.nsIn K mainGlobals "all" = some none)
    (z_min : PySem.W.nsIn K mainGlobals "min" = some none)
    (z_dict : PySem.W.nsIn K mainGlobals "dict" = some none)
    (z_range : PySem.W.nsIn K mainGlobals "range" = some none)
    (y_MOST_SIGNS : PySem.W.nsIn K mainGlobals "MOST_SIGNS" = some (some (.int 6 t_MOST_SIGNS)))
    (y_BOUND : PySem.W.nsIn K mainGlobals "BOUND" = some (some (.int 1000000 t_BOUND)))
    (y_LETTERS : PySem.W.nsIn K mainGlobals "LETTERS" = some (some (.str "abcdefghijklmnopqrstuvwxyz" t_LETTERS)))
    (y_FIGURES : PySem.W.nsIn K mainGlobals "FIGURES" = some (some (.str "0123456789" t_FIGURES)))
    (y_TAKEN : PySem.W.nsIn K mainGlobals "TAKEN" = some (some (.ref p_TAKEN)))
    (u_TAKEN : K.lookup p_TAKEN = some ⟨.type "tuple", dd_TAKEN, .seq its_TAKEN m_TAKEN, sl_TAKEN⟩)
    (V_TAKEN : Vals ((["block", "if", "else", "fi", "from", "loop", "until", "call", "undo", "push", "pull"] : List Str).map V.str) its_TAKEN.toList)
    (y_ASKING : PySem.W.nsIn K mainGlobals "ASKING" = some (some (.ref p_ASKING)))
    (u_ASKING : K.lookup p_ASKING = some ⟨.type "tuple", dd_ASKING, .seq its_ASKING m_ASKING, sl_ASKING⟩)
    (V_ASKING : Vals ((["<", "=", ">=", "!="] : List Str).map V.str) its_ASKING.toList)
    : ∃ fd : FuncData, (∀ (s : Shared) (v : Value), BindsTo s fd ⟨[v], []⟩ [("_law_script", v)]) ∧ ∀ base : Heap, K.In base → base.Ns mainGlobals mg → FnOk l.prog w K mg base CX0 4 fa fd ["_law_script"] (spP K R_law) := by
  have e := hfa.symm.trans (PySem.W.mg_of X G a19)
  cases e
  have F0 := fun_mk (st := s_cell_at) l0 c0 k0
  have F1 := fun_mk (st := s_mixed) l1 c1 k1
  have F2 := fun_mk (st := s_whole) l2 c2 k2
  have F3 := fun_mk (st := s_names) l3 c3 k3
  have F4 := fun_mk (st := s_thing) l4 c4 k4
  have F5 := fun_mk (st := s_sum) l5 c5 k5
  have F6 := fun_mk (st := s_question) l6 c6 k6
  have F7 := fun_mk (st := s_boxes) l7 c7 k7
  have F8 := fun_mk (st := s_value) l8 c8 k8
  have F9 := fun_mk (st := s_holds) l9 c9 k9
  have F10 := fun_mk (st := s_asked) l10 c10 k10
  have F11 := fun_mk (st := s_reckoned) l11 c11 k11
  have F12 := fun_mk (st := s_lvalue) l12 c12 k12
  have F13 := fun_mk (st := s_ltrue) l13 c13 k13
  have F14 := fun_mk (st := s_lreckoned) l14 c14 k14
  have F15 := fun_mk (st := s_is_name) l15 c15 k15
  have F16 := fun_mk (st := s_is_number) l16 c16 k16
  have F17 := fun_mk (st := s_things) l17 c17 k17
  have F18 := fun_mk (st := s_known) l18 c18 k18
  have F19 := fun_mk (st := s_law) l19 c19 k19
  have b0 := F0.binds (ps := ["_law_script", "_law_k"]) fun _ _ _ _ _ _ us hl => match us, hl with | [_, _], _ => rfl
  have b1 := F1.binds (ps := ["_law_cell", "_law_k"]) fun _ _ _ _ _ _ us hl => match us, hl with | [_, _], _ => rfl
  have b2 := F2.binds (ps := ["_law_found"]) fun _ _ _ _ _ _ us hl => match us, hl with | [_], _ => rfl
  have b3 := F3.binds (ps := ["_law_cell"]) fun _ _ _ _ _ _ us hl => match us, hl with | [_], _ => rfl
  have b4 := F4.binds (ps := ["_law_number", "_law_own", "_law_names_here"]) fun _ _ _ _ _ _ us hl => match us, hl with | [_, _, _], _ => rfl
  have b5 := F5.binds (ps := ["_law_number", "_law_own", "_law_names_here"]) fun _ _ _ _ _ _ us hl => match us, hl with | [_, _, _], _ => rfl
  have b6 := F6.binds (ps := ["_law_number", "_law_names_here"]) fun _ _ _ _ _ _ us hl => match us, hl with | [_, _], _ => rfl
  have b7 := F7.binds (ps := ["_law_cell", "_law_names_here"]) fun _ _ _ _ _ _ us hl => match us, hl with | [_, _], _ => rfl
  have b8 := F8.binds (ps := ["thing", "boxes"]) fun _ _ _ _ _ _ us hl => match us, hl with | [_, _], _ => rfl
  have b9 := F9.binds (ps := ["sign", "one", "other"]) fun _ _ _ _ _ _ us hl => match us, hl with | [_, _, _], _ => rfl
  have b10 := F10.binds (ps := ["question", "boxes"]) fun _ _ _ _ _ _ us hl => match us, hl with | [_, _], _ => rfl
  have b11 := F11.binds (ps := ["made", "boxes"]) fun _ _ _ _ _ _ us hl => match us, hl with | [_, _], _ => rfl
  have b12 := F12.binds (ps := ["_law_thing_here", "_law_boxes_here"]) fun _ _ _ _ _ _ us hl => match us, hl with | [_, _], _ => rfl
  have b13 := F13.binds (ps := ["_law_question_here", "_law_boxes_here"]) fun _ _ _ _ _ _ us hl => match us, hl with | [_, _], _ => rfl
  have b14 := F14.binds (ps := ["_law_made", "_law_boxes_here"]) fun _ _ _ _ _ _ us hl => match us, hl with | [_, _], _ => rfl
  have b15 := F15.binds (ps := ["thing"]) fun _ _ _ _ _ _ us hl => match us, hl with | [_], _ => rfl
  have b16 := F16.binds (ps := ["thing"]) fun _ _ _ _ _ _ us hl => match us, hl with | [_], _ => rfl
  have b17 := F17.binds (ps := ["_law_names_here"]) fun _ _ _ _ _ _ us hl => match us, hl with | [_], _ => rfl
  have b18 := F18.binds (ps := ["_law_names_here"]) fun _ _ _ _ _ _ us hl => match us, hl with | [_], _ => rfl
  have b19 := F19.binds (ps := ["_law_script"]) fun _ _ _ _ _ _ us hl => match us, hl with | [_], _ => rfl
  refine ⟨PySem.W.fnOf "law" "law" (defArgs s_law) (defBody s_law) (defScope s_law) .none kV19 dc19 pm19 an19 cd19 ct19, fun s v => .of_eq rfl, fun base _ _ => ?_⟩
  have T : ∀ k, Tx ⟨l.prog, w, K, mg, base, k⟩ := fun k => {
    len := PySem.W.mg_none_of X G z_len
    isinstance := PySem.W.mg_none_of X G z_isinstance
    int := PySem.W.mg_none_of X G z_int
    str := PySem.W.mg_none_of X G z_str
    bool := PySem.W.mg_none_of X G z_bool
    all := PySem.W.mg_none_of X G z_all
    min := PySem.W.mg_none_of X G z_min
    dict := PySem.W.mg_none_of X G z_dict
    range := PySem.W.mg_none_of X G z_range
    c_MOST_SIGNS := fun hg => ed_glob (v := .int 6) (PySem.W.mg_of X G y_MOST_SIGNS) ⟨_, rfl⟩ (fun _ => .int _) hg
    c_BOUND := fun hg => ed_glob (v := .int 1000000) (PySem.W.mg_of X G y_BOUND) ⟨_, rfl⟩ (fun _ => .int _) hg
    c_LETTERS := fun hg => ed_glob (v := .str "abcdefghijklmnopqrstuvwxyz") (PySem.W.mg_of X G y_LETTERS) ⟨_, rfl⟩ (fun _ => .str _) hg
    c_FIGURES := fun hg => ed_glob (v := .str "0123456789") (PySem.W.mg_of X G y_FIGURES) ⟨_, rfl⟩ (fun _ => .str _) hg
    c_TAKEN := fun hg => ed_glob (v := .ref p_TAKEN) (PySem.W.mg_of X G y_TAKEN) rfl (fun _ => .tup (.inr ⟨_, its_TAKEN, m_TAKEN, u_TAKEN, rfl, rfl, by have := V_TAKEN.length; simp at this; rw [← this]; decide, V_TAKEN⟩) (RepL.strs _)) hg
    c_ASKING := fun hg => ed_glob (v := .ref p_ASKING) (PySem.W.mg_of X G y_ASKING) rfl (fun _ => .tup (.inr ⟨_, its_ASKING, m_ASKING, u_ASKING, rfl, rfl, by have := V_ASKING.length; simp at this; rw [← this]; decide, V_ASKING⟩) (RepL.strs _)) hg
  }
  have N_cell_at : FnOk l.prog w K mg base CX0 1 f_cell_at _ _ (spP K R_cell_at) := fn_P F0 sc_cell_at (by rintro ds d ⟨_, _, rfl, _⟩; rfl) (fun ds d h => b_cell_at (T _)  h)
  have C__law_cell_at : Call ⟨l.prog, w, K, mg, base, 0⟩ 1 "_law_cell_at" (spP K R_cell_at) := ⟨f_cell_at, _, _, N_cell_at, PySem.W.mg_of X G a0, k0, b0⟩
  have N_mixed : FnOk l.prog w K mg base CX0 1 f_mixed _ _ (spP K R_mixed) := fn_P F1 sc_mixed (by rintro ds d ⟨_, _, rfl, _⟩; rfl) (fun ds d h => b_mixed (T _)  h)
  have C__law_mixed : Call ⟨l.prog, w, K, mg, base, 0⟩ 1 "_law_mixed" (spP K R_mixed) := ⟨f_mixed, _, _, N_mixed, PySem.W.mg_of X G a1, k1, b1⟩
  have N_whole : FnOk l.prog w K mg base CX0 1 f_whole _ _ (spP K R_whole) := fn_P F2 sc_whole (by rintro ds d ⟨_, rfl, _⟩; rfl) (fun ds d h => b_whole (T _)  h)
  have C__law_whole : Call ⟨l.prog, w, K, mg, base, 0⟩ 1 "_law_whole" (spP K R_whole) := ⟨f_whole, _, _, N_whole, PySem.W.mg_of X G a2, k2, b2⟩
  have N_names : FnOk l.prog w K mg base CX0 1 f_names _ _ (spO K R_names) := fn_O F3 sc_names (by rintro ds d ⟨_, rfl, _⟩; rfl) (fun ds d h => b_names (T _)  h)
  have C__law_names : Call ⟨l.prog, w, K, mg, base, 0⟩ 1 "_law_names" (spO K R_names) := ⟨f_names, _, _, N_names, PySem.W.mg_of X G a3, k3, b3⟩
  have N_thing : FnOk l.prog w K mg base CX0 1 f_thing _ _ (spP K R_thing) := fn_P F4 sc_thing (by rintro ds d ⟨_, _, _, rfl, _⟩; rfl) (fun ds d h => b_thing (T _)  h)
  have C__law_thing : Call ⟨l.prog, w, K, mg, base, 0⟩ 1 "_law_thing" (spP K R_thing) := ⟨f_thing, _, _, N_thing, PySem.W.mg_of X G a4, k4, b4⟩
  have N_sum : FnOk l.prog w K mg base CX0 2 f_sum _ _ (spP K R_sum) := fn_P F5 sc_sum (by rintro ds d ⟨_, _, _, rfl, _⟩; rfl) (fun ds d h => b_sum (T _) (C__law_thing.at _) (Nat.le_refl _) h)
  have C__law_sum : Call ⟨l.prog, w, K, mg, base, 0⟩ 2 "_law_sum" (spP K R_sum) := ⟨f_sum, _, _, N_sum, PySem.W.mg_of X G a5, k5, b5⟩
  have N_question : FnOk l.prog w K mg base CX0 2 f_question _ _ (spP K R_question) := fn_P F6 sc_question (by rintro ds d ⟨_, _, rfl, _⟩; rfl) (fun ds d h => b_question (T _) (C__law_thing.at _) (Nat.le_refl _) h)
  have C__law_question : Call ⟨l.prog, w, K, mg, base, 0⟩ 2 "_law_question" (spP K R_question) := ⟨f_question, _, _, N_question, PySem.W.mg_of X G a6, k6, b6⟩
  have N_boxes : FnOk l.prog w K mg base CX0 2 f_boxes _ _ (spO K R_boxes) := fn_O F7 sc_boxes (by rintro ds d ⟨_, _, rfl, _⟩; rfl) (fun ds d h => b_boxes (T _) (C__law_mixed.at _) (Nat.le_refl _) h)
  have C__law_boxes : Call ⟨l.prog, w, K, mg, base, 0⟩ 2 "_law_boxes" (spO K R_boxes) := ⟨f_boxes, _, _, N_boxes, PySem.W.mg_of X G a7, k7, b7⟩
  have N_value : FnOk l.prog w K mg base CX0 1 f_value _ _ (spP K R_value) := fn_P F8 sc_value (by rintro ds d ⟨_, _, rfl, _⟩; rfl) (fun ds d h => b_value (T _)  h)
  have C_value : Call ⟨l.prog, w, K, mg, base, 0⟩ 1 "value" (spP K R_value) := ⟨f_value, _, _, N_value, PySem.W.mg_of X G a8, k8, b8⟩
  have N_holds : FnOk l.prog w K mg base CX0 1 f_holds _ _ (spP K R_holds) := fn_P F9 sc_holds (by rintro ds d ⟨_, _, _, rfl, _⟩; rfl) (fun ds d h => b_holds (T _)  h)
  have C_holds : Call ⟨l.prog, w, K, mg, base, 0⟩ 1 "holds" (spP K R_holds) := ⟨f_holds, _, _, N_holds, PySem.W.mg_of X G a9, k9, b9⟩
  have N_asked : FnOk l.prog w K mg base CX0 2 f_asked _ _ (spP K R_asked) := fn_P F10 sc_asked (by rintro ds d ⟨_, _, rfl, _⟩; rfl) (fun ds d h => b_asked (T _) (C_value.at _) (C_holds.at _) (Nat.le_refl _) h)
  have C_asked : Call ⟨l.prog, w, K, mg, base, 0⟩ 2 "asked" (spP K R_asked) := ⟨f_asked, _, _, N_asked, PySem.W.mg_of X G a10, k10, b10⟩
  have N_reckoned : FnOk l.prog w K mg base CX0 3 f_reckoned _ _ (spP K R_reckoned) := fn_P F11 sc_reckoned (by rintro ds d ⟨_, _, rfl, _⟩; rfl) (fun ds d h => b_reckoned (T _) (C_value.at _) (C_asked.at _) (Nat.le_refl _) h)
  have C_reckoned : Call ⟨l.prog, w, K, mg, base, 0⟩ 3 "reckoned" (spP K R_reckoned) := ⟨f_reckoned, _, _, N_reckoned, PySem.W.mg_of X G a11, k11, b11⟩
  have N_lvalue : FnOk l.prog w K mg base CX0 1 f_lvalue _ _ (spP K R_lvalue) := fn_P F12 sc_lvalue (by rintro ds d ⟨_, _, rfl, _⟩; rfl) (fun ds d h => b_lvalue (T _)  h)
  have C__law_value : Call ⟨l.prog, w, K, mg, base, 0⟩ 1 "_law_value" (spP K R_lvalue) := ⟨f_lvalue, _, _, N_lvalue, PySem.W.mg_of X G a12, k12, b12⟩
  have N_ltrue : FnOk l.prog w K mg base CX0 2 f_ltrue _ _ (spP K R_ltrue) := fn_P F13 sc_ltrue (by rintro ds d ⟨_, _, rfl, _⟩; rfl) (fun ds d h => b_ltrue (T _) (C__law_value.at _) (Nat.le_refl _) h)
  have C__law_true : Call ⟨l.prog, w, K, mg, base, 0⟩ 2 "_law_true" (spP K R_ltrue) := ⟨f_ltrue, _, _, N_ltrue, PySem.W.mg_of X G a13, k13, b13⟩
  have N_lreckoned : FnOk l.prog w K mg base CX0 3 f_lreckoned _ _ (spP K R_lreckoned) := fn_P F14 sc_lreckoned (by rintro ds d ⟨_, _, rfl, _⟩; rfl) (fun ds d h => b_lreckoned (T _) (C__law_value.at _) (C__law_true.at _) (Nat.le_refl _) h)
  have C__law_reckoned : Call ⟨l.prog, w, K, mg, base, 0⟩ 3 "_law_reckoned" (spP K R_lreckoned) := ⟨f_lreckoned, _, _, N_lreckoned, PySem.W.mg_of X G a14, k14, b14⟩
  have N_is_name : FnOk l.prog w K mg base CX0 1 f_is_name _ _ (spP K R_is_name) := fn_P F15 sc_is_name (by rintro ds d ⟨_, rfl, _⟩; rfl) (fun ds d h => b_is_name (T _)  h)
  have C_is_name : Call ⟨l.prog, w, K, mg, base, 0⟩ 1 "is_name" (spP K R_is_name) := ⟨f_is_name, _, _, N_is_name, PySem.W.mg_of X G a15, k15, b15⟩
  have N_is_number : FnOk l.prog w K mg base CX0 1 f_is_number _ _ (spP K R_is_number) := fn_P F16 sc_is_number (by rintro ds d ⟨_, rfl, _⟩; rfl) (fun ds d h => b_is_number (T _)  h)
  have C_is_number : Call ⟨l.prog, w, K, mg, base, 0⟩ 1 "is_number" (spP K R_is_number) := ⟨f_is_number, _, _, N_is_number, PySem.W.mg_of X G a16, k16, b16⟩
  have N_things : FnOk l.prog w K mg base CX0 1 f_things _ _ (spP K R_things) := fn_P F17 sc_things (by rintro ds d ⟨_, rfl, _⟩; rfl) (fun ds d h => b_things (T _)  h)
  have C__law_things : Call ⟨l.prog, w, K, mg, base, 0⟩ 1 "_law_things" (spP K R_things) := ⟨f_things, _, _, N_things, PySem.W.mg_of X G a17, k17, b17⟩
  have N_known : FnOk l.prog w K mg base CX0 2 f_known _ _ (spP K R_known) := fn_P F18 sc_known (by rintro ds d ⟨_, rfl, _⟩; rfl) (fun ds d h => b_known (T _) (C__law_whole.at _) (C_is_name.at _) (C_is_number.at _) (C__law_things.at _) (Nat.le_refl _) h)
  have C__law_known : Call ⟨l.prog, w, K, mg, base, 0⟩ 2 "_law_known" (spP K R_known) := ⟨f_known, _, _, N_known, PySem.W.mg_of X G a18, k18, b18⟩
  have N_law : FnOk l.prog w K mg base CX0 4 fa _ _ (spP K R_law) := fn_P F19 sc_law (by rintro ds d ⟨_, rfl, _⟩; rfl) (fun ds d h => b_law (T _) (C__law_cell_at.at _) (C__law_mixed.at _) (C__law_whole.at _) (C__law_names.at _) (C__law_sum.at _) (C__law_question.at _) (C__law_boxes.at _) (C_asked.at _) (C_reckoned.at _) (C__law_true.at _) (C__law_reckoned.at _) (C__law_known.at _) (Nat.le_refl _) h)
  exact N_law
theorem walk {l : PySem.W.OpenLaw} {q : Program} {loose : List Str} {XP : (Str → Option Value) → Heap → Prop} {YP : World → Heap → Prop} {d : DefRec} {K : Params → PySem.W.Frag} (hn : l.most = some 63) (hdf : d.params.defaults = [])
    (hY : ∀ (w : World) (h : Heap), YP w h → (K w.params).In h)
    (F : ∀ (w : World) (mg : Str → Option Value) (fa : Addr) (h : Heap), (K w.params).In h → h.Ns mainGlobals mg → mg d.name = some (.ref fa) →
      ∃ fd : FuncData, (∀ (s : Shared) (u : Value), BindsTo s fd ⟨[u], []⟩ [("_law_script", u)]) ∧ ∀ base : Heap, (K w.params).In base → base.Ns mainGlobals mg → FnOk l.prog w (K w.params) mg base CX0 4 fa fd ["_law_script"] (spP (K w.params) R_law)) :
    PySem.W.WalkO q loose XP YP l.row.toRowW d [] (fun f vs => PySem.call f vs) :=
  L2.walk_of (n := 63) (k := 4) (x := "_law_script") (CX := fun _ => CX0) (sp := fun w => spP (K w.params) R_law) hn (by decide) hdf ⟨rfl, by decide, by decide⟩ hY F
    (fun w H a ns hl _ hS => ⟨H, [.scr ns], .bl true, Same.refl H, .cons (.scr hS) .nil, ⟨ns, rfl, hl, rfl⟩, fun v F' H' _ r => by cases r; rfl⟩) fun _ _ _ _ _ z => z
end DL
open PySem PySem.W PyProof.Rows
set_option maxRecDepth 100000 in
set_option maxHeartbeats 0 in
theorem PySem.Challenge.cw_turnedrun_k01_sums_and_questions_holds : PySem.Challenge.rw_turnedrun_k01_sums_and_questions.Holds := by
  w_on; o_law; k_head; (case hw => w_witness2)
  k_fill
  refine DL.walk (l := PySem.Challenge.rw_turnedrun_k01_sums_and_questions) rfl rfl (fun w h Y => PySem.W.kIn_of Y) ?F
  case F =>
    intro w mg fa h KX G hmg
    refine' DL.all_mk KX G hmg ?a0 ?l0 ?c0 ?k0 ?a1 ?l1 ?c1 ?k1 ?a2 ?l2 ?c2 ?k2 ?a3 ?l3 ?c3 ?k3 ?a4 ?l4 ?c4 ?k4 ?a5 ?l5 ?c5 ?k5 ?a6 ?l6 ?c6 ?k6 ?a7 ?l7 ?c7 ?k7 ?a8 ?l8 ?c8 ?k8 ?a9 ?l9 ?c9 ?k9 ?a10 ?l10 ?c10 ?k10 ?a11 ?l11 ?c11 ?k11 ?a12 ?l12 ?c12 ?k12 ?a13 ?l13 ?c13 ?k13 ?a14 ?l14 ?c14 ?k14 ?a15 ?l15 ?c15 ?k15 ?a16 ?l16 ?c16 ?k16 ?a17 ?l17 ?c17 ?k17 ?a18 ?l18 ?c18 ?k18 ?a19 ?l19 ?c19 ?k19 ?z_len ?z_isinstance ?z_int ?z_str ?z_bool ?z_all ?z_min ?z_dict ?z_range ?y_MOST_SIGNS ?y_BOUND ?y_LETTERS ?y_FIGURES ?y_TAKEN ?u_TAKEN ?V_TAKEN ?y_ASKING ?u_ASKING ?V_ASKING
    (case a0 => k_is)
    (case l0 => k_is)
    (case c0 => k_is)
    (case k0 => k_is)
    (case a1 => k_is)
    (case l1 => k_is)
    (case c1 => k_is)
    (case k1 => k_is)
    (case a2 => k_is)
    (case l2 => k_is)
    (case c2 => k_is)
    (case k2 => k_is)
    (case a3 => k_is)
    (case l3 => k_is)
    (case c3 => k_is)
    (case k3 => k_is)
    (case a4 => k_is)
    (case l4 => k_is)
    (case c4 => k_is)
    (case k4 => k_is)
    (case a5 => k_is)
    (case l5 => k_is)
    (case c5 => k_is)
    (case k5 => k_is)
    (case a6 => k_is)
    (case l6 => k_is)
    (case c6 => k_is)
    (case k6 => k_is)
    (case a7 => k_is)
    (case l7 => k_is)
    (case c7 => k_is)
    (case k7 => k_is)
    (case a8 => k_is)
    (case l8 => k_is)
    (case c8 => k_is)
    (case k8 => k_is)
    (case a9 => k_is)
    (case l9 => k_is)
    (case c9 => k_is)
    (case k9 => k_is)
    (case a10 => k_is)
    (case l10 => k_is)
    (case c10 => k_is)
    (case k10 => k_is)
    (case a11 => k_is)
    (case l11 => k_is)
    (case c11 => k_is)
    (case k11 => k_is)
    (case a12 => k_is)
    (case l12 => k_is)
    (case c12 => k_is)
    (case k12 => k_is)
    (case a13 => k_is)
    (case l13 => k_is)
    (case c13 => k_is)
    (case k13 => k_is)
    (case a14 => k_is)
    (case l14 => k_is)
    (case c14 => k_is)
    (case k14 => k_is)
    (case a15 => k_is)
    (case l15 => k_is)
    (case c15 => k_is)
    (case k15 => k_is)
    (case a16 => k_is)
    (case l16 => k_is)
    (case c16 => k_is)
    (case k16 => k_is)
    (case a17 => k_is)
    (case l17 => k_is)
    (case c17 => k_is)
    (case k17 => k_is)
    (case a18 => k_is)
    (case l18 => k_is)
    (case c18 => k_is)
    (case k18 => k_is)
    (case a19 => k_is)
    (case l19 => k_is)
    (case c19 => k_is)
    (case k19 => k_is)
    (case z_len => k_is)
    (case z_isinstance => k_is)
    (case z_int => k_is)
    (case z_str => k_is)
    (case z_bool => k_is)
    (case z_all => k_is)
    (case z_min => k_is)
    (case z_dict => k_is)
    (case z_range => k_is)
    (case y_MOST_SIGNS => k_is)
    (case y_BOUND => k_is)
    (case y_LETTERS => k_is)
    (case y_FIGURES => k_is)
    (case y_TAKEN => k_is)
    (case u_TAKEN => k_is)
    (case V_TAKEN => repeat (first | exact .nil | refine .cons ⟨_, rfl⟩ ?_))
    (case y_ASKING => k_is)
    (case u_ASKING => k_is)
    (case V_ASKING => repeat (first | exact .nil | refine .cons ⟨_, rfl⟩ ?_))

