import PyProof.Rows.All
import Wide.All
import OpenK.AllK
import Wide.FinOn
import HandS.ForMost
import HandS.ForExc
import HandS.IsInst
import HandS.TupAny
import HandS.ExcInit
import HandS.More
import KE.KEqNest
import HandS.WordsDict
import HandS.Style
import HandS.Flt
import KE.KIndexOf
import KE.DataEq
import HandS.ExcCtx
import HandS.ExcInitHot
import HandS.Strs
import HandS.Text
import HandS.RaiseMore
import KE.KExcIs
import HandS.ExcIs
import HandS.HotCalls
import PySem.Challenge.RW_turnedrun_k03_what_is_no_program
set_option Elab.async false
set_option linter.all false
set_option maxRecDepth 100000
set_option maxHeartbeats 4000000
namespace DL
open PySem L2
def isStar : Expr → Bool
  | .Starred _ _ => true
  | _ => false
def noStar : List Expr → Bool
  | [] => true
  | e :: es => !isStar e && noStar es
theorem star_cons {e : Expr} {es : List Expr} (h : isStar e = false) (env : Env) : starEach (e :: es) env = (false, eval e env) :: starEach es env := by
  cases e <;> first
    | rfl
    | exact absurd h (by simp [isStar])
theorem star_one {e : Expr} (h : isStar e = false) (env : Env) : starEach [e] env = [(false, eval e env)] := by rw [star_cons h]; rfl
theorem star_two {a b : Expr} (h : isStar a = false) (h2 : isStar b = false) (env : Env) : starEach [a, b] env = [(false, eval a env), (false, eval b env)] := by rw [star_cons h, star_one h2]
theorem star_no : ∀ {es : List Expr}, noStar es = true → ∀ env, (starEach es env).any (·.1) = false
  | [], _, _ => rfl
  | e :: es, h, env => by
    rw [noStar, Bool.and_eq_true, Bool.not_eq_true'] at h
    rw [star_cons h.1, List.any_cons, star_no h.2 env]
    rfl
theorem star_any {es : List Expr} (h : noStar es = true) (pos : Pos) (env : Env) : (backTo pos (starEach es env)).any (·.1) = false := by
  rw [← star_no h env]
  unfold backTo
  rw [List.any_map]
  rfl
def isCmp : Expr → Bool
  | .ListComp _ _ _ _ => true
  | .SetComp _ _ _ _ => true
  | .DictComp _ _ _ _ _ => true
  | _ => false
theorem swap_no {e : Expr} (h : isCmp e = false) (t : Option Expr) (n : Nat) (env : Env) : swapsWith e t n env = pure false := by
  cases e <;> first
    | rfl
    | exact absurd h (by simp [isCmp])
theorem sole_no {e : Expr} (h : isCmp e = false) (t : Expr) (n : Nat) (env : Env) : swapsWithSole [t] e n env = pure false := swap_no h _ n env
def isTup : Expr → Bool
  | .Tuple _ _ _ => true
  | _ => false
theorem stores_no {e : Expr} (h : isTup e = false) (t : Expr) (env : Env) : swappedStores [t] e env = pure none := by
  cases e
  case Tuple => cases h
  all_goals (cases t <;> rfl)
def isPlain : Expr → Bool
  | .UnaryOp .Not _ _ => false
  | .BoolOp _ _ _ => false
  | .IfExp _ _ _ _ => false
  | .Compare _ _ _ _ => false
  | _ => true
theorem test_plain {e : Expr} (h : isPlain e = true) (env : Env) (whole : Sem Value) : isTrue e env whole = (do let v ← whole; standAt e.pos; holding [v] (truthy v)) := by
  cases e
  case UnaryOp op _ _ => cases op <;> first | rfl | (exact Bool.noConfusion h)
  case BoolOp => exact Bool.noConfusion h
  case IfExp => exact Bool.noConfusion h
  case Compare => exact Bool.noConfusion h
  all_goals rfl
def isSetD : Expr → Bool
  | .Set _ _ _ => true
  | _ => false
theorem fold_no {e : Expr} (h : isSetD e = false) (env : Env) (x : Value) : foldedSetIterable e env x = pure x := by
  cases e <;> first
    | rfl
    | exact absurd h (by simp [isSetD])
def isCall0 : Expr → Bool
  | .Call _ [] _ _ => true
  | _ => false
theorem base_no {o : Expr} (h : isCall0 o = false) (m : Str) (env : Env) (w : Sem Value) : attributeBase o m env w = w := by
  unfold attributeBase
  split
  · exact absurd h (by simp [isCall0])
  · rfl
def isSlc : Expr → Bool
  | .Slice _ _ _ _ => true
  | _ => false
theorem ix_plain {b : Expr} (h : isSlc b = false) : PlainIx b := fun o i => by
  cases b <;> first
    | rfl
    | exact absurd h (by simp [isSlc])
theorem ix_nosl {b : Expr} (h : isSlc b = false) : NoSl b := fun o i => by
  cases b <;> first
    | rfl
    | exact absurd h (by simp [isSlc])
theorem m2_ok {X : Cx} {o e f : Expr} {m : Str} {apos pos : Pos} (ho : isCall0 o = false) (he : isStar e = false) (hf : isStar f = false) (hl : (apos.endLine == pos.line) = true) : M2 X o m apos e f pos := by
  refine ⟨base_no ho m _ _, ?_, hl, ?_⟩
  · rw [star_two he hf]; rfl
  · rw [star_two he hf]; rfl
end DL

set_option Elab.async false
set_option linter.all false
set_option maxRecDepth 100000
set_option maxHeartbeats 4000000
namespace DL
open PySem L2

inductive D where
  | non | bl (b : Bool) | int (i : Int) | str (x : Str) | tup (xs : List D) | lst (xs : List D) | dic (kvs : List (Str × D)) | scr (ns : List Int) | ty (n : String) | ref (a : Addr) | ins (C dx : Addr) (N : List Str) (xs : List D) | exc (a C : Addr) (d : D)

mutual
/-- a value bears data, in the part F of the heap that stays -/
inductive Rep (K : PySem.W.Frag) (F : Hp) : V → D → Prop
  | non : Rep K F .non .non
  | bl (b : Bool) : Rep K F (.bl b) (.bl b)
  | int (i : Int) : Rep K F (.int i) (.int i)
  | str (x : Str) : Rep K F (.str x) (.str x)
  | ty (n : String) : Rep K F (.ty n) (.ty n)
  | tup {a : Addr} {vs : List V} {ds : List D} : SqT K F a vs → RepL K F vs ds → Rep K F (.ref a) (.tup ds)
  | lst {a : Addr} {vs : List V} {ds : List D} : F a = some (.lst vs) → RepL K F vs ds → Rep K F (.ref a) (.lst ds)
  | dic {a : Addr} {kvs : List (Key × V)} {ks : List (Str × D)} : Rd F a (.dK kvs) → RepK K F kvs ks → Rep K F (.ref a) (.dic ks)
  | scr {a : Addr} {ns : List Int} : SqL K F a (ns.map V.int) → Rep K F (.ref a) (.scr ns)
  | ref (a : Addr) : Rep K F (.ref a) (.ref a)
  | exc {a C dx : Addr} {v : V} {d : D} : F a = some (exo a C (some dx)) → F dx = some (exd dx [("at", v)]) → Rep K F v d → Rep K F (.ref a) (.exc a C d)
inductive RepL (K : PySem.W.Frag) (F : Hp) : List V → List D → Prop
  | nil : RepL K F [] []
  | cons {v : V} {vs : List V} {d : D} {ds : List D} : Rep K F v d → RepL K F vs ds → RepL K F (v :: vs) (d :: ds)
inductive RepK (K : PySem.W.Frag) (F : Hp) : List (Key × V) → List (Str × D) → Prop
  | nil : RepK K F [] []
  | cons {x : Str} {v : V} {vs : List (Key × V)} {d : D} {ds : List (Str × D)} : Rep K F v d → RepK K F vs ds → RepK K F ((Sum.inr x, v) :: vs) ((x, d) :: ds)
end
section
variable {K : PySem.W.Frag} {F F' : Hp}
theorem same_rd {a : Addr} {u : HO} (e : Same F F') (h : Rd F a u) : Rd F' a u := by
  rcases h with h | ⟨o, h⟩
  · exact .inl (e a _ h)
  · exact .inr ⟨o, e a _ h⟩
theorem same_T {a : Addr} {vs : List V} (e : Same F F') (h : SqT K F a vs) : SqT K F' a vs := by
  rcases h with h | h
  · exact .inl (same_rd e h)
  · exact .inr h
mutual
theorem Rep.mono (e : Same F F') : ∀ {v : V} {d : D}, Rep K F v d → Rep K F' v d
  | _, _, .non => .non
  | _, _, .bl b => .bl b
  | _, _, .int i => .int i
  | _, _, .str x => .str x
  | _, _, .ty n => .ty n
  | _, _, .tup h r => .tup (same_T e h) (RepL.mono e r)
  | _, _, .lst h r => .lst (e _ _ h) (RepL.mono e r)
  | _, _, .dic h r => .dic (same_rd e h) (RepK.mono e r)
  | _, _, .scr h => .scr (e.seq h)
  | _, _, .ref a => .ref a
  | _, _, .exc h1 h2 r => .exc (e _ _ h1) (e _ _ h2) (Rep.mono e r)
theorem RepL.mono (e : Same F F') : ∀ {vs : List V} {ds : List D}, RepL K F vs ds → RepL K F' vs ds
  | _, _, .nil => .nil
  | _, _, .cons h r => .cons (Rep.mono e h) (RepL.mono e r)
theorem RepK.mono (e : Same F F') : ∀ {vs : List (Key × V)} {ds : List (Str × D)}, RepK K F vs ds → RepK K F' vs ds
  | _, _, .nil => .nil
  | _, _, .cons h r => .cons (Rep.mono e h) (RepK.mono e r)
end
theorem RepL.length : ∀ {vs : List V} {ds : List D}, RepL K F vs ds → vs.length = ds.length
  | _, _, .nil => rfl
  | _, _, .cons _ r => congrArg (· + 1) r.length
theorem RepL.get : ∀ {vs : List V} {ds : List D} {i : Nat} {d : D}, RepL K F vs ds → ds[i]? = some d → ∃ v, vs[i]? = some v ∧ Rep K F v d
  | _, _, _, _, .nil, e => by simp at e
  | _, _, 0, _, .cons h _, e => by simp at e; subst e; exact ⟨_, rfl, h⟩
  | _, _, i + 1, _, .cons _ r, e => by
    obtain ⟨v, h1, h2⟩ := r.get (i := i) (by simpa using e)
    exact ⟨v, by simpa using h1, h2⟩
theorem RepL.append : ∀ {vs ws : List V} {ds es : List D}, RepL K F vs ds → RepL K F ws es → RepL K F (vs ++ ws) (ds ++ es)
  | _, _, _, _, .nil, s => s
  | _, _, _, _, .cons h r, s => .cons h (r.append s)
theorem RepL.take : ∀ (n : Nat) {vs : List V} {ds : List D}, RepL K F vs ds → RepL K F (vs.take n) (ds.take n)
  | 0, _, _, _ => .nil
  | _ + 1, _, _, .nil => .nil
  | n + 1, _, _, .cons h r => .cons h (RepL.take n r)
theorem RepL.drop : ∀ (n : Nat) {vs : List V} {ds : List D}, RepL K F vs ds → RepL K F (vs.drop n) (ds.drop n)
  | 0, _, _, r => r
  | _ + 1, _, _, .nil => .nil
  | n + 1, _, _, .cons _ r => RepL.drop n r
theorem RepL.reverse : ∀ {vs : List V} {ds : List D}, RepL K F vs ds → RepL K F vs.reverse ds.reverse
  | _, _, .nil => .nil
  | _, _, .cons h r => by
    rw [List.reverse_cons, List.reverse_cons]
    exact r.reverse.append (.cons h .nil)
theorem RepL.set {v : V} {d : D} (h : Rep K F v d) : ∀ (i : Nat) {vs : List V} {ds : List D}, RepL K F vs ds → RepL K F (vs.set i v) (ds.set i d)
  | _, _, _, .nil => .nil
  | 0, _, _, .cons _ r => .cons h r
  | i + 1, _, _, .cons q r => .cons q (RepL.set h i r)
theorem RepL.ints : ∀ (ns : List Int), RepL K F (ns.map V.int) (ns.map D.int)
  | [] => .nil
  | n :: r => .cons (.int n) (RepL.ints r)
theorem RepL.strs_inv : ∀ {ns : List Str} {vs : List V}, RepL K F vs (ns.map D.str) → vs = ns.map V.str
  | [], _, .nil => rfl
  | n :: r, _, .cons h t => by cases h; rw [RepL.strs_inv t]; rfl
theorem RepL.bls_inv : ∀ {ns : List Bool} {vs : List V}, RepL K F vs (ns.map D.bl) → vs = ns.map V.bl
  | [], _, .nil => rfl
  | n :: r, _, .cons h t => by cases h; rw [RepL.bls_inv t]; rfl
end

structure Grow (F H F' H' : Hp) : Prop where
  f : Same F F'
  h : Same H H'
  fh : Same F' H'
  sep : ∀ a o, H a = some o → F a = none → F' a = none
theorem Grow.refl {F H : Hp} (h : Same F H) : Grow F H F H := ⟨Same.refl F, Same.refl H, h, fun _ _ _ e => e⟩
theorem Grow.trans {F H F1 H1 F2 H2 : Hp} (a : Grow F H F1 H1) (b : Grow F1 H1 F2 H2) : Grow F H F2 H2 :=
  ⟨a.f.trans b.f, a.h.trans b.h, b.fh, fun x o e n => b.sep x o (a.h x o e) (a.sep x o e n)⟩
theorem same_upd {H : Hp} {a : Addr} {o : HO} (n : H a = none) : Same H (upd H a o) := fun b u e => by
  rw [upd_ne (ne_of_none e n)]
  exact e
theorem same_updB {F H : Hp} {a : Addr} {o : HO} (s : Same F H) : Same (upd F a o) (upd H a o) := fun b u e => by
  by_cases h : b = a
  · subst h; rw [upd_same] at e ⊢; exact e
  · rw [upd_ne h] at e ⊢; exact s b u e
theorem same_mut {F H : Hp} {a : Addr} {o : HO} (s : Same F H) (n : F a = none) : Same F (upd H a o) := fun b u e => by
  rw [upd_ne (ne_of_none e n)]
  exact s b u e
theorem Grow.new {F H : Hp} {a : Addr} {o : HO} (s : Same F H) (n : H a = none) : Grow F H (upd F a o) (upd H a o) :=
  ⟨same_upd (s.free n), same_upd n, same_updB s, fun b u e z => by rw [upd_ne (ne_of_none e n)]; exact z⟩
theorem Grow.apart {F H : Hp} {a : Addr} {o : HO} (s : Same F H) (n : H a = none) : Grow F H F (upd H a o) :=
  ⟨Same.refl F, same_upd n, same_mut s (s.free n), fun _ _ _ z => z⟩
theorem Grow.shrink {F H F' H' : Hp} (s : Same F H) (g : Same H H') : Grow F H F H' := ⟨Same.refl F, g, s.trans g, fun _ _ _ z => z⟩

def FRep (K : PySem.W.Frag) (F : Hp) (fs : List (Str × V)) (N : List Str) (xs : List D) : Prop := fs.map (·.1) = N ∧ RepL K F (fs.map (·.2)) xs
theorem FRep.mono {K : PySem.W.Frag} {F F' : Hp} (e : Same F F') {fs : List (Str × V)} {N : List Str} {xs : List D} (h : FRep K F fs N xs) : FRep K F' fs N xs := ⟨h.1, h.2.mono e⟩
inductive Sl where
  | no | va (d : D) | ow (d : D)
structure Rho where
  s : List Sl
  w : List (Addr × D)
namespace Rho
def set (ρ : Rho) (i : Nat) (x : Sl) : Rho := ⟨ρ.s.set i x, ρ.w⟩
def length (ρ : Rho) : Nat := ρ.s.length
instance : Coe (List Sl) Rho := ⟨fun s => ⟨s, []⟩⟩
instance : GetElem? Rho Nat Sl (fun ρ i => i < ρ.s.length) where
  getElem ρ i h := ρ.s[i]
  getElem? ρ i := ρ.s[i]?
theorem get_set_ne {ρ : Rho} {i j : Nat} {x : Sl} (h : i ≠ j) : (ρ.set i x)[j]? = ρ[j]? := List.getElem?_set_ne h
theorem get_set_self {ρ : Rho} {i : Nat} {x : Sl} (h : i < ρ.length) : (ρ.set i x)[i]? = some x := List.getElem?_set_self h
@[simp] theorem length_mk {s : List Sl} {w : List (Addr × D)} : (Rho.mk s w).length = s.length := rfl
@[simp] theorem set_mk {s : List Sl} {w : List (Addr × D)} {i : Nat} {x : Sl} : (Rho.mk s w).set i x = ⟨s.set i x, w⟩ := rfl
@[simp] theorem len_set {ρ : Rho} {i : Nat} {x : Sl} : (ρ.set i x).length = ρ.length := List.length_set
theorem lt_of {ρ : Rho} {i : Nat} {s : Sl} (e : ρ[i]? = some s) : i < ρ.length := (List.getElem?_eq_some_iff.mp e).1
theorem none_of {ρ : Rho} {i : Nat} (h : ρ.length ≤ i) : ρ[i]? = none := List.getElem?_eq_none h
end Rho

def Obj (K : PySem.W.Frag) (F : Hp) (o : Option HO) (d : D) : Prop :=
  (∃ vs ds, o = some (.lst vs) ∧ d = .lst ds ∧ RepL K F vs ds) ∨ (∃ kvs ks, o = some (.dK kvs) ∧ d = .dic ks ∧ RepK K F kvs ks)
theorem Obj.mono {K : PySem.W.Frag} {F F' : Hp} {o : Option HO} {d : D} (e : Same F F') (h : Obj K F o d) : Obj K F' o d := by
  rcases h with ⟨vs, ds, h1, h2, h3⟩ | ⟨vs, ds, h1, h2, h3⟩
  · exact .inl ⟨vs, ds, h1, h2, h3.mono e⟩
  · exact .inr ⟨vs, ds, h1, h2, h3.mono e⟩
theorem Obj.some {K : PySem.W.Frag} {F : Hp} {o : Option HO} {d : D} (h : Obj K F o d) : ∃ u, o = some u := by
  rcases h with ⟨vs, ds, h1, _⟩ | ⟨vs, ds, h1, _⟩
  · exact ⟨_, h1⟩
  · exact ⟨_, h1⟩
theorem Obj.froze {K : PySem.W.Frag} {F : Hp} {a : Addr} {u : HO} {d : D} (n : F a = none) (h : Obj K F (Option.some u) d) : Rep K (upd F a u) (.ref a) d := by
  rcases h with ⟨vs, ds, h1, rfl, h3⟩ | ⟨vs, ds, h1, rfl, h3⟩
  · cases h1
    exact .lst upd_same (h3.mono (same_upd n))
  · cases h1
    exact .dic (.inl upd_same) (h3.mono (same_upd n))
def ObjW (K : PySem.W.Frag) (F : Hp) (o : Option HO) (d : D) : Prop :=
  Obj K F o d ∨ (∃ C dx fs N xs, o = some (.ins C dx fs) ∧ d = .ins C dx N xs ∧ FRep K F fs N xs) ∨ (∃ ob vs ds, o = some (.frz ob (.tup vs)) ∧ ob.dict = none ∧ d = .tup ds ∧ RepL K F vs ds)
theorem ObjW.mono {K : PySem.W.Frag} {F F' : Hp} {o : Option HO} {d : D} (e : Same F F') (h : ObjW K F o d) : ObjW K F' o d := by
  rcases h with h | ⟨C, dx, fs, N, xs, h1, h2, h3⟩ | ⟨ob, vs, ds, h1, h2, h3, h4⟩
  · exact .inl (h.mono e)
  · exact .inr (.inl ⟨C, dx, fs, N, xs, h1, h2, h3.mono e⟩)
  · exact .inr (.inr ⟨ob, vs, ds, h1, h2, h3, h4.mono e⟩)
theorem ObjW.some {K : PySem.W.Frag} {F : Hp} {o : Option HO} {d : D} (h : ObjW K F o d) : ∃ u, o = some u := by
  rcases h with h | ⟨_, _, _, _, _, h1, _⟩ | ⟨_, _, _, h1, _⟩
  · exact h.some
  · exact ⟨_, h1⟩
  · exact ⟨_, h1⟩

def SlOk (K : PySem.W.Frag) (H0 F H : Hp) (v : Option (Option V)) : Sl → Prop
  | .no => True
  | .va d => ∃ u, v = some (some u) ∧ Rep K F u d
  | .ow d => ∃ a, v = some (some (.ref a)) ∧ F a = none ∧ H0 a = none ∧ Obj K F (H a) d
structure WOk (K : PySem.W.Frag) (H0 F H : Hp) (w : List (Addr × D)) : Prop where
  ob : ∀ a d, (a, d) ∈ w → F a = none ∧ H0 a = none ∧ ObjW K F (H a) d
  nd : (w.map (·.1)).Nodup
theorem WOk.nil {K : PySem.W.Frag} {H0 F H : Hp} : WOk K H0 F H [] := ⟨fun _ _ h => (by cases h), List.nodup_nil⟩
theorem WOk.grow {K : PySem.W.Frag} {H0 F H F' H' : Hp} {w : List (Addr × D)} (W : WOk K H0 F H w) (g : Grow F H F' H') : WOk K H0 F' H' w := by
  refine ⟨fun a d h => ?_, W.nd⟩
  obtain ⟨n, n0, o⟩ := W.ob a d h
  obtain ⟨u, hu⟩ := o.some
  refine ⟨g.sep a u hu n, n0, ?_⟩
  rw [g.h a u hu, ← hu]
  exact o.mono g.f

structure Stt (K : PySem.W.Frag) (F0 H0 : Hp) (ρ : Rho) (σ : St) (F H : Hp) : Prop where
  g : Grow F0 H0 F H
  len : σ.length = ρ.length
  sl : ∀ (i : Nat) (s : Sl), ρ[i]? = some s → SlOk K H0 F H σ[i]? s
  ne : ∀ (i j : Nat) (d e : D) (a : Addr), ρ[i]? = some (.ow d) → ρ[j]? = some (.ow e) → σ[i]? = some (some (.ref a)) → σ[j]? = some (some (.ref a)) → i = j
  w : WOk K H0 F H ρ.w
  ws : ∀ (i : Nat) (d : D) (a : Addr), ρ[i]? = some (.ow d) → σ[i]? = some (some (.ref a)) → ∀ e, (a, e) ∉ ρ.w

section
variable {K : PySem.W.Frag} {F0 H0 F H F' H' : Hp} {ρ : Rho} {σ : St}
theorem Stt.fh (S : Stt K F0 H0 ρ σ F H) : Same F H := S.g.fh
theorem Stt.grow (S : Stt K F0 H0 ρ σ F H) (g : Grow F H F' H') : Stt K F0 H0 ρ σ F' H' := by
  refine ⟨S.g.trans g, S.len, fun i s e => ?_, S.ne, S.w.grow g, S.ws⟩
  have h := S.sl i s e
  cases s with
  | no => exact trivial
  | va d =>
    obtain ⟨u, e1, r⟩ := h
    exact ⟨u, e1, r.mono g.f⟩
  | ow d =>
    obtain ⟨a, e1, n, n0, o⟩ := h
    obtain ⟨u, hu⟩ := o.some
    refine ⟨a, e1, g.sep a u hu n, n0, ?_⟩
    rw [g.h a u hu, ← hu]
    exact o.mono g.f
theorem Stt.setN (S : Stt K F0 H0 ρ σ F H) {i : Nat} {v : V} {s : Sl} (hi : i < ρ.length) (hs : ∀ d, s ≠ .ow d) (r : SlOk K H0 F H (some (some v)) s) : Stt K F0 H0 (ρ.set i s) (σ.set i (some v)) F H := by
  have old : ∀ (j : Nat) (d : D) (b : Addr), (ρ.set i s)[j]? = some (.ow d) → (σ.set i (some v))[j]? = some (some (.ref b)) → ρ[j]? = some (.ow d) ∧ σ[j]? = some (some (.ref b)) := fun j d b e1 e2 => by
    have h1 : i ≠ j := fun z => by subst z; rw [Rho.get_set_self hi] at e1; exact hs _ (Option.some.inj e1)
    rw [Rho.get_set_ne h1] at e1
    rw [List.getElem?_set_ne h1] at e2
    exact ⟨e1, e2⟩
  refine ⟨S.g, by rw [List.length_set, Rho.len_set, S.len], fun j t e => ?_, fun j k d1 d2 a e1 e2 e3 e4 => ?_, S.w, fun j d b e1 e2 => ?_⟩
  · by_cases h : i = j
    · subst h
      rw [Rho.get_set_self hi] at e
      cases e
      rw [List.getElem?_set_self (by rw [S.len]; exact hi)]
      exact r
    · rw [Rho.get_set_ne h] at e
      rw [List.getElem?_set_ne h]
      exact S.sl j t e
  · obtain ⟨h1, h2⟩ := old j d1 a e1 e3
    obtain ⟨h3, h4⟩ := old k d2 a e2 e4
    exact S.ne j k d1 d2 a h1 h3 h2 h4
  · obtain ⟨h1, h2⟩ := old j d b e1 e2
    exact S.ws j d b h1 h2
theorem Stt.set_va (S : Stt K F0 H0 ρ σ F H) {i : Nat} {v : V} {d : D} (hi : i < ρ.length) (r : Rep K F v d) : Stt K F0 H0 (ρ.set i (.va d)) (σ.set i (some v)) F H :=
  S.setN hi (fun _ => nofun) ⟨v, rfl, r⟩
theorem Stt.own_there (S : Stt K F0 H0 ρ σ F H) {i : Nat} {d : D} {a : Addr} (e : ρ[i]? = some (.ow d)) (h : σ[i]? = some (some (.ref a))) : (∃ u, H a = some u) ∧ F a = none ∧ H0 a = none ∧ Obj K F (H a) d := by
  obtain ⟨b, e1, n, n0, o⟩ := S.sl i _ e
  rw [h] at e1
  cases e1
  exact ⟨o.some, n, n0, o⟩
theorem Stt.set_ow (S : Stt K F0 H0 ρ σ F H) {i : Nat} {a : Addr} {d : D} (g : Grow F H F' H') (hi : i < ρ.length) (n : F' a = none) (n0 : H a = none) (o : Obj K F' (H' a) d) : Stt K F0 H0 (ρ.set i (.ow d)) (σ.set i (some (.ref a))) F' H' := by
  have S' := S.grow g
  have fresh : ∀ (j : Nat) (e : D) (b : Addr), ρ[j]? = some (.ow e) → σ[j]? = some (some (.ref b)) → b ≠ a := fun j e b h1 h2 => by
    obtain ⟨⟨u, hu⟩, _⟩ := S.own_there h1 h2
    exact ne_of_none hu n0
  have freshW : ∀ e, (a, e) ∉ ρ.w := fun e h => by
    obtain ⟨_, _, o⟩ := S.w.ob a e h
    obtain ⟨u, hu⟩ := o.some
    rw [n0] at hu; cases hu
  refine ⟨S'.g, by rw [List.length_set, Rho.len_set, S.len], fun j s e => ?_, fun j k d1 d2 b e1 e2 e3 e4 => ?_, S'.w, fun j d1 b e1 e2 => ?_⟩
  · by_cases h : i = j
    · subst h
      rw [Rho.get_set_self hi] at e
      cases e
      exact ⟨a, by rw [List.getElem?_set_self (by rw [S.len]; exact hi)], n, S.g.h.free n0, o⟩
    · rw [Rho.get_set_ne h] at e
      rw [List.getElem?_set_ne h]
      exact S'.sl j s e
  · by_cases h1 : i = j
    · subst h1
      by_cases h2 : i = k
      · exact h2
      · rw [Rho.get_set_ne h2] at e2
        rw [List.getElem?_set_ne h2] at e4
        rw [List.getElem?_set_self (by rw [S.len]; exact hi)] at e3
        cases e3
        exact absurd rfl (fresh k d2 _ e2 e4)
    · rw [Rho.get_set_ne h1] at e1
      rw [List.getElem?_set_ne h1] at e3
      by_cases h2 : i = k
      · subst h2
        rw [List.getElem?_set_self (by rw [S.len]; exact hi)] at e4
        cases e4
        exact absurd rfl (fresh j d1 _ e1 e3)
      · rw [Rho.get_set_ne h2] at e2
        rw [List.getElem?_set_ne h2] at e4
        exact S.ne j k d1 d2 b e1 e2 e3 e4
  · by_cases h1 : i = j
    · subst h1
      rw [List.getElem?_set_self (by rw [S.len]; exact hi)] at e2
      cases e2
      exact freshW
    · rw [Rho.get_set_ne h1] at e1
      rw [List.getElem?_set_ne h1] at e2
      exact S.ws j d1 b e1 e2
theorem Stt.mut (S : Stt K F0 H0 ρ σ F H) {i : Nat} {a : Addr} {d d' : D} {u : HO} (e : ρ[i]? = some (.ow d)) (h : σ[i]? = some (some (.ref a))) (o : Obj K F (some u) d') : Stt K F0 H0 (ρ.set i (.ow d')) σ F (upd H a u) := by
  obtain ⟨⟨w, hw⟩, n, n0, _⟩ := S.own_there e h
  have hi : i < ρ.length := Rho.lt_of e
  have other : ∀ (j : Nat) (e' : D) (b : Addr), i ≠ j → ρ[j]? = some (.ow e') → σ[j]? = some (some (.ref b)) → b ≠ a := fun j e' b hj h1 h2 z => by
    subst z
    exact hj (S.ne i j _ _ _ e h1 h h2)
  refine ⟨⟨S.g.f, fun b x z => ?_, same_mut S.fh n, S.g.sep⟩, by rw [Rho.len_set, S.len], fun j s e1 => ?_, fun j k d1 d2 b e1 e2 e3 e4 => ?_, ⟨fun b d2 hb => ?_, S.w.nd⟩, fun j d1 b e1 e2 => ?_⟩
  · rw [upd_ne (ne_of_none z n0)]
    exact S.g.h b x z
  · by_cases hj : i = j
    · subst hj
      rw [Rho.get_set_self hi] at e1
      cases e1
      exact ⟨a, h, n, n0, by rw [upd_same]; exact o⟩
    · rw [Rho.get_set_ne hj] at e1
      have q := S.sl j s e1
      cases s with
      | no => exact trivial
      | va d => exact q
      | ow d2 =>
        obtain ⟨b, h1, h2, h3, h4⟩ := q
        exact ⟨b, h1, h2, h3, by rw [upd_ne (other j d2 b hj e1 h1)]; exact h4⟩
  · by_cases hj : i = j
    · subst hj
      by_cases hk : i = k
      · exact hk
      · rw [Rho.get_set_ne hk] at e2
        rw [h] at e3
        cases e3
        exact absurd rfl (other k d2 _ hk e2 e4)
    · rw [Rho.get_set_ne hj] at e1
      by_cases hk : i = k
      · subst hk
        rw [h] at e4
        cases e4
        exact absurd rfl (other j d1 _ hj e1 e3)
      · rw [Rho.get_set_ne hk] at e2
        exact S.ne j k d1 d2 b e1 e2 e3 e4
  · obtain ⟨n2, n3, o2⟩ := S.w.ob b d2 hb
    have hne : b ≠ a := fun z => by subst z; exact S.ws i d b e h d2 hb
    exact ⟨n2, n3, by rw [upd_ne hne]; exact o2⟩
  · by_cases hj : i = j
    · subst hj
      exact S.ws i d b e e2
    · rw [Rho.get_set_ne hj] at e1
      exact S.ws j d1 b e1 e2
theorem Stt.freeze (S : Stt K F0 H0 ρ σ F H) {i : Nat} {d : D} (e : ρ[i]? = some (.ow d)) : ∃ F', Same F F' ∧ Stt K F0 H0 (ρ.set i (.va d)) σ F' H := by
  obtain ⟨a, h, n, n0, o⟩ := S.sl i _ e
  obtain ⟨u, hu⟩ := o.some
  have hi : i < ρ.length := Rho.lt_of e
  have other : ∀ (j : Nat) (e' : D) (b : Addr), i ≠ j → ρ[j]? = some (.ow e') → σ[j]? = some (some (.ref b)) → b ≠ a := fun j e' b hj h1 h2 z => by
    subst z
    exact hj (S.ne i j _ _ _ e h1 h h2)
  have s1 : Same F (upd F a u) := same_upd n
  have s2 : Same (upd F a u) H := fun b x z => by
    by_cases hb : b = a
    · subst hb; rw [upd_same] at z; cases z; exact hu
    · rw [upd_ne hb] at z; exact S.fh b x z
  rw [hu] at o
  refine ⟨upd F a u, s1, ⟨S.g.f.trans s1, S.g.h, s2, fun b x z q => ?_⟩, by rw [Rho.len_set, S.len], fun j s e1 => ?_, fun j k d1 d2 b e1 e2 e3 e4 => ?_, ⟨fun b d2 hb => ?_, S.w.nd⟩, fun j d1 b e1 e2 => ?_⟩
  · rw [upd_ne (ne_of_none z n0)]
    exact S.g.sep b x z q
  · by_cases hj : i = j
    · subst hj
      rw [Rho.get_set_self hi] at e1
      cases e1
      exact ⟨_, h, o.froze n⟩
    · rw [Rho.get_set_ne hj] at e1
      have q := S.sl j s e1
      cases s with
      | no => exact trivial
      | va d =>
        obtain ⟨u', e5, r⟩ := q
        exact ⟨u', e5, r.mono s1⟩
      | ow d2 =>
        obtain ⟨b, h1, h2, h3, h4⟩ := q
        exact ⟨b, h1, by rw [upd_ne (other j d2 b hj e1 h1)]; exact h2, h3, h4.mono s1⟩
  · have hj : i ≠ j := fun z => by subst z; rw [Rho.get_set_self hi] at e1; cases e1
    have hk : i ≠ k := fun z => by subst z; rw [Rho.get_set_self hi] at e2; cases e2
    rw [Rho.get_set_ne hj] at e1
    rw [Rho.get_set_ne hk] at e2
    exact S.ne j k d1 d2 b e1 e2 e3 e4
  · obtain ⟨n2, n3, o2⟩ := S.w.ob b d2 hb
    have hne : b ≠ a := fun z => by subst z; exact S.ws i d b e h d2 hb
    exact ⟨by rw [upd_ne hne]; exact n2, n3, o2.mono s1⟩
  · have hj : i ≠ j := fun z => by subst z; rw [Rho.get_set_self hi] at e1; cases e1
    rw [Rho.get_set_ne hj] at e1
    exact S.ws j d1 b e1 e2
end
theorem Stt.less {K : PySem.W.Frag} {F0 H0 F H : Hp} {ρ ρ' : Rho} {σ : St} (S : Stt K F0 H0 ρ σ F H) (hl : ρ'.length = ρ.length) (hs : ∀ (i : Nat) (s : Sl), ρ'[i]? = some s → s = .no ∨ ρ[i]? = some s) (hw : ρ'.w.Sublist ρ.w) : Stt K F0 H0 ρ' σ F H := by
  have own : ∀ (i : Nat) (d : D), ρ'[i]? = some (.ow d) → ρ[i]? = some (.ow d) := fun i d e => by
    rcases hs i _ e with z | z
    · cases z
    · exact z
  refine ⟨S.g, S.len.trans hl.symm, fun i s e => ?_, fun i j d1 d2 a e1 e2 e3 e4 => S.ne i j d1 d2 a (own i d1 e1) (own j d2 e2) e3 e4, ⟨fun a d h => S.w.ob a d (hw.subset h), (hw.map _).nodup S.w.nd⟩, fun i d a e1 e2 e h => S.ws i d a (own i d e1) e2 e (hw.subset h)⟩
  rcases hs i s e with rfl | h
  · exact trivial
  · exact S.sl i s h
def rho (N : List Str) (ds : List D) : Rho := ⟨ds.map .va ++ List.replicate (N.length - ds.length) .no, []⟩
end DL

set_option Elab.async false
set_option linter.all false
set_option maxRecDepth 100000
set_option maxHeartbeats 4000000
namespace DL
open PySem L2

structure Cc where
  P : Program
  w : World
  K : PySem.W.Frag
  mg : Str → Option Value
  base : Heap
  k : Nat
structure Nm where
  N : List Str
  sc : Scope
  own : Str → Bool

structure Cin (c : Cc) (η : Nm) (X : Cx) : Prop where
  prog : X.prog = c.P
  w : X.w = c.w
  K : X.K = c.K
  mg : X.mg = c.mg
  base : X.base = c.base
  N : X.N = η.N
  sc : X.env.scope = η.sc
  room : Room c.k X.A
  calm : X.calm = true
  fn : ∀ x, η.own x = true → X.fn x = true
  po : PassesOwn (model X.prog X.w) X.A X.env X.xe

variable {c : Cc} {η : Nm}

def WE (c : Cc) (η : Nm) (e : Expr) : TE := fun σ H Q => ∀ X, Cin c η X → ∀ pins s, Inv X pins σ H s → wpAny (model X.prog X.w) X.A (eval e X.env) (EP X pins σ Q) X.xe s
def WT (c : Cc) (η : Nm) (e : Expr) : TT := fun σ H Q => ∀ X, Cin c η X → ∀ pins s, Inv X pins σ H s → wpAny (model X.prog X.w) X.A (isTrue e X.env (eval e X.env)) (TP X pins σ Q) X.xe s
def WP (c : Cc) (η : Nm) (e : Expr) : TT := fun σ H Q => ∀ X, Cin c η X → ∀ whole pins s, Inv X pins σ H s → wpAny (model X.prog X.w) X.A (isTrue e X.env whole) (TP X pins σ Q) X.xe s
def WA (c : Cc) (η : Nm) (es : List Expr) : TA := fun σ H Q => ∀ X, Cin c η X → ∀ (pos : Pos) pins s, Inv X pins σ H s → wpAny (model X.prog X.w) X.A (spliced (backTo pos (starEach es X.env))) (AP X pins σ Q) X.xe s
def WS (c : Cc) (η : Nm) (st : Stmt) : TS := fun D σ H => ∀ X, Cin c η X → ∀ pins s, Inv X pins σ H s → wpAny (model X.prog X.w) X.A (exec st X.env) (SP X pins D) X.xe s
def WB (c : Cc) (η : Nm) (st : List Stmt) : TS := fun D σ H => ∀ X, Cin c η X → ∀ pins s, Inv X pins σ H s → wpAny (model X.prog X.w) X.A (execs st X.env) (SP X pins D) X.xe s
def WG (c : Cc) (η : Nm) (tg : Expr) : TG := fun v σ H Q => ∀ X, Cin c η X → ∀ pins s u, Inv X pins σ H s → RelV v u → wpAny (model X.prog X.w) X.A (assign tg X.env u) (fun _ s' => ∃ σ' H', Inv X pins σ' H' s' ∧ Q σ' H') X.xe s
def WI (c : Cc) (η : Nm) (tg iter : Expr) : TI := fun σ H R => ∀ X, Cin c η X → ∀ pins s, Inv X pins σ H s →
  wpAny (model X.prog X.w) X.A (eval iter X.env) (fun v s1 => wpAny (model X.prog X.w) X.A (pyIter v) (PIE X pins σ tg R) X.xe s1) X.xe s

theorem WE.pe {e : Expr} {X : Cx} (hX : Cin c η X) : PE X e (WE c η e) := ⟨fun pins s _ _ _ I h => h X hX pins s I⟩
theorem WT.pt {e : Expr} {X : Cx} (hX : Cin c η X) : PT X e (WT c η e) := ⟨fun pins s _ _ _ I h => h X hX pins s I⟩
theorem WP.pw {e : Expr} {X : Cx} (hX : Cin c η X) : PW X e (WP c η e) := ⟨fun wh pins s _ _ _ I h => h X hX wh pins s I⟩
theorem WA.pa {es : List Expr} {X : Cx} (hX : Cin c η X) : PA X es (WA c η es) := ⟨fun pos pins s _ _ _ I h => h X hX pos pins s I⟩
theorem WS.ps {e : Stmt} {X : Cx} (hX : Cin c η X) : PS X e (WS c η e) := ⟨fun pins s _ _ _ I h => h X hX pins s I⟩
theorem WB.pb {e : List Stmt} {X : Cx} (hX : Cin c η X) : PSs X e (WB c η e) := ⟨fun pins s _ _ _ I h => h X hX pins s I⟩
theorem WG.pg {e : Expr} {X : Cx} (hX : Cin c η X) : PG X e (WG c η e) := ⟨fun pins s _ _ _ u _ I r h => h X hX pins s u I r⟩
theorem WI.pi {tg e : Expr} {X : Cx} (hX : Cin c η X) : PI X tg e (WI c η tg e) := ⟨fun pins s _ _ _ I h => h X hX pins s I⟩
theorem WE.of {e : Expr} {t : TE} {σ : St} {H : Hp} {Q : VK} (h : ∀ X, Cin c η X → PE X e t) (q : t σ H Q) : WE c η e σ H Q := fun X hX pins s I => (h X hX).run pins s σ H Q I q
theorem WT.of {e : Expr} {t : TT} {σ : St} {H : Hp} {Q : Bool → Hp → Prop} (h : ∀ X, Cin c η X → PT X e t) (q : t σ H Q) : WT c η e σ H Q := fun X hX pins s I => (h X hX).run pins s σ H Q I q
theorem WP.of {e : Expr} {t : TT} {σ : St} {H : Hp} {Q : Bool → Hp → Prop} (h : ∀ X, Cin c η X → PW X e t) (q : t σ H Q) : WP c η e σ H Q := fun X hX wh pins s I => (h X hX).run wh pins s σ H Q I q
theorem WA.of {e : List Expr} {t : TA} {σ : St} {H : Hp} {Q : List V → Hp → Prop} (h : ∀ X, Cin c η X → PA X e t) (q : t σ H Q) : WA c η e σ H Q := fun X hX pos pins s I => (h X hX).run pos pins s σ H Q I q
theorem WS.of {e : Stmt} {t : TS} {σ : St} {H : Hp} {D : Ends} (h : ∀ X, Cin c η X → PS X e t) (q : t D σ H) : WS c η e D σ H := fun X hX pins s I => (h X hX).run pins s σ H D I q
theorem WB.of {e : List Stmt} {t : TS} {σ : St} {H : Hp} {D : Ends} (h : ∀ X, Cin c η X → PSs X e t) (q : t D σ H) : WB c η e D σ H := fun X hX pins s I => (h X hX).run pins s σ H D I q
theorem WG.of {e : Expr} {t : TG} {v : V} {σ : St} {H : Hp} {Q : St → Hp → Prop} (h : ∀ X, Cin c η X → PG X e t) (q : t v σ H Q) : WG c η e v σ H Q := fun X hX pins s u I r => (h X hX).run pins s σ H v u Q I r q
theorem WI.of {tg e : Expr} {t : TI} {σ : St} {H : Hp} {R : It → Hp → Prop} (h : ∀ X, Cin c η X → PI X tg e t) (q : t σ H R) : WI c η tg e σ H R := fun X hX pins s I => (h X hX).run pins s σ H R I q

structure ED (c : Cc) (η : Nm) (e : Expr) (ρ : Rho) (d : D) : Prop where
  run : ∀ F0 H0 σ F H, Stt c.K F0 H0 ρ σ F H → ∀ Q : VK, (∀ v F' H', Grow F H F' H' → Rep c.K F' v d → Q v H') → WE c η e σ H Q
structure EO (c : Cc) (η : Nm) (e : Expr) (ρ : Rho) (d : D) : Prop where
  run : ∀ F0 H0 σ F H, Stt c.K F0 H0 ρ σ F H → ∀ Q : VK, (∀ a F' H', Grow F H F' H' → F' a = none → H a = none → Obj c.K F' (H' a) d → Q (.ref a) H') → WE c η e σ H Q
structure ET (c : Cc) (η : Nm) (e : Expr) (ρ : Rho) (b : Bool) : Prop where
  run : ∀ F0 H0 σ F H, Stt c.K F0 H0 ρ σ F H → ∀ Q : Bool → Hp → Prop, (∀ F' H', Grow F H F' H' → Q b H') → WT c η e σ H Q
structure EP' (c : Cc) (η : Nm) (e : Expr) (ρ : Rho) (b : Bool) : Prop where
  run : ∀ F0 H0 σ F H, Stt c.K F0 H0 ρ σ F H → ∀ Q : Bool → Hp → Prop, (∀ F' H', Grow F H F' H' → Q b H') → WP c η e σ H Q
structure EA (c : Cc) (η : Nm) (es : List Expr) (ρ : Rho) (ds : List D) : Prop where
  run : ∀ F0 H0 σ F H, Stt c.K F0 H0 ρ σ F H → ∀ Q : List V → Hp → Prop, (∀ vs F' H', Grow F H F' H' → RepL c.K F' vs ds → Q vs H') → WA c η es σ H Q

variable {ρ : Rho} {a b e : Expr} {pos : Pos} {d d1 d2 : D}

theorem EO.ed (h : EO c η e ρ d) : ED c η e ρ d := ⟨fun F0 H0 σ F H S Q q => h.run F0 H0 σ F H S Q fun a F' H' g n n0 o => by
  obtain ⟨u, hu⟩ := o.some
  rw [hu] at o
  refine q (.ref a) (upd F' a u) H' ⟨g.f.trans (same_upd n), g.h, fun b x z => ?_, fun b x z y => ?_⟩ (o.froze n)
  · by_cases hb : b = a
    · subst hb; rw [upd_same] at z; cases z; exact hu
    · rw [upd_ne hb] at z; exact g.fh b x z
  · rw [upd_ne (ne_of_none z n0)]
    exact g.sep b x z y⟩
theorem ED.is (h : ED c η e ρ d1) (q : d1 = d2) : ED c η e ρ d2 := by rw [← q]; exact h
theorem EO.is (h : EO c η e ρ d1) (q : d1 = d2) : EO c η e ρ d2 := by rw [← q]; exact h
theorem ET.is {b1 b2 : Bool} (h : ET c η e ρ b1) (q : b1 = b2) : ET c η e ρ b2 := by rw [← q]; exact h

def visB (sc : Scope) (x : Str) : Bool := sc.names.lookup x == some .local || sc.names.lookup x == some .cell || sc.names.lookup x == some .free
theorem vis_of {sc : Scope} {x : Str} (h : visB sc x = true) : Vis sc x := by
  unfold visB at h
  simp only [Bool.or_eq_true, beq_iff_eq] at h
  rcases h with (h | h) | h
  · exact .inl h
  · exact .inr (.inl h)
  · exact .inr (.inr h)
theorem ed_var (i : Nat) {x : Str} (hρ : ρ[i]? = some (.va d)) (hN : η.N[i]? = some x := by rfl) (hv : visB η.sc x = true := by decide +kernel)
    (hd : (x == ("__debug__" : Str)) = false := by decide) (hcd : (x == ("__classdict__" : Str)) = false := by decide) : ED c η (.Name x pos) ρ d := ⟨fun F0 H0 σ F H S Q q => by
  obtain ⟨u, e1, r⟩ := S.sl i _ hρ
  exact WE.of (t := tVar i) (fun X hX => pe_var (by rw [hX.N]; exact hN) (by rw [hX.sc]; exact vis_of hv) hd hcd) ⟨u, e1, q u F H (.refl S.fh) r⟩⟩
theorem ed_int {i : Int} {j : Nat} : ED c η (.Constant (.int i) j pos) ρ (.int i) := ⟨fun F0 H0 σ F H S Q q => WE.of (fun _ _ => pe_int) (q _ F H (.refl S.fh) (.int i))⟩
theorem ed_bl {i : Bool} {j : Nat} : ED c η (.Constant (.bool i) j pos) ρ (.bl i) := ⟨fun F0 H0 σ F H S Q q => WE.of (fun _ _ => pe_bl) (q _ F H (.refl S.fh) (.bl i))⟩
theorem ed_non {j : Nat} : ED c η (.Constant .none j pos) ρ .non := ⟨fun F0 H0 σ F H S Q q => WE.of (fun _ _ => pe_non) (q _ F H (.refl S.fh) .non)⟩
theorem ed_str {i : Str} {j : Nat} : ED c η (.Constant (.str i) j pos) ρ (.str i) := ⟨fun F0 H0 σ F H S Q q => WE.of (fun _ _ => pe_str) (q _ F H (.refl S.fh) (.str i))⟩
def glB (sc : Scope) (x : Str) : Bool := sc.names.lookup x == some .globalImplicit
theorem gl_of {x : Str} {X : Cx} (hX : Cin c η X) (h : glB η.sc x = true) : Gl X x := by
  show X.env.scope.names.lookup x = _
  rw [hX.sc]
  exact by simpa [glB] using h
theorem ed_glob {x : Str} {v : V} {u : Value} (hm : c.mg x = some u) (r : RelV v u) (rep : ∀ F, Rep c.K F v d) (hg : glB η.sc x = true := by decide +kernel) (hd : (x == ("__debug__" : Str)) = false := by decide) : ED c η (.Name x pos) ρ d := ⟨fun F0 H0 σ F H S Q q =>
  WE.of (t := tC v) (fun X hX => pe_glob (gl_of hX hg) (by rw [hX.mg]; exact hm) r hd) (q v F H (.refl S.fh) (rep F))⟩
theorem ed_type {x : Str} {n : String} (hm : c.mg x = none) (hv : bootBuiltins x = some (.type n)) (hg : glB η.sc x = true := by decide +kernel) (hn : x ≠ "__name__" := by decide) (hd : (x == ("__debug__" : Str)) = false := by decide) : ED c η (.Name x pos) ρ (.ty n) := ⟨fun F0 H0 σ F H S Q q =>
  WE.of (t := tC (.ty n)) (fun X hX => pe_bltn (v := .ty n) (gl_of hX hg) (by rw [hX.mg]; exact hm) hv rfl hn hd) (q _ F H (.refl S.fh) (.ty n))⟩

def RD (K : PySem.W.Frag) (r : R2) (d1 d2 d : D) : Prop := ∀ F H v1 v2, Same F H → Rep K F v1 d1 → Rep K F v2 d2 → ∀ Q : VK, (∀ v F' H', Grow F H F' H' → Rep K F' v d → Q v H') → r v1 v2 H Q
def RO (K : PySem.W.Frag) (r : R2) (d1 d2 d : D) : Prop := ∀ F H v1 v2, Same F H → Rep K F v1 d1 → Rep K F v2 d2 → ∀ Q : VK, (∀ a F' H', Grow F H F' H' → F' a = none → H a = none → Obj K F' (H' a) d → Q (.ref a) H') → r v1 v2 H Q
theorem tOp_of {r : R2} (ha : ED c η a ρ d1) (hb : ED c η b ρ d2) {F0 H0 F H : Hp} {σ : St} (S : Stt c.K F0 H0 ρ σ F H) {Q : VK}
    (k : ∀ F' H' v1 v2, Grow F H F' H' → Rep c.K F' v1 d1 → Rep c.K F' v2 d2 → r v1 v2 H' Q) : tOp r (WE c η a) (WE c η b) σ H Q :=
  ha.run F0 H0 σ F H S _ fun v1 F1 H1 g1 r1 => hb.run F0 H0 σ F1 H1 (S.grow g1) _ fun v2 F2 H2 g2 r2 => k F2 H2 v1 v2 (g1.trans g2) (r1.mono g2.f) r2
theorem ed_op {op : Operator} {r : R2} (ho : ∀ X, Cin c η X → OpR X (binaryOp op) r) (hr : RD c.K r d1 d2 d) (ha : ED c η a ρ d1) (hb : ED c η b ρ d2) : ED c η (.BinOp a op b pos) ρ d := ⟨fun F0 H0 σ F H S Q q =>
  WE.of (fun X hX => pe_op (ho X hX) (WE.pe hX) (WE.pe hX)) (tOp_of ha hb S fun F1 H1 v1 v2 g r1 r2 => hr F1 H1 v1 v2 g.fh r1 r2 Q fun v F' H' g' r' => q v F' H' (g.trans g') r')⟩
theorem eo_op {op : Operator} {r : R2} (ho : ∀ X, Cin c η X → OpR X (binaryOp op) r) (hr : RO c.K r d1 d2 d) (ha : ED c η a ρ d1) (hb : ED c η b ρ d2) : EO c η (.BinOp a op b pos) ρ d := ⟨fun F0 H0 σ F H S Q q =>
  WE.of (fun X hX => pe_op (ho X hX) (WE.pe hX) (WE.pe hX)) (tOp_of ha hb S fun F1 H1 v1 v2 g r1 r2 => hr F1 H1 v1 v2 g.fh r1 r2 Q fun v F' H' g' n n0 o => q v F' H' (g.trans g') n (Same.free g.h n0) o)⟩
theorem ed_cmp {op : CmpOp} {r : R2} (ho : ∀ X, Cin c η X → OpR X (compareOp op) r) (hr : RD c.K r d1 d2 d) (hm : behindInMarks op b = false) (ha : ED c η a ρ d1) (hb : ED c η b ρ d2) : ED c η (.Compare a [op] [b] pos) ρ d := ⟨fun F0 H0 σ F H S Q q =>
  WE.of (fun X hX => pe_cmpR (ho X hX) (WE.pe hX) (WE.pe hX) hm) (tOp_of ha hb S fun F1 H1 v1 v2 g r1 r2 => hr F1 H1 v1 v2 g.fh r1 r2 Q fun v F' H' g' r' => q v F' H' (g.trans g') r')⟩
theorem et_cmp {op : CmpOp} {r : R2} {k : Bool} (ho : ∀ X, Cin c η X → OpR X (compareOp op) r) (hr : RD c.K r d1 d2 (.bl k)) (hm : behindInMarks op b = false) (ha : ED c η a ρ d1) (hb : ED c η b ρ d2) : ET c η (.Compare a [op] [b] pos) ρ k := ⟨fun F0 H0 σ F H S Q q =>
  WT.of (fun X hX => pt_cmpR (ho X hX) (WE.pe hX) (WE.pe hX) hm) (tOp_of ha hb S fun F1 H1 v1 v2 g r1 r2 => hr F1 H1 v1 v2 g.fh r1 r2 _ fun v F' H' g' r' => by
    cases r'
    exact ⟨k, rfl, q F' H' (g.trans g')⟩)⟩
theorem rd_I0 {K : PySem.W.Frag} {g : Int → Int → V} {i j : Int} (h : ∀ F, Rep K F (g i j) d) : RD K (rI0 g) (.int i) (.int j) d := fun F H v1 v2 s r1 r2 Q q => by
  cases r1
  cases r2
  exact ⟨i, j, rfl, rfl, q _ F H (.refl s) (h F)⟩
theorem rd_I {K : PySem.W.Frag} {C : Int → Int → Prop} {g : Int → Int → V} {i j : Int} (hc : C i j) (h : ∀ F, Rep K F (g i j) d) : RD K (rI C g) (.int i) (.int j) d := fun F H v1 v2 s r1 r2 Q q => by
  cases r1
  cases r2
  exact ⟨i, j, rfl, rfl, hc, q _ F H (.refl s) (h F)⟩
section
variable {i j : Int}
theorem ed_add (ha : ED c η a ρ (.int i)) (hb : ED c η b ρ (.int j)) : ED c η (.BinOp a .Add b pos) ρ (.int (i + j)) := ed_op (fun _ _ => op_add) (rd_I0 fun _ => .int _) ha hb
theorem ed_sub (ha : ED c η a ρ (.int i)) (hb : ED c η b ρ (.int j)) : ED c η (.BinOp a .Sub b pos) ρ (.int (i - j)) := ed_op (fun _ _ => op_sub) (rd_I0 fun _ => .int _) ha hb
theorem ed_mul (hc : CMul i j) (ha : ED c η a ρ (.int i)) (hb : ED c η b ρ (.int j)) : ED c η (.BinOp a .Mult b pos) ρ (.int (i * j)) := ed_op (fun _ _ => op_mul) (rd_I hc fun _ => .int _) ha hb
theorem ed_mod (hc : 0 < j) (ha : ED c η a ρ (.int i)) (hb : ED c η b ρ (.int j)) : ED c η (.BinOp a .Mod b pos) ρ (.int (i % j)) := ed_op (fun _ _ => op_mod) (rd_I hc fun _ => .int _) ha hb
theorem ed_fdiv (hc : CDiv i j) (ha : ED c η a ρ (.int i)) (hb : ED c η b ρ (.int j)) : ED c η (.BinOp a .FloorDiv b pos) ρ (.int (i / j)) := ed_op (fun _ _ => op_fdiv) (rd_I hc fun _ => .int _) ha hb
theorem ed_neg (ha : ED c η a ρ (.int i)) : ED c η (.UnaryOp .USub a pos) ρ (.int (-i)) := ⟨fun F0 H0 σ F H S Q q =>
  WE.of (fun X hX => pe_un un_neg (WE.pe hX)) (ha.run F0 H0 σ F H S _ fun v F' H' g r => by cases r; exact ⟨i, rfl, q _ F' H' g (.int _)⟩)⟩
theorem et_lt (ha : ED c η a ρ (.int i)) (hb : ED c η b ρ (.int j)) : ET c η (.Compare a [.Lt] [b] pos) ρ (decide (i < j)) := et_cmp (fun _ _ => op_lt) (rd_I0 fun _ => .bl _) (nomark _) ha hb
theorem et_gt (ha : ED c η a ρ (.int i)) (hb : ED c η b ρ (.int j)) : ET c η (.Compare a [.Gt] [b] pos) ρ (decide (j < i)) := et_cmp (fun _ _ => op_gt) (rd_I0 fun _ => .bl _) (nomark _) ha hb
end
def D.sc : D → Option V
  | .non => some .non
  | .bl b => some (.bl b)
  | .int i => some (.int i)
  | .str x => some (.str x)
  | _ => none
theorem Rep.sc {K : PySem.W.Frag} {F : Hp} {v u : V} {d : D} (h : Rep K F v d) (e : d.sc = some u) : v = u := by
  cases h <;> first
    | (cases e; rfl)
    | (exact absurd e (by simp [D.sc]))
def eqS (d1 d2 : D) : Bool := match d1.sc, d2.sc with
  | some u, some v => decide (u = v)
  | _, _ => false
def scalS (d1 d2 : D) : Bool := match d1.sc, d2.sc with
  | some u, some v => scal u v
  | _, _ => false
theorem sc2 {d1 d2 : D} (h : scalS d1 d2 = true) : ∃ u v, d1.sc = some u ∧ d2.sc = some v ∧ scal u v = true ∧ eqS d1 d2 = decide (u = v) := by
  unfold scalS at h
  cases e1 : d1.sc with
  | none => rw [e1] at h; cases h
  | some u =>
    cases e2 : d2.sc with
    | none => rw [e1, e2] at h; cases h
    | some v =>
      rw [e1, e2] at h
      exact ⟨u, v, rfl, rfl, h, by unfold eqS; rw [e1, e2]⟩
theorem rd_eq {K : PySem.W.Frag} (h : scalS d1 d2 = true) : RD K rEq d1 d2 (.bl (eqS d1 d2)) := fun F H v1 v2 s r1 r2 Q q => by
  obtain ⟨u, v, e1, e2, hs, e⟩ := sc2 h
  cases r1.sc e1
  cases r2.sc e2
  exact ⟨hs, q _ F H (.refl s) (by rw [e]; exact .bl _)⟩
theorem rd_ne {K : PySem.W.Frag} (h : scalS d1 d2 = true) : RD K rNe d1 d2 (.bl (!eqS d1 d2)) := fun F H v1 v2 s r1 r2 Q q => by
  obtain ⟨u, v, e1, e2, hs, e⟩ := sc2 h
  cases r1.sc e1
  cases r2.sc e2
  exact ⟨hs, q _ F H (.refl s) (by rw [e]; exact .bl _)⟩
theorem ed_eq (h : scalS d1 d2 = true) (ha : ED c η a ρ d1) (hb : ED c η b ρ d2) : ED c η (.Compare a [.Eq] [b] pos) ρ (.bl (eqS d1 d2)) := ed_cmp (fun _ _ => op_eq) (rd_eq h) (nomark _) ha hb
theorem et_eq (h : scalS d1 d2 = true) (ha : ED c η a ρ d1) (hb : ED c η b ρ d2) : ET c η (.Compare a [.Eq] [b] pos) ρ (eqS d1 d2) := et_cmp (fun _ _ => op_eq) (rd_eq h) (nomark _) ha hb
theorem et_ne (h : scalS d1 d2 = true) (ha : ED c η a ρ d1) (hb : ED c η b ρ d2) : ET c η (.Compare a [.NotEq] [b] pos) ρ (!eqS d1 d2) := et_cmp (fun _ _ => op_ne) (rd_ne h) (nomark _) ha hb
@[simp] theorem eqS_int (i j : Int) : eqS (.int i) (.int j) = decide (i = j) := by simp [eqS, D.sc]
@[simp] theorem eqS_str (i j : Str) : eqS (.str i) (.str j) = decide (i = j) := by simp [eqS, D.sc]
@[simp] theorem eqS_bl (i j : Bool) : eqS (.bl i) (.bl j) = decide (i = j) := by simp [eqS, D.sc]
theorem rd_isN {K : PySem.W.Frag} {k : Bool} (h : k = true ↔ d1 = .non) : RD K (fun x y H Q => y = .non ∧ Q (.bl (decide (x = .non))) H) d1 .non (.bl k) := fun F H v1 v2 s r1 r2 Q q => by
  cases r2
  refine ⟨rfl, q _ F H (.refl s) ?_⟩
  have e : decide (v1 = .non) = k := by
    rw [Bool.eq_iff_iff, decide_eq_true_eq, h]
    constructor
    · intro z; subst z; cases r1; rfl
    · intro z; subst z; cases r1; rfl
  rw [e]
  exact .bl k
def D.isN : D → Bool
  | .non => true
  | _ => false
theorem isN_iff (d : D) : d.isN = true ↔ d = .non := by cases d <;> simp [D.isN]
theorem ed_isN (ha : ED c η a ρ d1) (hb : ED c η b ρ .non) : ED c η (.Compare a [.Is] [b] pos) ρ (.bl d1.isN) := ed_cmp (fun _ _ => op_isN) (rd_isN (isN_iff d1)) (nomark _) ha hb
theorem et_isN (ha : ED c η a ρ d1) (hb : ED c η b ρ .non) : ET c η (.Compare a [.Is] [b] pos) ρ d1.isN := et_cmp (fun _ _ => op_isN) (rd_isN (isN_iff d1)) (nomark _) ha hb
theorem EP'.et (h : EP' c η e ρ k) : ET c η e ρ k := ⟨fun F0 H0 σ F H S Q q => WT.of (fun X hX => (WP.pw hX).pt) (h.run F0 H0 σ F H S Q q)⟩
variable {ka kb k : Bool} {rest : List Expr}
theorem ep_and1 (h : ET c η a ρ k) : EP' c η (.BoolOp .And [a] pos) ρ k := ⟨fun F0 H0 σ F H S Q q => WP.of (fun X hX => pw_and1 (WT.pt hX)) (h.run F0 H0 σ F H S Q q)⟩
theorem ep_or1 (h : ET c η a ρ k) : EP' c η (.BoolOp .Or [a] pos) ρ k := ⟨fun F0 H0 σ F H S Q q => WP.of (fun X hX => pw_or1 (WT.pt hX)) (h.run F0 H0 σ F H S Q q)⟩
theorem ep_and (h : ET c η a ρ ka) (h2 : ka = true → EP' c η (.BoolOp .And (b :: rest) pos) ρ kb) : EP' c η (.BoolOp .And (a :: b :: rest) pos) ρ (ka && kb) := ⟨fun F0 H0 σ F H S Q q =>
  WP.of (fun X hX => pw_and (WT.pt hX) (WP.pw hX)) (h.run F0 H0 σ F H S _ fun F1 H1 g => by
    cases ka with
    | true => exact (h2 rfl).run F0 H0 σ F1 H1 (S.grow g) Q fun F' H' g' => q F' H' (g.trans g')
    | false => exact q F1 H1 g)⟩
theorem ep_or (h : ET c η a ρ ka) (h2 : ka = false → EP' c η (.BoolOp .Or (b :: rest) pos) ρ kb) : EP' c η (.BoolOp .Or (a :: b :: rest) pos) ρ (ka || kb) := ⟨fun F0 H0 σ F H S Q q =>
  WP.of (fun X hX => pw_or (WT.pt hX) (WP.pw hX)) (h.run F0 H0 σ F H S _ fun F1 H1 g => by
    cases ka with
    | false => exact (h2 rfl).run F0 H0 σ F1 H1 (S.grow g) Q fun F' H' g' => q F' H' (g.trans g')
    | true => exact q F1 H1 g)⟩
theorem et_not (h : ET c η a ρ k) : ET c η (.UnaryOp .Not a pos) ρ (!k) := ⟨fun F0 H0 σ F H S Q q => WT.of (fun X hX => pt_not (WT.pt hX)) (h.run F0 H0 σ F H S _ q)⟩
theorem et_val (h : ED c η e ρ (.bl k)) (he : isPlain e = true := by rfl) : ET c η e ρ k := ⟨fun F0 H0 σ F H S Q q =>
  WT.of (fun X hX => pt_val (WE.pe hX) fun wh => test_plain he X.env wh) (h.run F0 H0 σ F H S _ fun v F' H' g r => by cases r; exact ⟨k, rfl, q F' H' g⟩)⟩
theorem ed_one {op : BoolOp} (h : ED c η a ρ d) : ED c η (.BoolOp op [a] pos) ρ d := ⟨fun F0 H0 σ F H S Q q => WE.of (fun X hX => pe_one (WE.pe hX)) (h.run F0 H0 σ F H S Q q)⟩
theorem ed_and (h : ED c η a ρ (.bl ka)) (h2 : ka = true → ED c η (.BoolOp .And (b :: rest) pos) ρ (.bl kb)) : ED c η (.BoolOp .And (a :: b :: rest) pos) ρ (.bl (ka && kb)) := ⟨fun F0 H0 σ F H S Q q =>
  WE.of (fun X hX => pe_and (WE.pe hX) (WE.pe hX)) (h.run F0 H0 σ F H S _ fun v F1 H1 g r => by
    cases r
    refine ⟨ka, rfl, ?_⟩
    cases ka with
    | true => exact (h2 rfl).run F0 H0 σ F1 H1 (S.grow g) Q fun v F' H' g' r => q v F' H' (g.trans g') r
    | false => exact q _ F1 H1 g (.bl _))⟩
theorem ed_not (h : ED c η a ρ (.bl k)) : ED c η (.UnaryOp .Not a pos) ρ (.bl (!k)) := ⟨fun F0 H0 σ F H S Q q =>
  WE.of (fun X hX => pe_not (WE.pe hX)) (h.run F0 H0 σ F H S _ fun v F1 H1 g r => by cases r; exact ⟨k, rfl, q _ F1 H1 g (.bl _)⟩)⟩
theorem ed_ifExp {t : Expr} (h : ET c η t ρ k) (h1 : k = true → ED c η a ρ d) (h2 : k = false → ED c η b ρ d) : ED c η (.IfExp t a b pos) ρ d := ⟨fun F0 H0 σ F H S Q q =>
  WE.of (fun X hX => pe_ifExp (WT.pt hX) (WE.pe hX) (WE.pe hX)) (h.run F0 H0 σ F H S _ fun F1 H1 g => by
    cases k with
    | true => exact (h1 rfl).run F0 H0 σ F1 H1 (S.grow g) Q fun v F' H' g' r => q v F' H' (g.trans g') r
    | false => exact (h2 rfl).run F0 H0 σ F1 H1 (S.grow g) Q fun v F' H' g' r => q v F' H' (g.trans g') r)⟩
theorem tChain_of {r r' : R2} {a2 : Expr} {d3 : D} (hr : RD c.K r d1 d2 (.bl ka)) (hr' : ka = true → RD c.K r' d2 d3 (.bl kb)) (ha : ED c η a ρ d1) (hb : ED c η b ρ d2) (hc : ka = true → ED c η a2 ρ d3)
    {F0 H0 F H : Hp} {σ : St} (S : Stt c.K F0 H0 ρ σ F H) {Q : VK} (q : ∀ F' H', Grow F H F' H' → Q (.bl (ka && kb)) H') : tChain r r' (WE c η a) (WE c η b) (WE c η a2) σ H Q :=
  ha.run F0 H0 σ F H S _ fun v1 F1 H1 g1 r1 => hb.run F0 H0 σ F1 H1 (S.grow g1) _ fun v2 F2 H2 g2 r2 => hr F2 H2 v1 v2 g2.fh (r1.mono g2.f) r2 _ fun z F3 H3 g3 r3 => by
    cases r3
    refine ⟨ka, rfl, ?_⟩
    cases ka with
    | true =>
      show WE c η a2 σ H3 _
      exact (hc rfl).run F0 H0 σ F3 H3 (S.grow ((g1.trans g2).trans g3)) _ fun v4 F4 H4 g4 r4 => hr' rfl F4 H4 v2 v4 g4.fh (r2.mono (g3.trans g4).f) r4 _ fun v F' H' g' r' => by
        cases r'
        exact q F' H' ((((g1.trans g2).trans g3).trans g4).trans g')
    | false =>
      show Q (.bl false) H3
      exact q F3 H3 ((g1.trans g2).trans g3)
theorem ed_chain {op op' : CmpOp} {r r' : R2} {a2 : Expr} {d3 : D} (ho : ∀ X, Cin c η X → OpR X (compareOp op) r) (hr : RD c.K r d1 d2 (.bl ka)) (ho' : ∀ X, Cin c η X → OpR X (compareOp op') r') (hr' : ka = true → RD c.K r' d2 d3 (.bl kb)) (ha : ED c η a ρ d1) (hb : ED c η b ρ d2) (hc : ka = true → ED c η a2 ρ d3)
    (hm : lastMarks [op, op'] [b, a2] = false) : ED c η (.Compare a [op, op'] [b, a2] pos) ρ (.bl (ka && kb)) := ⟨fun F0 H0 σ F H S Q q =>
  WE.of (fun X hX => pe_chain (ho X hX) (ho' X hX) (WE.pe hX) (WE.pe hX) (WE.pe hX) hm) (tChain_of hr hr' ha hb hc S fun F' H' g => q _ F' H' g (.bl _))⟩
theorem et_chain {op op' : CmpOp} {r r' : R2} {a2 : Expr} {d3 : D} (ho : ∀ X, Cin c η X → OpR X (compareOp op) r) (hr : RD c.K r d1 d2 (.bl ka)) (ho' : ∀ X, Cin c η X → OpR X (compareOp op') r') (hr' : ka = true → RD c.K r' d2 d3 (.bl kb)) (ha : ED c η a ρ d1) (hb : ED c η b ρ d2) (hc : ka = true → ED c η a2 ρ d3)
    (hm : lastMarks [op, op'] [b, a2] = false) : ET c η (.Compare a [op, op'] [b, a2] pos) ρ (ka && kb) := ⟨fun F0 H0 σ F H S Q q =>
  WT.of (fun X hX => pt_chain (ho X hX) (ho' X hX) (WE.pe hX) (WE.pe hX) (WE.pe hX) hm) (tChain_of (Q := fun x H' => ∃ k, x = .bl k ∧ Q k H') hr hr' ha hb hc S fun F' H' g => ⟨_, rfl, q F' H' g⟩)⟩
end DL

set_option Elab.async false
set_option linter.all false
set_option maxRecDepth 100000
set_option maxHeartbeats 4000000
namespace DL
open PySem L2
variable {c : Cc} {η : Nm} {ρ : Rho} {a b e : Expr} {es : List Expr} {pos : Pos} {d d1 d2 : D} {ds : List D}

theorem ea_nil : EA c η [] ρ [] := ⟨fun F0 H0 σ F H S Q q => WA.of (fun _ _ => pa_nil) (q [] F H (.refl S.fh) .nil)⟩
theorem ea_cons (h : ED c η e ρ d) (hr : EA c η es ρ ds) (hs : isStar e = false := by rfl) : EA c η (e :: es) ρ (d :: ds) := ⟨fun F0 H0 σ F H S Q q =>
  WA.of (fun X hX => pa_cons (WE.pe hX) (WA.pa hX) (star_cons hs X.env)) (h.run F0 H0 σ F H S _ fun v F1 H1 g1 r1 => hr.run F0 H0 σ F1 H1 (S.grow g1) _ fun vs F2 H2 g2 r2 => q (v :: vs) F2 H2 (g1.trans g2) (.cons (r1.mono g2.f) r2))⟩
theorem len_line {n : Nat} (h : n ≤ 100000) : n ≤ sizeLine := Nat.le_trans h (by decide)
theorem ed_tup {x1 : Nat} (h : EA c η es ρ ds) (hl : ds.length ≤ 100000 := by simp) : ED c η (.Tuple es x1 pos) ρ (.tup ds) := ⟨fun F0 H0 σ F H S Q q =>
  WE.of (fun X hX => pe_tup (WA.pa hX)) (h.run F0 H0 σ F H S _ fun vs F1 H1 g1 r1 => ⟨by rw [r1.length]; exact len_line hl, fun p hp =>
    q (.ref p) (upd F1 p (.tup vs)) _ (g1.trans (.new g1.fh hp)) (.tup (SqT.of upd_same) (r1.mono (same_upd (g1.fh.free hp))))⟩)⟩
theorem obj_lst {K : PySem.W.Frag} {F H : Hp} {p : Addr} {vs : List V} {ds : List D} (r : RepL K F vs ds) : Obj K F (upd H p (.lst vs) p) (.lst ds) := .inl ⟨vs, ds, upd_same, rfl, r⟩
theorem obj_dic {K : PySem.W.Frag} {F H : Hp} {p : Addr} {vs : List (Key × V)} {ds : List (Str × D)} (r : RepK K F vs ds) : Obj K F (upd H p (.dK vs) p) (.dic ds) := .inr ⟨vs, ds, upd_same, rfl, r⟩
theorem eo_lst (h : EA c η es ρ ds) (hl : ds.length ≤ 100000 := by simp) : EO c η (.List es pos) ρ (.lst ds) := ⟨fun F0 H0 σ F H S Q q =>
  WE.of (fun X hX => pe_lst (WA.pa hX)) (h.run F0 H0 σ F H S _ fun vs F1 H1 g1 r1 => ⟨by rw [r1.length]; exact len_line hl, fun p hp =>
    q p F1 _ (g1.trans (.apart g1.fh hp)) (g1.fh.free hp) (g1.h.free hp) (obj_lst r1)⟩)⟩
theorem eo_dic : EO c η (.Dict [] [] pos) ρ (.dic []) := ⟨fun F0 H0 σ F H S Q q =>
  WE.of (fun X hX => pe_dnewK) fun p hp => q p F _ (.apart S.fh hp) (S.fh.free hp) hp (obj_dic .nil)⟩

theorem RepL.atI {K : PySem.W.Frag} {F : Hp} {vs : List V} {ds : List D} {i : Int} {d : D} (r : RepL K F vs ds) (h : L2.atI ds i = some d) : ∃ v, L2.atI vs i = some v ∧ Rep K F v d := by
  unfold L2.atI at h ⊢
  rw [r.length]
  cases e : ixN ds.length i with
  | none => rw [e] at h; cases h
  | some j =>
    rw [e] at h
    exact r.get (show ds[j]? = some d from h)
section
variable {i : Int}
theorem rd_ixL {K : PySem.W.Frag} (h : L2.atI ds i = some d) : RD K (rIxL K) (.lst ds) (.int i) d := fun F H v1 v2 s r1 r2 Q q => by
  cases r2
  cases r1 with
  | lst hf r =>
    obtain ⟨v, hv, rv⟩ := r.atI h
    exact ⟨_, _, i, v, rfl, rfl, SqL.of (s _ _ hf), hv, q v F H (.refl s) rv⟩
theorem rd_ixT {K : PySem.W.Frag} (h : L2.atI ds i = some d) : RD K (rIxT K) (.tup ds) (.int i) d := fun F H v1 v2 s r1 r2 Q q => by
  cases r2
  cases r1 with
  | tup hf r =>
    obtain ⟨v, hv, rv⟩ := r.atI h
    exact ⟨_, _, i, v, rfl, rfl, same_T s hf, hv, q v F H (.refl s) rv⟩
theorem rd_ixS {K : PySem.W.Frag} {z : Str} {n : Nat} (hz : z.length ≤ 100000) (h : L2.atI z.cps.toList i = some n) : RD K rIxS (.str z) (.int i) (.str ⟨#[n]⟩) := fun F H v1 v2 s r1 r2 Q q => by
  cases r2
  cases r1
  exact ⟨z, i, n, rfl, rfl, len_line hz, h, q _ F H (.refl s) (.str _)⟩
theorem rd_ixC {K : PySem.W.Frag} {ns : List Int} {n : Int} (h : L2.atI ns i = some n) : RD K (rIxL K) (.scr ns) (.int i) (.int n) := fun F H v1 v2 s r1 r2 Q q => by
  cases r2
  cases r1 with
  | scr hf =>
    refine ⟨_, _, i, .int n, rfl, rfl, s.seq hf, ?_, q _ F H (.refl s) (.int n)⟩
    unfold L2.atI at h ⊢
    rw [List.length_map]
    cases e : ixN ns.length i with
    | none => rw [e] at h; cases h
    | some j =>
      rw [e] at h
      have h' : ns[j]? = some n := h
      show (ns.map V.int)[j]? = some (.int n)
      rw [List.getElem?_map, h']
      rfl
theorem ed_ix {r : R2} (ho : ∀ X, Cin c η X → IxR X r) (hr : RD c.K r d1 d2 d) (ha : ED c η a ρ d1) (hb : ED c η b ρ d2) (hs : PlainIx b) : ED c η (.Subscript a b pos) ρ d := ⟨fun F0 H0 σ F H S Q q =>
  WE.of (fun X hX => pe_ix (ho X hX) (WE.pe hX) (WE.pe hX) hs) (tOp_of ha hb S fun F1 H1 v1 v2 g r1 r2 => hr F1 H1 v1 v2 g.fh r1 r2 Q fun v F' H' g' r' => q v F' H' (g.trans g') r')⟩
theorem ed_ixL (h : L2.atI ds i = some d) (ha : ED c η a ρ (.lst ds)) (hb : ED c η b ρ (.int i)) (hs : isSlc b = false := by rfl) : ED c η (.Subscript a b pos) ρ d := ed_ix (fun X hX => hX.K ▸ ix_list) (rd_ixL h) ha hb (ix_plain hs)
theorem ed_ixT (h : L2.atI ds i = some d) (ha : ED c η a ρ (.tup ds)) (hb : ED c η b ρ (.int i)) (hs : isSlc b = false := by rfl) : ED c η (.Subscript a b pos) ρ d := ed_ix (fun X hX => hX.K ▸ ix_tup) (rd_ixT h) ha hb (ix_plain hs)
theorem ed_ixC {ns : List Int} {n : Int} (h : L2.atI ns i = some n) (ha : ED c η a ρ (.scr ns)) (hb : ED c η b ρ (.int i)) (hs : isSlc b = false := by rfl) : ED c η (.Subscript a b pos) ρ (.int n) := ed_ix (fun X hX => hX.K ▸ ix_list) (rd_ixC h) ha hb (ix_plain hs)
theorem ed_ixS {z : Str} {n : Nat} (hz : z.length ≤ 100000) (h : L2.atI z.cps.toList i = some n) (ha : ED c η a ρ (.str z)) (hb : ED c η b ρ (.int i)) (hs : isSlc b = false := by rfl) : ED c η (.Subscript a b pos) ρ (.str ⟨#[n]⟩) := ed_ix (fun X hX => ix_str) (rd_ixS hz h) ha hb (ix_plain hs)
end
def EO' (c : Cc) (η : Nm) (e : Option Expr) (ρ : Rho) (o : Option Int) : Prop := match e, o with
  | none, none => True
  | some e, some i => ED c η e ρ (.int i)
  | _, _ => False
def cutL {α : Type} (xs : List α) (lo hi : Option Int) : List α := (xs.drop (HT.sIx xs.length 0 lo)).take (HT.sIx xs.length xs.length hi - HT.sIx xs.length 0 lo)
theorem RepL.cut {K : PySem.W.Frag} {F : Hp} {vs : List V} {ds : List D} {lo hi : Option Int} (r : RepL K F vs ds) : RepL K F (cutL vs lo hi) (cutL ds lo hi) := by
  unfold cutL
  rw [r.length]
  exact (r.drop _).take _
theorem slice_of {r : V → Option Int → Option Int → Hp → VK → Prop} {l u : Option Expr} {lo hi : Option Int} {p2 : Pos} (hr : ∀ X, Cin c η X → SlR X r) (ha : ED c η a ρ d1) (hl : EO' c η l ρ lo) (hu : EO' c η u ρ hi)
    {F0 H0 F H : Hp} {σ : St} (S : Stt c.K F0 H0 ρ σ F H) {Q : VK} (k : ∀ F' H' v1, Grow F H F' H' → Rep c.K F' v1 d1 → r v1 lo hi H' Q) : WE c η (.Subscript a (.Slice l u none p2) pos) σ H Q := by
  have part : ∀ (e : Option Expr) (o : Option Int), EO' c η e ρ o → ∃ t : TO, (∀ X, Cin c η X → PO X e t) ∧ ∀ F H, Stt c.K F0 H0 ρ σ F H → ∀ Q : Option Int → Hp → Prop, (∀ F' H', Grow F H F' H' → Q o H') → t σ H Q := fun e o h => by
    cases e with
    | none =>
      cases o with
      | none => exact ⟨tNoPart, fun _ _ => po_none, fun F H S Q q => q F H (.refl S.fh)⟩
      | some i => exact h.elim
    | some e =>
      cases o with
      | none => exact h.elim
      | some i => exact ⟨tPart (WE c η e), fun X hX => po_some (WE.pe hX), fun F H S Q q => (show ED c η e ρ (.int i) from h).run F0 H0 σ F H S _ fun v F' H' g r => by cases r; exact ⟨i, rfl, q F' H' g⟩⟩
  obtain ⟨t1, p1, q1⟩ := part l lo hl
  obtain ⟨t2, p2', q2⟩ := part u hi hu
  refine WE.of (fun X hX => pe_slice (hr X hX) (WE.pe hX) (p1 X hX) (p2' X hX)) ?_
  exact ha.run F0 H0 σ F H S _ fun v F1 H1 g1 r1 => q1 F1 H1 (S.grow g1) _ fun F2 H2 g2 => q2 F2 H2 (S.grow (g1.trans g2)) _ fun F3 H3 g3 => k F3 H3 v ((g1.trans g2).trans g3) (r1.mono (g2.trans g3).f)
section
variable {l u : Option Expr} {lo hi : Option Int} {p2 : Pos}
theorem eo_slL (ha : ED c η a ρ (.lst ds)) (hl : EO' c η l ρ lo) (hu : EO' c η u ρ hi) : EO c η (.Subscript a (.Slice l u none p2) pos) ρ (.lst (cutL ds lo hi)) := ⟨fun F0 H0 σ F H S Q q =>
  slice_of (fun X hX => hX.K ▸ sl_list) ha hl hu S fun F1 H1 v g r => by
    cases r with
    | lst hf r => exact ⟨_, _, rfl, SqL.of (g.fh _ _ hf), fun p hp => q p F1 _ (g.trans (.apart g.fh hp)) (g.fh.free hp) (g.h.free hp) (obj_lst r.cut)⟩⟩
theorem eo_slC {ns : List Int} (ha : ED c η a ρ (.scr ns)) (hl : EO' c η l ρ lo) (hu : EO' c η u ρ hi) : EO c η (.Subscript a (.Slice l u none p2) pos) ρ (.lst ((cutL ns lo hi).map .int)) := ⟨fun F0 H0 σ F H S Q q =>
  slice_of (fun X hX => hX.K ▸ sl_list) ha hl hu S fun F1 H1 v g r => by
    cases r with
    | scr hf =>
      have e : cutV (ns.map V.int) lo hi = (cutL ns lo hi).map V.int := by unfold cutV cutL; rw [List.length_map, List.map_take, List.map_drop]
      refine ⟨_, _, rfl, g.fh.seq hf, fun p hp => ?_⟩
      rw [e]
      exact q p F1 _ (g.trans (.apart g.fh hp)) (g.fh.free hp) (g.h.free hp) (obj_lst (RepL.ints _))⟩
theorem ed_slS {z : Str} (hz : z.length ≤ 100000) (ha : ED c η a ρ (.str z)) (hl : EO' c η l ρ lo) (hu : EO' c η u ρ hi) : ED c η (.Subscript a (.Slice l u none p2) pos) ρ (.str (cutS z lo hi)) := ⟨fun F0 H0 σ F H S Q q =>
  slice_of (fun X hX => sl_str) ha hl hu S fun F1 H1 v g r => by
    cases r
    exact ⟨z, rfl, len_line hz, q _ F1 H1 g (.str _)⟩⟩
theorem ed_slT (ha : ED c η a ρ (.tup ds)) (hl : EO' c η l ρ lo) (hu : EO' c η u ρ hi) : ED c η (.Subscript a (.Slice l u none p2) pos) ρ (.tup (cutL ds lo hi)) := ⟨fun F0 H0 σ F H S Q q =>
  slice_of (fun X hX => hX.K ▸ sl_tupA) ha hl hu S fun F1 H1 v g r => by
    cases r with
    | tup hf r =>
      have e : ∀ {α : Type} (zs : List α), HT.sIx zs.length 0 lo = 0 ∧ HT.sIx zs.length zs.length hi = zs.length → cutL zs lo hi = zs := fun zs ⟨h1, h2⟩ => by
        unfold cutL
        rw [h1, h2]
        simp
      refine ⟨_, _, rfl, same_T g.fh hf, fun hw => ?_, fun _ p hp => q (.ref p) (upd F1 p (.tup (cutL _ lo hi))) _ (g.trans (.new g.fh hp)) (.tup (SqT.of upd_same) (r.cut.mono (same_upd (g.fh.free hp))))⟩
      exact q _ F1 H1 g ((e ds (by rw [← r.length]; exact hw)).symm ▸ .tup hf r)⟩
end

theorem ed_addS {x y : Str} (hz : x.length + y.length ≤ 100000) (ha : ED c η a ρ (.str x)) (hb : ED c η b ρ (.str y)) : ED c η (.BinOp a .Add b pos) ρ (.str (x ++ y)) :=
  ed_op (fun _ _ => op_add_str) (fun F H v1 v2 s r1 r2 Q q => by cases r1; cases r2; exact ⟨x, y, rfl, rfl, len_line hz, q _ F H (.refl s) (.str _)⟩) ha hb
theorem eo_cat {xs ys : List D} (hz : xs.length + ys.length ≤ 100000) (ha : ED c η a ρ (.lst xs)) (hb : ED c η b ρ (.lst ys)) : EO c η (.BinOp a .Add b pos) ρ (.lst (xs ++ ys)) :=
  eo_op (fun _ _ => op_cat) (fun F H v1 v2 s r1 r2 Q q => by
    cases r1 with
    | lst h1 r1 =>
      cases r2 with
      | lst h2 r2 => exact ⟨_, _, _, _, rfl, rfl, s _ _ h1, s _ _ h2, by rw [r1.length, r2.length]; exact len_line hz, fun p hp => q p F _ (.apart s hp) (s.free hp) hp (obj_lst (r1.append r2))⟩) ha hb
theorem ed_catT {xs ys : List D} (hz : xs.length + ys.length ≤ 100000) (ha : ED c η a ρ (.tup xs)) (hb : ED c η b ρ (.tup ys)) : ED c η (.BinOp a .Add b pos) ρ (.tup (xs ++ ys)) :=
  ed_op (fun X hX => hX.K ▸ op_catA) (fun F H v1 v2 s r1 r2 Q q => by
    cases r1 with
    | tup h1 r1 =>
      cases r2 with
      | tup h2 r2 =>
        refine ⟨_, _, _, _, rfl, rfl, same_T s h1, same_T s h2, by rw [r1.length, r2.length]; exact len_line hz, fun e => ?_, fun _ e => ?_, fun _ _ p hp => q (.ref p) _ _ (.new s hp) (.tup (SqT.of upd_same) ((r1.append r2).mono (same_upd (s.free hp))))⟩
        · subst e
          cases r1
          exact q _ F H (.refl s) (.tup h2 r2)
        · subst e
          cases r2
          exact q _ F H (.refl s) ((List.append_nil xs).symm ▸ .tup h1 r1)) ha hb
theorem RepL.rep {K : PySem.W.Frag} {F : Hp} {vs : List V} {ds : List D} (r : RepL K F vs ds) : ∀ n : Nat, RepL K F (List.replicate n vs).flatten (List.replicate n ds).flatten
  | 0 => .nil
  | n + 1 => by
    rw [List.replicate_succ, List.replicate_succ, List.flatten_cons, List.flatten_cons]
    exact r.append (r.rep n)
theorem eo_rep {xs : List D} {k : Int} (hz : -(2 ^ 63) ≤ k ∧ k < 2 ^ 63 ∧ xs.length * k.toNat ≤ 100000) (ha : ED c η a ρ (.lst xs)) (hb : ED c η b ρ (.int k)) : EO c η (.BinOp a .Mult b pos) ρ (.lst (List.replicate k.toNat xs).flatten) :=
  eo_op (fun _ _ => op_rep) (fun F H v1 v2 s r1 r2 Q q => by
    cases r2
    cases r1 with
    | lst h1 r1 => exact ⟨_, _, _, rfl, rfl, s _ _ h1, hz.1, hz.2.1, by rw [r1.length]; exact len_line hz.2.2, fun p hp => q p F _ (.apart s hp) (s.free hp) hp (obj_lst (r1.rep _))⟩) ha hb

def D.flat : D → Bool
  | .non => true | .bl _ => true | .int _ => true | .str _ => true
  | _ => false
theorem flat_sc {K : PySem.W.Frag} {F : Hp} {v : V} {d : D} (r : Rep K F v d) (h : d.flat = true) : d.sc = some v ∧ flatV v = true := by
  cases r <;> first
    | exact ⟨rfl, rfl⟩
    | exact absurd h (by simp [D.flat])
def eqF (x y : D) : Bool := match x.sc, y.sc with
  | some u, some v => eqV u v
  | _, _ => false
def inD (x : D) (xs : List D) : Bool := xs.any fun y => eqF y x
theorem RepL.inV {K : PySem.W.Frag} {F : Hp} {v : V} {d : D} (r : Rep K F v d) (h : d.flat = true) : ∀ {vs : List V} {ds : List D}, RepL K F vs ds → ds.all D.flat = true → L2.inV v vs = inD d ds ∧ vs.all flatV = true
  | _, _, .nil, _ => ⟨rfl, rfl⟩
  | _, _, .cons q t, hd => by
    rw [List.all_cons, Bool.and_eq_true] at hd
    obtain ⟨e1, e2⟩ := RepL.inV r h t hd.2
    obtain ⟨s1, f1⟩ := flat_sc r h
    obtain ⟨s2, f2⟩ := flat_sc q hd.1
    constructor
    · show (eqV _ _ || L2.inV _ _) = (eqF _ _ || inD _ _)
      have e3 : ∀ (x y : V) (d d' : D), d.sc = some x → d'.sc = some y → eqV x y = eqF d d' := fun x y d d' h1 h2 => by unfold eqF; rw [h1, h2]
      rw [e3 _ _ _ _ s2 s1, e1]
    · rw [List.all_cons, f2, e2]
      rfl
theorem inD_strs (x : Str) (xs : List Str) : inD (.str x) (xs.map .str) = decide (x ∈ xs) := by
  induction xs with
  | nil => rfl
  | cons y r ih =>
    show (eqF (.str y) (.str x) || inD (.str x) (r.map .str)) = _
    rw [ih]
    have : eqF (.str y) (.str x) = decide (x = y) := by
      show (y == x) = _
      rw [Bool.eq_iff_iff, beq_iff_eq, decide_eq_true_eq]
      exact eq_comm
    rw [this, Bool.eq_iff_iff, Bool.or_eq_true, decide_eq_true_eq, decide_eq_true_eq, decide_eq_true_eq, List.mem_cons]
inductive SeqD : D → List D → Prop
  | lst (ds : List D) : SeqD (.lst ds) ds
  | tup (ds : List D) : SeqD (.tup ds) ds
theorem SeqD.sq {K : PySem.W.Frag} {F H : Hp} {v : V} (h : SeqD d ds) (s : Same F H) (r : Rep K F v d) : ∃ p vs, v = .ref p ∧ (SqL K H p vs ∨ SqT K H p vs) ∧ RepL K F vs ds := by
  cases h with
  | lst => cases r with | lst hf r => exact ⟨_, _, rfl, .inl (SqL.of (s _ _ hf)), r⟩
  | tup => cases r with | tup hf r => exact ⟨_, _, rfl, .inr (same_T s hf), r⟩
theorem rd_in {K : PySem.W.Frag} {neg : Bool} (q : SeqD d2 ds) (h : d1.flat = true) (hd : ds.all D.flat = true) : RD K (rIn K neg) d1 d2 (.bl (if neg then !inD d1 ds else inD d1 ds)) := fun F H v1 v2 s r1 r2 Q k => by
  obtain ⟨p, vs, rfl, sq, r⟩ := q.sq s r2
  obtain ⟨e1, e2⟩ := RepL.inV r1 h r hd
  exact ⟨p, vs, rfl, sq, (flat_sc r1 h).2, e2, by rw [e1]; exact k _ F H (.refl s) (.bl _)⟩
section
variable (q : SeqD d2 ds) (h : d1.flat = true) (hd : ds.all D.flat = true)
include q h hd
theorem et_in (hm : behindInMarks .In b = false) (ha : ED c η a ρ d1) (hb : ED c η b ρ d2) : ET c η (.Compare a [.In] [b] pos) ρ (inD d1 ds) := et_cmp (fun X hX => hX.K ▸ op_in_seq) (rd_in (neg := false) q h hd) hm ha hb
theorem et_notIn (hm : behindInMarks .NotIn b = false) (ha : ED c η a ρ d1) (hb : ED c η b ρ d2) : ET c η (.Compare a [.NotIn] [b] pos) ρ (!inD d1 ds) := et_cmp (fun X hX => hX.K ▸ op_notIn_seq) (rd_in (neg := true) q h hd) hm ha hb
end
theorem ed_inSign {n : Nat} {z : Str} (hm : behindInMarks .In b = false) (ha : ED c η a ρ (.str ⟨#[n]⟩)) (hb : ED c η b ρ (.str z)) : ED c η (.Compare a [.In] [b] pos) ρ (.bl (decide (n ∈ z.cps.toList))) :=
  ed_cmp (fun X hX => op_in_sign) (fun F H v1 v2 s r1 r2 Q q => by cases r1; cases r2; exact ⟨n, z, rfl, rfl, q _ F H (.refl s) (.bl _)⟩) hm ha hb
mutual
def D.py : D → PyData
  | .non => .none
  | .bl b => .bool b
  | .int i => .int i
  | .str x => .str x
  | .tup xs => .tuple (D.pys xs)
  | .lst xs => .list (D.pys xs)
  | .dic _ => .none
  | .scr ns => .list (ns.map .int)
  | .ty _ => .none
  | .ref _ => .none
  | .ins _ _ _ _ => .none
  | .exc _ _ _ => .none
def D.pys : List D → List PyData
  | [] => []
  | d :: r => d.py :: D.pys r
end
mutual
/-- no dict, no type stands in it -/
def D.pure : D → Bool
  | .dic _ => false
  | .ty _ => false
  | .ref _ => false
  | .ins _ _ _ _ => false
  | .exc _ _ _ => false
  | .tup xs => D.pures xs
  | .lst xs => D.pures xs
  | _ => true
def D.pures : List D → Bool
  | [] => true
  | d :: r => d.pure && D.pures r
end
theorem dp_ints {K : PySem.W.Frag} {H : Hp} : ∀ ns : List Int, DpAll K H (ns.map V.int) (ns.map PyData.int)
  | [] => .nil
  | n :: r => .cons (.int n) (dp_ints r)
mutual
theorem Rep.dp {K : PySem.W.Frag} {F H : Hp} (s : Same F H) : ∀ {v : V} {d : D}, Rep K F v d → d.pure = true → Dp K H v d.py
  | _, _, .non, _ => .non
  | _, _, .bl b, _ => .bl b
  | _, _, .int i, _ => .int i
  | _, _, .str x, _ => .str x
  | _, _, .ty _, h => absurd h (by simp [D.pure])
  | _, _, .ref _, h => absurd h (by simp [D.pure])
  | _, _, .dic _ _, h => absurd h (by simp [D.pure])
  | _, _, .tup hf r, h => by
    rw [D.py]
    exact .tup (same_T s hf) (RepL.dp s r (by simpa [D.pure] using h))
  | _, _, .lst hf r, h => by
    rw [D.py]
    exact .lst (SqL.of (s _ _ hf)) (RepL.dp s r (by simpa [D.pure] using h))
  | _, _, .scr hf, _ => by
    rw [D.py]
    exact .lst (s.seq hf) (dp_ints _)
theorem RepL.dp {K : PySem.W.Frag} {F H : Hp} (s : Same F H) : ∀ {vs : List V} {ds : List D}, RepL K F vs ds → D.pures ds = true → DpAll K H vs (D.pys ds)
  | _, _, .nil, _ => by rw [D.pys]; exact .nil
  | _, _, .cons h r, e => by
    rw [D.pures, Bool.and_eq_true] at e
    rw [D.pys]
    exact .cons (h.dp s e.1) (r.dp s e.2)
end
end DL

set_option Elab.async false
set_option linter.all false
set_option maxRecDepth 100000
set_option maxHeartbeats 4000000
namespace DL
open PySem L2
variable {c : Cc} {η : Nm} {ρ : Rho} {a b e o : Expr} {es : List Expr} {pos p apos : Pos} {d d1 d2 : D} {ds : List D}

def CD (K : PySem.W.Frag) (r : List V → Hp → VK → Prop) (ds : List D) (d : D) : Prop := ∀ F H vs, Same F H → RepL K F vs ds → ∀ Q : VK, (∀ v F' H', Grow F H F' H' → Rep K F' v d → Q v H') → r vs H Q
section
variable {r : List V → Hp → VK → Prop} {id T : String} {x : Str}
theorem ed_blt (hc : ∀ X, Cin c η X → CallR X (.builtin id) r) (hr : CD c.K r ds d) (ha : EA c η (e :: es) ρ ds) (hm : c.mg x = none) (hv : bootBuiltins x = some (.builtin id)) (hg : glB η.sc x = true := by decide +kernel) (hn : x ≠ "__name__" := by decide) (hdb : (x == ("__debug__" : Str)) = false := by decide)
    (he : isStar e = false := by rfl) (hpl : noStar es = true := by rfl) : ED c η (.Call (.Name x p) (e :: es) [] pos) ρ d := ⟨fun F0 H0 σ F H S Q q =>
  WE.of (fun X hX => pe_callB (hc X hX) (gl_of hX hg) (by rw [hX.mg]; exact hm) hv (WA.pa hX) hn hdb (star_cons he X.env) (star_any hpl pos X.env)) (ha.run F0 H0 σ F H S _ fun vs F1 H1 g1 r1 => hr F1 H1 vs g1.fh r1 Q fun v F' H' g' r' => q v F' H' (g1.trans g') r')⟩
theorem ed_ty (hc : ∀ X, Cin c η X → CallR X (.type T) r) (hr : CD c.K r ds d) (ha : EA c η (e :: es) ρ ds) (hm : c.mg x = none) (hv : bootBuiltins x = some (.type T)) (hg : glB η.sc x = true := by decide +kernel) (hn : x ≠ "__name__" := by decide) (hdb : (x == ("__debug__" : Str)) = false := by decide)
    (he : isStar e = false := by rfl) (hpl : noStar es = true := by rfl) : ED c η (.Call (.Name x p) (e :: es) [] pos) ρ d := ⟨fun F0 H0 σ F H S Q q =>
  WE.of (fun X hX => pe_callTy (hc X hX) (gl_of hX hg) (by rw [hX.mg]; exact hm) hv (WA.pa hX) hn hdb (star_cons he X.env) (star_any hpl pos X.env)) (ha.run F0 H0 σ F H S _ fun vs F1 H1 g1 r1 => hr F1 H1 vs g1.fh r1 Q fun v F' H' g' r' => q v F' H' (g1.trans g') r')⟩
end
theorem RepL.one {K : PySem.W.Frag} {F : Hp} {vs : List V} {d : D} (r : RepL K F vs [d]) : ∃ v, vs = [v] ∧ Rep K F v d := by
  cases r with
  | cons h t => cases t; exact ⟨_, rfl, h⟩
theorem RepL.two {K : PySem.W.Frag} {F : Hp} {vs : List V} {d d' : D} (r : RepL K F vs [d, d']) : ∃ v w, vs = [v, w] ∧ Rep K F v d ∧ Rep K F w d' := by
  cases r with
  | cons h t =>
    obtain ⟨w, rfl, h2⟩ := t.one
    exact ⟨_, w, rfl, h, h2⟩
section
variable (ha : EA c η [e] ρ [d]) (hg : glB η.sc "len" = true := by decide +kernel)
theorem cd_len {K : PySem.W.Frag} (q : SeqD d ds) : CD K (fun xs H Q => ∃ x n, xs = [x] ∧ LenV K x H n ∧ Q (.int n) H) [d] (.int ds.length) := fun F H vs s r Q k => by
  obtain ⟨v, rfl, r1⟩ := r.one
  obtain ⟨p, ws, rfl, sq, r2⟩ := q.sq s r1
  refine ⟨_, ds.length, rfl, ?_, k _ F H (.refl s) (.int _)⟩
  rcases sq with sq | sq
  · exact .inl ⟨ws, sq, r2.length.symm⟩
  · exact .inr ⟨ws, sq, r2.length.symm⟩
theorem cd_lenS {K : PySem.W.Frag} {z : Str} (hz : z.length ≤ 100000) : CD K (fun xs H Q => ∃ x n, xs = [x] ∧ LenV K x H n ∧ Q (.int n) H) [.str z] (.int z.length) := fun F H vs s r Q k => by
  obtain ⟨v, rfl, r1⟩ := r.one
  cases r1
  exact ⟨_, z.length, rfl, show z.length ≤ sizeLine ∧ z.length = z.length from ⟨len_line hz, rfl⟩, k _ F H (.refl s) (.int _)⟩
theorem cd_lenC {K : PySem.W.Frag} {ns : List Int} : CD K (fun xs H Q => ∃ x n, xs = [x] ∧ LenV K x H n ∧ Q (.int n) H) [.scr ns] (.int ns.length) := fun F H vs s r Q k => by
  obtain ⟨v, rfl, r1⟩ := r.one
  cases r1 with
  | scr hf => exact ⟨_, ns.length, rfl, .inl ⟨_, s.seq hf, by rw [List.length_map]⟩, k _ F H (.refl s) (.int _)⟩
end
theorem ed_len (q : SeqD d ds) (hm : c.mg "len" = none) (ha : EA c η [e] ρ [d]) (hg : glB η.sc "len" = true := by decide +kernel)
    (he : isStar e = false := by rfl) : ED c η (.Call (.Name "len" p) [e] [] pos) ρ (.int ds.length) := ed_blt (fun X hX => hX.K ▸ call_len) (cd_len q) ha hm PySem.boot_len hg (by decide) (by decide) he rfl
theorem ed_lenS {z : Str} (hz : z.length ≤ 100000) (hm : c.mg "len" = none) (ha : EA c η [e] ρ [.str z]) (hg : glB η.sc "len" = true := by decide +kernel)
    (he : isStar e = false := by rfl) : ED c η (.Call (.Name "len" p) [e] [] pos) ρ (.int z.length) := ed_blt (fun X hX => hX.K ▸ call_len) (cd_lenS hz) ha hm PySem.boot_len hg (by decide) (by decide) he rfl
theorem ed_lenC {ns : List Int} (hm : c.mg "len" = none) (ha : EA c η [e] ρ [.scr ns]) (hg : glB η.sc "len" = true := by decide +kernel)
    (he : isStar e = false := by rfl) : ED c η (.Call (.Name "len" p) [e] [] pos) ρ (.int ns.length) := ed_blt (fun X hX => hX.K ▸ call_len) cd_lenC ha hm PySem.boot_len hg (by decide) (by decide) he rfl
def D.tyn : D → String
  | .non => "NoneType" | .bl _ => "bool" | .int _ => "int" | .str _ => "str" | .tup _ => "tuple" | .lst _ => "list" | .dic _ => "dict" | .scr _ => "list" | .ty _ => "type" | .ref _ => "type" | .ins _ _ _ _ => "type" | .exc _ _ _ => "type"
theorem tyx_L {K : PySem.W.Frag} {H : Hp} {p : Addr} {vs : List V} (h : SqL K H p vs) : TyX K H (.ref p) (.type "list") := by
  rcases h with (h | ⟨o, h⟩) | ⟨o, its, n, h, hc, _⟩
  · exact .base (.lst h)
  · exact .base (.frz h)
  · exact .kList h hc
theorem tyx_T {K : PySem.W.Frag} {H : Hp} {p : Addr} {vs : List V} (h : SqT K H p vs) : TyX K H (.ref p) (.type "tuple") := by
  rcases h with (h | ⟨o, h⟩) | ⟨o, its, n, h, hc, _⟩
  · exact .base (.tup h)
  · exact .fTuple h
  · exact .kTuple h hc
theorem Rep.tyx {K : PySem.W.Frag} {F H : Hp} {v : V} (s : Same F H) (r : Rep K F v d) (h : d.tyn ≠ "type") : TyX K H v (.type d.tyn) := by
  cases r with
  | non => exact .base .non
  | bl b => exact .base (.bl b)
  | int i => exact .base (.int i)
  | str x => exact .base (.str x)
  | ty n => exact absurd rfl h
  | ref a => exact absurd rfl h
  | exc _ _ _ => exact absurd rfl h
  | tup hf _ => exact tyx_T (same_T s hf)
  | lst hf _ => exact .base (.lst (s _ _ hf))
  | dic hf _ =>
    rcases hf with hf | ⟨o, hf⟩
    · exact .base (.dK (s _ _ hf))
    · exact .fDict (s _ _ hf)
  | scr hf => exact tyx_L (s.seq hf)
theorem ed_isi {T : String} {k : Bool} (h : d.tyn ≠ "type") (hk : kitB d.tyn T = some k) (hm : c.mg "isinstance" = none) (ha : EA c η [a, b] ρ [d, .ty T]) (hg : glB η.sc "isinstance" = true := by decide +kernel)
    (he : isStar a = false := by rfl) (hpl : noStar [b] = true := by rfl) : ED c η (.Call (.Name "isinstance" p) [a, b] [] pos) ρ (.bl k) :=
  ed_blt (fun X hX => hX.K ▸ call_isi) (fun F H vs s r Q q => by
    obtain ⟨v, w, rfl, r1, r2⟩ := r.two
    cases r2
    exact ⟨v, .ty T, _, _, k, rfl, .ty T, r1.tyx s h, kit_ty hk, q _ F H (.refl s) (.bl k)⟩) ha hm (by decide +kernel) hg (by decide) (by decide) he hpl
theorem RepL.tys {K : PySem.W.Frag} {F : Hp} : ∀ {Ts : List String} {vs : List V}, RepL K F vs (Ts.map D.ty) → Paired ClsV vs (Ts.map Value.type)
  | [], _, .nil => .nil
  | T :: r, _, .cons h t => by cases h; exact .cons (.ty T) t.tys
theorem ed_isiT {Ts : List String} {k : Bool} (h : d.tyn ≠ "type") (hk : ∀ K, PySem.W.kitAny K (.type d.tyn) (Ts.map Value.type) = some k) (hm : c.mg "isinstance" = none) {x1 : Nat} {ts : List Expr} {tpos : Pos} (ha : ED c η a ρ d) (ht : EA c η ts ρ (Ts.map D.ty)) (hl : Ts.length ≤ 100000 := by simp) (hg : glB η.sc "isinstance" = true := by decide +kernel)
    (he : isStar a = false := by rfl)
     : ED c η (.Call (.Name "isinstance" p) [a, .Tuple ts x1 tpos] [] pos) ρ (.bl k) := ⟨fun F0 H0 σ F H S Q q =>
  WE.of (t := tCB (rIsiT c.K) (tCons (WE c η a) (tCons (tTup (WA c η ts)) tNil))) (fun X hX => pe_callB (by rw [← hX.K]; exact call_isiT) (gl_of hX hg) (by rw [hX.mg]; exact hm) (by decide +kernel) (pa_cons (WE.pe hX) (pa_cons (pe_tup (WA.pa hX)) pa_nil (star_cons rfl X.env)) (star_cons he X.env)) (by decide) (by decide) (star_cons he X.env) (star_any rfl pos X.env))
    (ha.run F0 H0 σ F H S _ fun v F1 H1 g1 r1 => ht.run F0 H0 σ F1 H1 (S.grow g1) _ fun vs F2 H2 g2 r2 => ⟨by rw [r2.length, List.length_map]; exact len_line hl, fun tp hp =>
      ⟨v, tp, vs, _, _, k, rfl, upd_same, r2.tys, (r1.mono g2.f).tyx (g2.fh.trans (same_upd hp)) h, hk c.K, q _ F2 _ ((g1.trans g2).trans (.apart g2.fh hp)) (.bl k)⟩⟩)⟩
theorem ed_strI {i : Int} (hi : i.natAbs.log2 < 1920) (hm : c.mg "str" = none) (ha : EA c η [e] ρ [.int i]) (hg : glB η.sc "str" = true := by decide +kernel)
    (he : isStar e = false := by rfl) : ED c η (.Call (.Name "str" p) [e] [] pos) ρ (.str (toString i)) :=
  ed_ty (fun X hX => call_str_int) (fun F H vs s r Q q => by
    obtain ⟨v, rfl, r1⟩ := r.one
    cases r1
    exact ⟨i, rfl, hi, q _ F H (.refl s) (.str _)⟩) ha hm (by decide +kernel) hg (by decide) (by decide) he rfl
theorem ed_all {bs : List Bool} (hm : c.mg "all" = none) (ha : EA c η [e] ρ [.lst (bs.map .bl)]) (hg : glB η.sc "all" = true := by decide +kernel)
    (he : isStar e = false := by rfl) : ED c η (.Call (.Name "all" p) [e] [] pos) ρ (.bl (bs.all id)) :=
  ed_blt (fun X hX => hX.K ▸ cr_all hX.calm) (fun F H vs s r Q q => by
    obtain ⟨v, rfl, r1⟩ := r.one
    cases r1 with
    | lst hf r2 =>
      have e := RepL.bls_inv r2
      subst e
      exact ⟨_, bs, rfl, SqL.of (s _ _ hf), q _ F H (.refl s) (.bl _)⟩) ha hm (by decide +kernel) hg (by decide) (by decide) he rfl
section
variable {i j : Int} (ha : EA c η [a, b] ρ [.int i, .int j])
end
def spP (K : PySem.W.Frag) (R : List D → D → Prop) : Sp := fun vs H Q _ => ∃ F ds d, Same F H ∧ RepL K F vs ds ∧ R ds d ∧ ∀ v F' H', Grow F H F' H' → Rep K F' v d → Q v H'
def spO (K : PySem.W.Frag) (R : List D → D → Prop) : Sp := fun vs H Q _ => ∃ F ds d, Same F H ∧ RepL K F vs ds ∧ R ds d ∧ ∀ a F' H', Grow F H F' H' → F' a = none → H a = none → Obj K F' (H' a) d → Q (.ref a) H'
structure Call (c : Cc) (j : Nat) (x : Str) (sp : Sp) : Prop where
  ex : ∃ (f : Addr) (fd : FuncData) (ps : List Str), FnOk c.P c.w c.K c.mg c.base CX0 j f fd ps sp ∧ c.mg x = some (.ref f) ∧ PySem.W.keepIn c.K (.ref f) = true ∧ Binds c.K fd ps []
theorem we_call {j : Nat} {x : Str} {sp : Sp} (cl : Call c j x sp) (hj : j ≤ c.k) {σ : St} {H : Hp} {Q : VK} (h : WA c η (e :: es) σ H fun vs H1 => sp vs H1 Q E0) (hg : glB η.sc x = true := by decide +kernel) (hdb : (x == ("__debug__" : Str)) = false := by decide)
    (he : isStar e = false := by rfl) (hpl : noStar es = true := by rfl) : WE c η (.Call (.Name x p) (e :: es) [] pos) σ H Q := by
  obtain ⟨f, fd, ps, F, hm, kp, bd⟩ := cl.ex
  refine WE.of (t := tCall sp [] E0 (WA c η (e :: es))) (fun X hX => ?_) ?_
  · obtain ⟨h1, h2, h3, h4, h5, _⟩ := id hX
    exact pe_call (by rw [h1, h2, h3, h4, h5]; exact F) (hX.room.mono hj) (gl_of hX hg) (by rw [h4]; exact hm) (by rw [h3]; exact kp) (by rw [h3]; exact bd) .nil pass0 (WA.pa hX) hdb (star_cons he X.env) (star_any hpl pos X.env)
  · show WA c η (e :: es) σ H fun vs H1 => sp (vs ++ []) H1 Q E0
    simpa only [List.append_nil] using h
theorem ed_call {j : Nat} {x : Str} {R : List D → D → Prop} (cl : Call c j x (spP c.K R)) (hj : j ≤ c.k) (hr : R ds d) (ha : EA c η (e :: es) ρ ds) (hg : glB η.sc x = true := by decide +kernel) (hdb : (x == ("__debug__" : Str)) = false := by decide)
    (he : isStar e = false := by rfl) (hpl : noStar es = true := by rfl) : ED c η (.Call (.Name x p) (e :: es) [] pos) ρ d := ⟨fun F0 H0 σ F H S Q q =>
  we_call cl hj (ha.run F0 H0 σ F H S _ fun vs F1 H1 g1 r1 => ⟨F1, ds, d, g1.fh, r1, hr, fun v F' H' g' r' => q v F' H' (g1.trans g') r'⟩) hg hdb he hpl⟩
theorem eo_call {j : Nat} {x : Str} {R : List D → D → Prop} (cl : Call c j x (spO c.K R)) (hj : j ≤ c.k) (hr : R ds d) (ha : EA c η (e :: es) ρ ds) (hg : glB η.sc x = true := by decide +kernel) (hdb : (x == ("__debug__" : Str)) = false := by decide)
    (he : isStar e = false := by rfl) (hpl : noStar es = true := by rfl) : EO c η (.Call (.Name x p) (e :: es) [] pos) ρ d := ⟨fun F0 H0 σ F H S Q q =>
  we_call cl hj (ha.run F0 H0 σ F H S _ fun vs F1 H1 g1 r1 => ⟨F1, ds, d, g1.fh, r1, hr, fun a F' H' g' n n0 o => q a F' H' (g1.trans g') n (Same.free g1.h n0) o⟩) hg hdb he hpl⟩
end DL

set_option Elab.async false
set_option linter.all false
set_option maxRecDepth 100000
set_option maxHeartbeats 4000000
namespace DL
open PySem L2
variable {c : Cc} {η : Nm} {ρ ρ1 ρ2 : Rho} {a b e o : Expr} {es : List Expr} {pos p apos : Pos} {d d1 d2 : D} {ds : List D}

def lookD : List (Str × D) → Str → Option D
  | [], _ => none
  | (y, d) :: r, x => if y = x then some d else lookD r x
def hasD (ks : List (Str × D)) (x : Str) : Bool := ks.any fun p => decide (p.1 = x)
def putD (ks : List (Str × D)) (x : Str) (d : D) : List (Str × D) := if hasD ks x then ks.map fun p => if p.1 = x then (p.1, d) else p else ks ++ [(x, d)]
section
variable {K : PySem.W.Frag} {F : Hp} {x : Str}
theorem RepK.look : ∀ {kvs : List (Key × V)} {ks : List (Str × D)}, RepK K F kvs ks → (∀ d, lookD ks x = some d → ∃ v, valV kvs (Sum.inr x : Key) = some v ∧ Rep K F v d) ∧ (lookD ks x = none → valV kvs (Sum.inr x : Key) = none)
  | _, _, .nil => ⟨fun d h => (nomatch h), fun _ => rfl⟩
  | _, _, .cons (x := y) h t => by
    obtain ⟨h1, h2⟩ := t.look
    unfold lookD
    by_cases e : y = x
    · rw [if_pos e]
      refine ⟨fun d q => ?_, fun q => (nomatch q)⟩
      cases q
      exact ⟨_, valV_pos (congrArg Sum.inr e), h⟩
    · rw [if_neg e]
      have e' : ¬ (Sum.inr y : Key) = Sum.inr x := fun z => e (Sum.inr.inj z)
      rw [valV_neg e']
      exact ⟨h1, h2⟩
theorem RepK.has : ∀ {kvs : List (Key × V)} {ks : List (Str × D)}, RepK K F kvs ks → (kvs.any fun kv => decide (kv.1 = (Sum.inr x : Key))) = hasD ks x
  | _, _, .nil => rfl
  | _, _, .cons (x := y) h t => by
    have ih := t.has
    unfold hasD at ih ⊢
    rw [List.any_cons, List.any_cons, ih]
    have : decide ((Sum.inr y : Key) = Sum.inr x) = decide (y = x) := key_rr y x
    exact congrArg (· || _) this
theorem RepK.append : ∀ {kvs kvs' : List (Key × V)} {ks ks' : List (Str × D)}, RepK K F kvs ks → RepK K F kvs' ks' → RepK K F (kvs ++ kvs') (ks ++ ks')
  | _, _, _, _, .nil, s => s
  | _, _, _, _, .cons h t, s => .cons h (t.append s)
theorem RepK.length : ∀ {kvs : List (Key × V)} {ks : List (Str × D)}, RepK K F kvs ks → kvs.length = ks.length
  | _, _, .nil => rfl
  | _, _, .cons _ t => congrArg (· + 1) t.length
theorem RepK.repl {v : V} {d : D} (r : Rep K F v d) : ∀ {kvs : List (Key × V)} {ks : List (Str × D)}, RepK K F kvs ks →
    RepK K F (kvs.map fun kv => if kv.1 = (Sum.inr x : Key) then (kv.1, v) else kv) (ks.map fun p => if p.1 = x then (p.1, d) else p)
  | _, _, .nil => .nil
  | _, _, .cons (x := y) h t => by
    rw [List.map_cons, List.map_cons]
    by_cases e : y = x
    · rw [if_pos (show ((Sum.inr y : Key), _).1 = Sum.inr x from congrArg Sum.inr e), if_pos (show (y, _).1 = x from e)]
      exact .cons r (RepK.repl r t)
    · rw [if_neg (show ¬ ((Sum.inr y : Key), _).1 = Sum.inr x from fun z => e (Sum.inr.inj z)), if_neg (show ¬ (y, _).1 = x from e)]
      exact .cons h (RepK.repl r t)
theorem RepK.put {v : V} {d : D} {kvs : List (Key × V)} {ks : List (Str × D)} (t : RepK K F kvs ks) (r : Rep K F v d) : RepK K F (putK kvs (Sum.inr x) v) (putD ks x d) := by
  unfold putK putD
  rw [t.has]
  split
  · exact t.repl r
  · exact t.append (.cons r .nil)
end
theorem lookD_put (ks : List (Str × D)) (x y : Str) (d : D) : lookD (putD ks x d) y = if y = x then some d else lookD ks y := by
  unfold putD
  have m : ∀ ks : List (Str × D), lookD (ks.map fun p => if p.1 = x then (p.1, d) else p) y = if y = x then (lookD ks y).map fun _ => d else lookD ks y := fun ks => by
    induction ks with
    | nil => simp [lookD]
    | cons q r ih =>
      obtain ⟨z, f⟩ := q
      rw [List.map_cons]
      by_cases h : z = x
      · rw [if_pos h]
        subst h
        by_cases h2 : z = y
        · subst h2; simp [lookD]
        · simp only [lookD, if_neg h2, ih]
      · rw [if_neg h]
        by_cases h2 : z = y
        · subst h2; simp [lookD, h]
        · simp only [lookD, if_neg h2, ih]
  have ap : ∀ ks : List (Str × D), hasD ks x = false → lookD (ks ++ [(x, d)]) y = if y = x then some d else lookD ks y := fun ks h => by
    induction ks with
    | nil =>
      by_cases h2 : y = x
      · subst h2; simp [lookD]
      · simp [lookD, h2, Ne.symm h2]
    | cons q r ih =>
      obtain ⟨z, f⟩ := q
      have h' : decide (z = x) = false ∧ hasD r x = false := by
        unfold hasD at h ⊢
        rw [List.any_cons, Bool.or_eq_false_iff] at h
        exact h
      have hz : ¬ z = x := by simpa using h'.1
      rw [List.cons_append]
      by_cases h2 : z = y
      · subst h2; simp [lookD, hz]
      · simp only [lookD, if_neg h2, ih h'.2]
  have hs : ∀ ks : List (Str × D), hasD ks x = true → ∃ f, lookD ks x = some f := fun ks h => by
    induction ks with
    | nil => simp [hasD] at h
    | cons q r ih =>
      obtain ⟨z, f⟩ := q
      by_cases h2 : z = x
      · exact ⟨f, by simp [lookD, h2]⟩
      · unfold hasD at h ih
        rw [List.any_cons] at h
        simp only [h2, decide_false, Bool.false_or] at h
        obtain ⟨g, e⟩ := ih h
        exact ⟨g, by simp [lookD, h2, e]⟩
  by_cases h : hasD ks x = true
  · rw [if_pos h, m]
    split
    · rename_i e
      subst e
      obtain ⟨f, e⟩ := hs ks h
      rw [e]; rfl
    · rfl
  · rw [if_neg h]
    exact ap ks (by simpa using h)
theorem hu_in {X : Cx} (hX : Cin c η X) : X.A.units + 1 < cLine := hu_of hX.room
theorem DGet.r {H : Hp} {a : Addr} {kvs : List (Key × V)} {k : Key} (e : Rd H a (.dK kvs)) : DGet H a (kV k) (valV kvs k) := .inl ⟨kvs, k, e, rfl, rfl⟩
theorem ed_dix {ks : List (Str × D)} {x : Str} (h : lookD ks x = some d) (ha : ED c η a ρ (.dic ks)) (hb : ED c η b ρ (.str x)) (hs : isSlc b = false := by rfl) : ED c η (.Subscript a b pos) ρ d := ⟨fun F0 H0 σ F H S Q q =>
  WE.of (fun X hX => pe_dget (hu_in hX) (WE.pe hX) (WE.pe hX) (ix_nosl hs)) (ha.run F0 H0 σ F H S _ fun v F1 H1 g1 r1 => hb.run F0 H0 σ F1 H1 (S.grow g1) _ fun w F2 H2 g2 r2 => by
    cases r2
    cases r1 with
    | dic hf r =>
      obtain ⟨u, hu, ru⟩ := r.look.1 d h
      exact ⟨_, u, rfl, by rw [← hu]; exact DGet.r (k := Sum.inr x) (same_rd g2.fh (same_rd g2.f hf)), q u F2 H2 (g1.trans g2) (ru.mono g2.f)⟩)⟩
theorem in_dic {ks : List (Str × D)} {x : Str} (ha : ED c η a ρ (.str x)) (hb : ED c η b ρ (.dic ks)) {F0 H0 F H : Hp} {σ : St} (S : Stt c.K F0 H0 ρ σ F H) {Q : VK} (q : ∀ F' H', Grow F H F' H' → Q (.bl (lookD ks x).isSome) H') : tDIn (WE c η a) (WE c η b) σ H Q :=
  ha.run F0 H0 σ F H S _ fun v F1 H1 g1 r1 => hb.run F0 H0 σ F1 H1 (S.grow g1) _ fun w F2 H2 g2 r2 => by
    cases r1
    cases r2 with
    | @dic _ kvs _ hf r =>
      refine ⟨_, valV kvs (Sum.inr x), rfl, DGet.r (k := Sum.inr x) (same_rd g2.fh hf), ?_⟩
      have e : (valV kvs (Sum.inr x : Key)).isSome = (lookD ks x).isSome := by
        cases h : lookD ks x with
        | none => rw [r.look.2 h]; rfl
        | some d =>
          obtain ⟨u, hu, _⟩ := r.look.1 d h
          rw [hu]
          rfl
      rw [e]
      exact q F2 H2 (g1.trans g2)
theorem ed_inDic {ks : List (Str × D)} {x : Str} (hm : behindInMarks .In b = false) (ha : ED c η a ρ (.str x)) (hb : ED c η b ρ (.dic ks)) : ED c η (.Compare a [.In] [b] pos) ρ (.bl (lookD ks x).isSome) := ⟨fun F0 H0 σ F H S Q q =>
  WE.of (fun X hX => pe_cmp (pc_din (hu_in hX) (WE.pe hX) (WE.pe hX)) hm) (in_dic ha hb S fun F' H' g => q _ F' H' g (.bl _))⟩
theorem ed_get {ks : List (Str × D)} {x : Str} {f : Expr} {d0 : D} (ho : ED c η o ρ (.dic ks)) (he : ED c η e ρ (.str x)) (hf : ED c η f ρ d0) (m1 : isCall0 o = false := by rfl) (m2 : isStar e = false := by rfl) (m3 : isStar f = false := by rfl) (m4 : (apos.endLine == pos.line) = true := by rfl) : ED c η (.Call (.Attribute o "get" apos) [e, f] [] pos) ρ ((lookD ks x).getD d0) := ⟨fun F0 H0 σ F H S Q q =>
  WE.of (fun X hX => pe_dget2 (hu_in hX) (WE.pe hX) (WE.pe hX) (WE.pe hX) (m2_ok m1 m2 m3 m4)) (ho.run F0 H0 σ F H S _ fun v F1 H1 g1 r1 => by
    cases r1 with
    | dic hd r =>
      refine ⟨_, rfl, .inl ⟨_, same_rd g1.fh hd⟩, he.run F0 H0 σ F1 H1 (S.grow g1) _ fun w F2 H2 g2 r2 => hf.run F0 H0 σ F2 H2 (S.grow (g1.trans g2)) _ fun z F3 H3 g3 r3 => ?_⟩
      cases r2
      refine ⟨valV _ (Sum.inr x), DGet.r (k := Sum.inr x) (same_rd g3.fh (same_rd (g2.trans g3).f hd)), ?_⟩
      cases h : lookD ks x with
      | none =>
        rw [r.look.2 h]
        exact q z F3 H3 ((g1.trans g2).trans g3) (by rw [h]; exact r3)
      | some d =>
        obtain ⟨u, hu, ru⟩ := r.look.1 d h
        rw [hu]
        exact q u F3 H3 ((g1.trans g2).trans g3) (by rw [h]; exact ru.mono (g2.trans g3).f))⟩

theorem ed_join {x : Str} {ys : List Str} (hz : (ys.map (·.length)).sum + ys.length * x.length ≤ 1000000) (ho : ED c η o ρ (.str x)) (he : ED c η e ρ (.lst (ys.map .str)))
    (hs : isStar e = false := by rfl) (hb : isCall0 o = false := by rfl) (hl : (apos.endLine == pos.line) = true := by rfl) :
    ED c η (.Call (.Attribute o "join" apos) [e] [] pos) ρ (.str (Txt.join x ys)) := ⟨fun F0 H0 σ F H S Q q => fun X hX pins s I => by
  refine (pe_join (WE.pe hX) (WE.pe hX) (star_one hs X.env) (base_no hb _ X.env _) hl).run pins s σ H Q I ?_
  rw [hX.K]
  refine ho.run F0 H0 σ F H S _ fun v F1 H1 g1 r1 => ?_
  cases r1
  refine ⟨⟨x, rfl⟩, he.run F0 H0 σ F1 H1 (S.grow g1) _ fun w F2 H2 g2 r2 => ?_⟩
  cases r2 with
  | lst hf r =>
    have e := RepL.strs_inv r
    subst e
    exact ⟨x, _, ys, rfl, rfl, .inl (SqL.of (g2.fh _ _ hf)), Nat.le_trans hz (by decide), q _ F2 H2 (g1.trans g2) (.str _)⟩⟩
theorem RepL.strs {K : PySem.W.Frag} {F : Hp} : ∀ zs : List Str, RepL K F (zs.map V.str) (zs.map D.str)
  | [] => .nil
  | z :: r => .cons (.str z) (RepL.strs r)
end DL

set_option Elab.async false
set_option linter.all false
set_option maxRecDepth 100000
set_option maxHeartbeats 4000000
namespace DL
open PySem L2
variable {c : Cc} {η : Nm} {ρ ρ1 ρ2 : Rho} {a b e o : Expr} {es : List Expr} {pos p apos : Pos} {d d1 d2 : D} {ds : List D}

inductive Out where
  | nx (ρ : Rho) | bk (ρ : Rho) | ct (ρ : Rho) | rt (d : D) | ro (d : D)
  /-- goes on in some state of P; hands back some value with some store of P -/
  | ex (P : Rho → Prop) | rw (P : D → List (Addr × D) → Prop)
  /-- either of both -/
  | er (P : Rho → Prop) (R : D → List (Addr × D) → Prop)
def Done (K : PySem.W.Frag) (F0 H0 : Hp) (E : Ends) : Out → Prop
  | .nx ρ => ∀ σ F H, Stt K F0 H0 ρ σ F H → E.nx σ H
  | .bk ρ => ∀ σ F H, Stt K F0 H0 ρ σ F H → E.bk σ H
  | .ct ρ => ∀ σ F H, Stt K F0 H0 ρ σ F H → E.ct σ H
  | .rt d => ∀ v F H, Grow F0 H0 F H → Rep K F v d → E.rt v H
  | .ro d => ∀ a F H, Grow F0 H0 F H → F a = none → H0 a = none → Obj K F (H a) d → E.rt (.ref a) H
  | .ex P => ∀ ρ σ F H, P ρ → Stt K F0 H0 ρ σ F H → E.nx σ H
  | .rw P => ∀ v d w F H, P d w → Grow F0 H0 F H → Rep K F v d → WOk K H0 F H w → E.rt v H
  | .er P R => (∀ ρ σ F H, P ρ → Stt K F0 H0 ρ σ F H → E.nx σ H) ∧ (∀ v d w F H, R d w → Grow F0 H0 F H → Rep K F v d → WOk K H0 F H w → E.rt v H)
def WQ (c : Cc) (η : Nm) : List (List Stmt) → TS
  | [] => fun E σ H => E.nx σ H
  | b :: bs => fun E σ H => WB c η b { E with nx := WQ c η bs E } σ H
structure SD (c : Cc) (η : Nm) (bs : List (List Stmt)) (ρ : Rho) (out : Out) : Prop where
  run : ∀ F0 H0 σ F H, Stt c.K F0 H0 ρ σ F H → ∀ E : Ends, Done c.K F0 H0 E out → WQ c η bs E σ H
variable {st : Stmt} {rest : List Stmt} {bs : List (List Stmt)} {out : Out}
theorem WQ.cons {E : Ends} {σ : St} {H : Hp} (h : WS c η st { E with nx := WQ c η (rest :: bs) E } σ H) : WQ c η ((st :: rest) :: bs) E σ H :=
  WB.of (t := tSeq (WS c η st) (WB c η rest)) (fun X hX => pss_cons (WS.ps hX) (WB.pb hX)) h
theorem sd_nil (h : SD c η bs ρ out) : SD c η ([] :: bs) ρ out := ⟨fun F0 H0 σ F H S E q => WB.of (fun _ _ => pss_nil) (h.run F0 H0 σ F H S E q)⟩
theorem sd_end : SD c η [] ρ (.nx ρ) := ⟨fun F0 H0 σ F H S E q => q σ F H S⟩
structure S1 (c : Cc) (η : Nm) (st : Stmt) (ρ : Rho) (out : Out) : Prop where
  run : ∀ F0 H0 σ F H, Stt c.K F0 H0 ρ σ F H → ∀ E : Ends, Done c.K F0 H0 E out → WS c η st E σ H
theorem sd_cons (h : S1 c η st ρ (.nx ρ1)) (hr : SD c η (rest :: bs) ρ1 out) : SD c η ((st :: rest) :: bs) ρ out := ⟨fun F0 H0 σ F H S E q =>
  WQ.cons (h.run F0 H0 σ F H S _ fun σ' F' H' S' => hr.run F0 H0 σ' F' H' S' E q)⟩
theorem sd_rt (h : S1 c η st ρ (.rt d)) : SD c η ((st :: rest) :: bs) ρ (.rt d) := ⟨fun F0 H0 σ F H S E q => WQ.cons (h.run F0 H0 σ F H S _ q)⟩
theorem sd_ro (h : S1 c η st ρ (.ro d)) : SD c η ((st :: rest) :: bs) ρ (.ro d) := ⟨fun F0 H0 σ F H S E q => WQ.cons (h.run F0 H0 σ F H S _ q)⟩
theorem sd_freeze (i : Nat) (h : ρ[i]? = some (.ow d)) (hr : SD c η bs (ρ.set i (.va d)) out) : SD c η bs ρ out := ⟨fun F0 H0 σ F H S E q => by
  obtain ⟨F', _, S'⟩ := S.freeze h
  exact hr.run F0 H0 σ F' H S' E q⟩
theorem Stt.forget {K : PySem.W.Frag} {F0 H0 F H : Hp} {ρ : Rho} {σ : St} (S : Stt K F0 H0 ρ σ F H) (i : Nat) : Stt K F0 H0 (ρ.set i .no) σ F H := by
  refine S.less Rho.len_set (fun j s e => ?_) (List.Sublist.refl _)
  by_cases h : i = j
  · subst h
    by_cases hi : i < ρ.length
    · rw [Rho.get_set_self hi] at e
      exact .inl (Option.some.inj e).symm
    · rw [Rho.none_of (by rw [Rho.len_set]; omega)] at e
      cases e
  · rw [Rho.get_set_ne h] at e
    exact .inr e
def stoB (η : Nm) (x : Str) : Bool := η.sc.names.lookup x == some .local || (η.sc.names.lookup x == some .cell && η.own x)
theorem sto_of {x : Str} (h : stoB η x = true) : Loc η.sc x ∧ (η.sc.names.lookup x = some .local ∨ η.own x = true) := by
  unfold stoB at h
  simp only [Bool.or_eq_true, Bool.and_eq_true, beq_iff_eq] at h
  rcases h with h | ⟨h, g⟩
  · exact ⟨.inl h, .inl h⟩
  · exact ⟨.inr h, .inr g⟩
theorem loc_of {x : Str} (h : stoB η x = true) : Loc η.sc x := (sto_of h).1
theorem fn_of' {x : Str} {X : Cx} (hX : Cin c η X) (h : stoB η x = true) : X.fn x = true ∨ X.env.scope.names.lookup x = some .local := by
  rcases (sto_of h).2 with h | h
  · right; rw [hX.sc]; exact h
  · left; exact hX.fn x h
theorem s1_expr (he : ED c η e ρ d) (hs : isCmp e = false := by rfl) : S1 c η (.Expr e pos) ρ (.nx ρ) := ⟨fun F0 H0 σ F H S E q =>
  WS.of (fun X hX => ps_expr (WE.pe hX) (swap_no hs _ _ X.env)) (he.run F0 H0 σ F H S _ fun v F' H' g _ => q σ F' H' (S.grow g))⟩
theorem s1_ret (he : ED c η e ρ d) : S1 c η (.Return (some e) pos) ρ (.rt d) := ⟨fun F0 H0 σ F H S E q =>
  WS.of (fun X hX => ps_ret (WE.pe hX)) (he.run F0 H0 σ F H S _ fun v F' H' g r => q v F' H' (S.g.trans g) r)⟩
theorem s1_retO (he : EO c η e ρ d) : S1 c η (.Return (some e) pos) ρ (.ro d) := ⟨fun F0 H0 σ F H S E q =>
  WS.of (fun X hX => ps_ret (WE.pe hX)) (he.run F0 H0 σ F H S _ fun a F' H' g n n0 o => q a F' H' (S.g.trans g) n (S.g.h.free n0) o)⟩
theorem s1_retW {i : Nat} {x : Str} (hρ : ρ[i]? = some (.ow d)) (hN : η.N[i]? = some x := by rfl) (hv : visB η.sc x = true := by decide +kernel)
    (hd : (x == ("__debug__" : Str)) = false := by decide) (hcd : (x == ("__classdict__" : Str)) = false := by decide) : S1 c η (.Return (some (.Name x p)) pos) ρ (.ro d) := ⟨fun F0 H0 σ F H S E q => by
  obtain ⟨a, h, n, n0, ob⟩ := S.sl i _ hρ
  exact WS.of (t := tRet (tVar i)) (fun X hX => ps_ret (pe_var (by rw [hX.N]; exact hN) (by rw [hX.sc]; exact vis_of hv) hd hcd)) ⟨_, h, q a F H S.g n n0 ob⟩⟩
theorem s1_set (i : Nat) {x : Str} (he : ED c η e ρ d) (hN : η.N.Nodup) (hi : η.N[i]? = some x := by rfl) (hx : stoB η x = true := by decide +kernel) (hρ : i < ρ.length := by first | decide | (simp [rho]; done)) (hs : isCmp e = false := by rfl) :
    S1 c η (.Assign [.Name x p] e pos) ρ (.nx (ρ.set i (.va d))) := ⟨fun F0 H0 σ F H S E q =>
  WS.of (t := tAsg (WE c η e) (gName i)) (fun X hX => ps_set (by rw [hX.N]; exact hN) (by rw [hX.N]; exact hi) (by rw [hX.sc]; exact loc_of hx) (WE.pe hX) (swap_no hs _ _ X.env) (fn_of' hX hx))
    (he.run F0 H0 σ F H S _ fun v F' H' g r => q _ F' H' ((S.grow g).set_va hρ r))⟩
theorem s1_setO (i : Nat) {x : Str} (he : EO c η e ρ d) (hN : η.N.Nodup) (hi : η.N[i]? = some x := by rfl) (hx : stoB η x = true := by decide +kernel) (hρ : i < ρ.length := by first | decide | (simp [rho]; done)) (hs : isCmp e = false := by rfl) :
    S1 c η (.Assign [.Name x p] e pos) ρ (.nx (ρ.set i (.ow d))) := ⟨fun F0 H0 σ F H S E q =>
  WS.of (t := tAsg (WE c η e) (gName i)) (fun X hX => ps_set (by rw [hX.N]; exact hN) (by rw [hX.N]; exact hi) (by rw [hX.sc]; exact loc_of hx) (WE.pe hX) (swap_no hs _ _ X.env) (fn_of' hX hx))
    (he.run F0 H0 σ F H S _ fun a F' H' g n n0 ob => q _ F' H' (S.set_ow g hρ n n0 ob))⟩
structure TD (c : Cc) (η : Nm) (tg : Expr) (d : D) (is : List Nat) (ρ ρ1 : Rho) : Prop where
  run : ∀ F0 H0 σ F H v, Stt c.K F0 H0 ρ σ F H → Rep c.K F v d → ∀ Q : St → Hp → Prop,
  (∀ σ', Stt c.K F0 H0 ρ1 σ' F H → σ'.length = σ.length → (∀ j, j ∉ is → σ'[j]? = σ[j]?) → Q σ' H) → WG c η tg v σ H Q
theorem td_name (i : Nat) {x : Str} (hN : η.N.Nodup) (hi : η.N[i]? = some x := by rfl) (hx : stoB η x = true := by decide +kernel) (hρ : i < ρ.length := by first | decide | (simp [rho]; done)) : TD c η (.Name x pos) d [i] ρ (ρ.set i (.va d)) := ⟨fun F0 H0 σ F H v S r Q q =>
  WG.of (t := gName i) (fun X hX => pg_name (by rw [hX.N]; exact hN) (by rw [hX.N]; exact hi) (by rw [hX.sc]; exact loc_of hx) (fn_of' hX hx))
    (q _ (S.set_va hρ r) (by rw [List.length_set]) fun j hj => by rw [List.getElem?_set_ne (by intro z; subst z; simp at hj)])⟩
theorem td_name2 (i j : Nat) {x y : Str} {p1 p2 : Pos} {k : Nat} (hN : η.N.Nodup) (hi : η.N[i]? = some x := by rfl) (hj : η.N[j]? = some y := by rfl) (hx : stoB η x = true := by decide +kernel) (hy : stoB η y = true := by decide +kernel) (hρ : i < ρ.length := by first | decide | (simp [rho]; done)) (hρ2 : j < ρ.length := by first | decide | (simp [rho]; done))
    (hn : ∀ env, (assignEach [.Name x p1, .Name y p2] env).length = 2 := by intro _; rfl) (hst : ∀ env, (assignEach [.Name x p1, .Name y p2] env).findIdx? (·.1) = none := by intro _; rfl)
    (hc1 : ∀ env, (assignEach [.Name x p1, .Name y p2] env).map (·.2) = assign (.Name x p1) env :: (assignEach [.Name y p2] env).map (·.2) := by intro _; rfl) (hc2 : ∀ env, (assignEach [.Name y p2] env).map (·.2) = assign (.Name y p2) env :: (assignEach [] env).map (·.2) := by intro _; rfl) :
    TD c η (.Tuple [.Name x p1, .Name y p2] k pos) (.tup [d1, d2]) [i, j] ρ ((ρ.set i (.va d1)).set j (.va d2)) := ⟨fun F0 H0 σ F H v S r Q q =>
  WG.of (t := gTup c.K 2 (gCons (gName i) (gCons (gName j) gNil))) (fun X hX => by
    have g1 : PG X (.Name x p1) (gName i) := pg_name (by rw [hX.N]; exact hN) (by rw [hX.N]; exact hi) (by rw [hX.sc]; exact loc_of hx) (fn_of' hX hx)
    have g2 : PG X (.Name y p2) (gName j) := pg_name (by rw [hX.N]; exact hN) (by rw [hX.N]; exact hj) (by rw [hX.sc]; exact loc_of hy) (fn_of' hX hy)
    rw [← hX.K]
    exact pg_tup hX.calm (pgs_cons g1 (pgs_cons g2 pgs_nil (hc2 X.env)) (hc1 X.env)) (hn X.env) (hst X.env)) (by
    cases r with
    | @tup a vs _ hf r =>
      have sq := same_T S.fh hf
      obtain ⟨v1, v2, rfl, r1, r2⟩ := r.two
      refine ⟨a, _, rfl, sq, rfl, v1, [v2], rfl, v2, [], rfl, rfl, q _ ((S.set_va hρ r1).set_va (by rw [Rho.len_set]; exact hρ2) r2) (by rw [List.length_set, List.length_set]) fun m hm => ?_⟩
      simp only [List.mem_cons, List.not_mem_nil, or_false, not_or] at hm
      rw [List.getElem?_set_ne (Ne.symm hm.2), List.getElem?_set_ne (Ne.symm hm.1)])⟩
theorem s1_asg {tg : Expr} {is : List Nat} (he : ED c η e ρ d) (hg : TD c η tg d is ρ ρ1) (hs : isCmp e = false := by rfl) (hw : isTup e = false := by rfl)
    (h1 : ∀ env, (assignEach [tg] env).map (·.2) = [assign tg env] := by intro _; rfl) : S1 c η (.Assign [tg] e pos) ρ (.nx ρ1) := ⟨fun F0 H0 σ F H S E q =>
  WS.of (fun X hX => ps_asg (WE.pe hX) (WG.pg hX) (sole_no hs _ _ X.env) (stores_no hw _ X.env) (h1 X.env)) (he.run F0 H0 σ F H S _ fun v F' H' g r => hg.run F0 H0 σ F' H' v (S.grow g) r _ fun σ' S' _ _ => q σ' F' H' S')⟩
theorem s1_if {t : Expr} {a b : List Stmt} {k : Bool} (ht : ET c η t ρ k) (h1 : k = true → SD c η [a] ρ out) (h2 : k = false → SD c η [b] ρ out) : S1 c η (.If t a b pos) ρ out := ⟨fun F0 H0 σ F H S E q =>
  WS.of (fun X hX => ps_if (WT.pt hX) (WB.pb hX) (WB.pb hX)) (ht.run F0 H0 σ F H S _ fun F' H' g => by
    cases k with
    | true =>
      show WB c η a E σ H'
      exact (h1 rfl).run F0 H0 σ F' H' (S.grow g) E q
    | false =>
      show WB c η b E σ H'
      exact (h2 rfl).run F0 H0 σ F' H' (S.grow g) E q)⟩
theorem sd_if {t : Expr} {a b : List Stmt} {k : Bool} (ht : ET c η t ρ k) (h1 : k = true → SD c η (a :: rest :: bs) ρ out) (h2 : k = false → SD c η (b :: rest :: bs) ρ out) : SD c η ((.If t a b pos :: rest) :: bs) ρ out := ⟨fun F0 H0 σ F H S E q =>
  WQ.cons (WS.of (fun X hX => ps_if (WT.pt hX) (WB.pb hX) (WB.pb hX)) (ht.run F0 H0 σ F H S _ fun F' H' g => by
    cases k with
    | true =>
      show WQ c η (a :: rest :: bs) E σ H'
      exact (h1 rfl).run F0 H0 σ F' H' (S.grow g) E q
    | false =>
      show WQ c η (b :: rest :: bs) E σ H'
      exact (h2 rfl).run F0 H0 σ F' H' (S.grow g) E q))⟩
inductive WhD (c : Cc) (η : Nm) (t : Expr) (body : List Stmt) : Nat → Rho → Out → Prop
  | stop {n : Nat} {ρ : Rho} : ET c η t ρ false → WhD c η t body n ρ (.nx ρ)
  | nx {n : Nat} {ρ ρ1 : Rho} {o : Out} : ET c η t ρ true → SD c η [body] ρ (.nx ρ1) → WhD c η t body n ρ1 o → WhD c η t body (n + 1) ρ o
  | rt {n : Nat} {ρ : Rho} {d : D} : ET c η t ρ true → SD c η [body] ρ (.rt d) → WhD c η t body n ρ (.rt d)
  | bk {n : Nat} {ρ ρ1 : Rho} : ET c η t ρ true → SD c η [body] ρ (.bk ρ1) → WhD c η t body n ρ (.nx ρ1)
theorem WhD.mono {t : Expr} {body : List Stmt} {n m : Nat} {ρ : Rho} {o : Out} (h : WhD c η t body n ρ o) : n ≤ m → WhD c η t body m ρ o := by
  induction h generalizing m with
  | stop h => exact fun _ => .stop h
  | rt h1 h2 => exact fun _ => .rt h1 h2
  | bk h1 h2 => exact fun _ => .bk h1 h2
  | nx h1 h2 _ ih =>
    intro hm
    cases m with
    | zero => omega
    | succ m => exact .nx h1 h2 (ih (by omega))
def Yld (K : PySem.W.Frag) (J : It) (F' : Hp) (items : List D) : Prop := ∀ i F H, Same F' F → Same F H →
  (∀ d, items[i]? = some d → J.go i H ∧ ∀ x H3, J.yld i H x H3 → ∃ F3, Grow F H F3 H3 ∧ Rep K F3 x d) ∧ (items.length ≤ i → J.stop i H)
structure ID (c : Cc) (η : Nm) (tg it : Expr) (ρ : Rho) (items : List D) : Prop where
  run : ∀ F0 H0 σ F H, Stt c.K F0 H0 ρ σ F H → ∀ R : It → Hp → Prop, (∀ J F' H', Grow F H F' H' → Yld c.K J F' items → R J H') → WI c η tg it σ H R
theorem yld_list {K : PySem.W.Frag} {F' : Hp} {a : Addr} {vs : List V} {ds : List D} (hq : SqL K F' a vs) (r : RepL K F' vs ds) : Yld K (Itl K a) F' ds := fun i F H s s' =>
  ⟨fun d hd => by
    obtain ⟨v, hv, rv⟩ := r.get hd
    refine ⟨⟨vs, v, (s.trans s').seq hq, hv⟩, fun x H3 h => ?_⟩
    obtain ⟨rfl, h⟩ := h
    have e := h vs ((s.trans s').seq hq)
    rw [hv] at e
    cases e
    exact ⟨F, .refl s', rv.mono s⟩, fun hi => ⟨vs, (s.trans s').seq hq, by rw [r.length]; exact hi⟩⟩
theorem yld_tup {K : PySem.W.Frag} {F' : Hp} {a : Addr} {vs : List V} {ds : List D} (hq : SqT K F' a vs) (r : RepL K F' vs ds) : Yld K (Itt K a) F' ds := fun i F H s s' =>
  ⟨fun d hd => by
    obtain ⟨v, hv, rv⟩ := r.get hd
    refine ⟨⟨vs, v, same_T (s.trans s') hq, hv⟩, fun x H3 h => ?_⟩
    obtain ⟨rfl, h⟩ := h
    have e := h vs (same_T (s.trans s') hq)
    rw [hv] at e
    cases e
    exact ⟨F, .refl s', rv.mono s⟩, fun hi => ⟨vs, same_T (s.trans s') hq, by rw [r.length]; exact hi⟩⟩
theorem id_list {tg : Expr} (he : ED c η e ρ (.lst ds)) : ID c η tg e ρ ds := ⟨fun F0 H0 σ F H S R q =>
  WI.of (t := iList c.K (WE c η e)) (fun X hX => by rw [← hX.K]; exact pi_list (WE.pe hX)) (he.run F0 H0 σ F H S _ fun v F' H' g r => by
    cases r with
    | lst hf r => exact ⟨_, rfl, ⟨_, SqL.of (g.fh _ _ hf)⟩, q _ F' H' g (yld_list (SqL.of hf) r)⟩)⟩
theorem id_tup {tg : Expr} (he : ED c η e ρ (.tup ds)) : ID c η tg e ρ ds := ⟨fun F0 H0 σ F H S R q =>
  WI.of (t := iTup c.K (WE c η e)) (fun X hX => by rw [← hX.K]; exact pi_tup (WE.pe hX)) (he.run F0 H0 σ F H S _ fun v F' H' g r => by
    cases r with
    | tup hf r => exact ⟨_, rfl, ⟨_, same_T g.fh hf⟩, q _ F' H' g (yld_tup hf r)⟩)⟩
def rangeD (lo : Int) (n : Nat) : List D := (List.range n).map fun i => .int (lo + (i : Nat))
theorem rangeD_get (lo : Int) (n i : Nat) : (rangeD lo n)[i]? = if i < n then some (.int (lo + (i : Nat))) else none := by
  unfold rangeD
  rw [List.getElem?_map]
  split
  · rename_i h
    rw [List.getElem?_range h]
    rfl
  · rename_i h
    rw [List.getElem?_eq_none (by simpa using h)]
    rfl
theorem yld_range {K : PySem.W.Frag} {F' : Hp} {lo : Int} {n : Nat} : Yld K (Itr lo n) F' (rangeD lo n) := fun i F H s s' => by
  refine ⟨fun d hd => ?_, fun h => (by rw [rangeD, List.length_map, List.length_range] at h; exact h : n ≤ i)⟩
  rw [rangeD_get] at hd
  split at hd
  · rename_i hi
    cases hd
    refine ⟨hi, fun x H3 h => ?_⟩
    obtain ⟨rfl, rfl⟩ := h
    exact ⟨F, .refl s', .int _⟩
  · cases hd
theorem id_range1 {tg : Expr} {j : Int} (hm : c.mg "range" = none) (he : EA c η [e] ρ [.int j]) (hb : -(2 ^ 62) ≤ j ∧ j < 2 ^ 62 := by omega) (hg : glB η.sc "range" = true := by decide +kernel) (hs : isStar e = false := by rfl) :
    ID c η tg (.Call (.Name "range" p) [e] [] pos) ρ (rangeD 0 j.toNat) := ⟨fun F0 H0 σ F H S R q =>
  WI.of (fun X hX => pi_range1 (gl_of hX hg) (by rw [hX.mg]; exact hm) (WA.pa hX) (star_one hs X.env)) (he.run F0 H0 σ F H S _ fun vs F' H' g r => by
    obtain ⟨v, rfl, r1⟩ := r.one
    cases r1
    exact ⟨j, rfl, hb.1, hb.2, q _ F' H' g yld_range⟩)⟩
def signs (x : Str) : List D := x.cps.toList.map fun n => .str ⟨#[n]⟩
theorem id_str {tg : Expr} {x : Str} (he : ED c η e ρ (.str x)) : ID c η tg e ρ (signs x) := ⟨fun F0 H0 σ F H S R q =>
  WI.of (fun X hX => pi_str (WE.pe hX)) (he.run F0 H0 σ F H S _ fun v F' H' g r => by
    cases r
    refine ⟨x, rfl, q _ F' H' g fun i F H s s' => ⟨fun d hd => ?_, fun h => (by rw [signs, List.length_map, Array.length_toList] at h; exact h : x.cps.size ≤ i)⟩⟩
    unfold signs at hd
    rw [List.getElem?_map] at hd
    cases e : x.cps.toList[i]? with
    | none => rw [e] at hd; cases hd
    | some n =>
      rw [e] at hd
      cases hd
      have e' : x.cps[i]? = some n := by rw [← e]; simp
      refine ⟨(Array.getElem?_eq_some_iff.mp e').1, fun y H3 h => ?_⟩
      obtain ⟨rfl, m, hm, rfl⟩ := h
      rw [e'] at hm
      cases hm
      exact ⟨F, .refl s', .str _⟩)⟩
def over (F H : Hp) : Hp := fun a => match F a with | some o => some o | none => H a
theorem over_l {F H : Hp} : Same F (over F H) := fun a o e => by unfold over; rw [e]
theorem over_some {F H : Hp} {a : Addr} {o : HO} (h : over F H a = some o) : F a = some o ∨ (F a = none ∧ H a = some o) := by
  unfold over at h
  cases e : F a with
  | some u => rw [e] at h; exact .inl h
  | none => rw [e] at h; exact .inr ⟨rfl, h⟩
theorem Stt.over {K : PySem.W.Frag} {F0 H0 F H F1 : Hp} {ρ : Rho} {σ : St} (S : Stt K F0 H0 ρ σ F H) (f : Same F0 F1) (s : Same F1 F) : Stt K F1 (over F1 H0) ρ σ F H ∧ Grow F0 H0 F1 (DL.over F1 H0) := by
  refine ⟨⟨⟨s, fun a o e => ?_, S.fh, fun a o e n => ?_⟩, S.len, fun i sl e => ?_, S.ne, ⟨fun a d h => ?_, S.w.nd⟩, S.ws⟩, ⟨f, fun a o e => ?_, over_l, fun a o e n => ?_⟩⟩
  · rcases over_some e with h | ⟨_, h⟩
    · exact S.fh a o (s a o h)
    · exact S.g.h a o h
  · rcases over_some e with h | ⟨_, h⟩
    · rw [h] at n; cases n
    · exact S.g.sep a o h (f.free n)
  · have q := S.sl i sl e
    cases sl with
    | no => exact trivial
    | va d => exact q
    | ow d =>
      obtain ⟨a, h1, h2, h3, h4⟩ := q
      refine ⟨a, h1, h2, ?_, h4⟩
      unfold DL.over
      rw [s.free h2]
      exact h3
  · obtain ⟨h2, h3, h4⟩ := S.w.ob a d h
    refine ⟨h2, ?_, h4⟩
    unfold DL.over
    rw [s.free h2]
    exact h3
  · cases z : F1 a with
    | some u =>
      have := S.fh a u (s a u z)
      rw [S.g.h a o e] at this
      cases this
      exact over_l a _ z
    | none => unfold DL.over; rw [z]; exact e
  · exact s.free (S.g.sep a o e n)
theorem Stt.under {K : PySem.W.Frag} {F0 H0 F H F1 H1 : Hp} {ρ : Rho} {σ : St} (S : Stt K F1 H1 ρ σ F H) (g : Grow F0 H0 F1 H1) : Stt K F0 H0 ρ σ F H := by
  refine ⟨g.trans S.g, S.len, fun i sl e => ?_, S.ne, ⟨fun a d h => ?_, S.w.nd⟩, S.ws⟩
  · have q := S.sl i sl e
    cases sl with
    | no => exact trivial
    | va d => exact q
    | ow d =>
      obtain ⟨a, h1, h2, h3, h4⟩ := q
      exact ⟨a, h1, h2, g.h.free h3, h4⟩
  · obtain ⟨h2, h3, h4⟩ := S.w.ob a d h
    exact ⟨h2, g.h.free h3, h4⟩
theorem SD.fromN (hb : SD c η bs ρ (.nx ρ2)) {F0 H0 F H F1 : Hp} {σ : St} (S : Stt c.K F0 H0 ρ σ F H) (f : Same F0 F1) (s : Same F1 F) (E : Ends) (q : ∀ σ' F' H', Stt c.K F0 H0 ρ2 σ' F' H' → Same F1 F' → E.nx σ' H') : WQ c η bs E σ H := by
  obtain ⟨S1, g⟩ := S.over f s
  exact hb.run F1 _ σ F H S1 E fun σ' F' H' S' => q σ' F' H' (S'.under g) S'.g.f
theorem SD.fromC (hb : SD c η bs ρ (.ct ρ2)) {F0 H0 F H F1 : Hp} {σ : St} (S : Stt c.K F0 H0 ρ σ F H) (f : Same F0 F1) (s : Same F1 F) (E : Ends) (q : ∀ σ' F' H', Stt c.K F0 H0 ρ2 σ' F' H' → Same F1 F' → E.ct σ' H') : WQ c η bs E σ H := by
  obtain ⟨S1, g⟩ := S.over f s
  exact hb.run F1 _ σ F H S1 E fun σ' F' H' S' => q σ' F' H' (S'.under g) S'.g.f
inductive ForD (c : Cc) (η : Nm) (tg : Expr) (body : List Stmt) : List D → Rho → Out → Prop
  | nil {ρ : Rho} : ForD c η tg body [] ρ (.nx ρ)
  | nx {d : D} {ds : List D} {is : List Nat} {ρ ρ1 ρ2 : Rho} {o : Out} : TD c η tg d is ρ ρ1 → SD c η [body] ρ1 (.nx ρ2) → ForD c η tg body ds ρ2 o → ForD c η tg body (d :: ds) ρ o
  | ct {d : D} {ds : List D} {is : List Nat} {ρ ρ1 ρ2 : Rho} {o : Out} : TD c η tg d is ρ ρ1 → SD c η [body] ρ1 (.ct ρ2) → ForD c η tg body ds ρ2 o → ForD c η tg body (d :: ds) ρ o
  | bk {d : D} {ds : List D} {is : List Nat} {ρ ρ1 ρ2 : Rho} : TD c η tg d is ρ ρ1 → SD c η [body] ρ1 (.bk ρ2) → ForD c η tg body (d :: ds) ρ (.nx ρ2)
  | rt {d : D} {ds : List D} {is : List Nat} {ρ ρ1 : Rho} {d' : D} : TD c η tg d is ρ ρ1 → SD c η [body] ρ1 (.rt d') → ForD c η tg body (d :: ds) ρ (.rt d')
theorem s1_for {tg it : Expr} {body : List Stmt} (hi : ID c η tg it ρ ds) (h : ForD c η tg body ds ρ out) (hf : isSetD it = false := by rfl) : S1 c η (.For tg it body [] pos) ρ out := ⟨fun F0 H0 σ F H S0 E q =>
  WS.of (fun X hX => ps_for hX.po hX.calm (WI.pi hX) (WG.pg hX) (WB.pb hX) (fold_no hf X.env)) (hi.run F0 H0 σ F H S0 _ fun J F1 H1 g1 y => by
    refine ⟨fun i m σ H => m = ds.length - i ∧ ∃ F ρ, Stt c.K F0 H0 ρ σ F H ∧ Same F1 F ∧ ForD c η tg body (ds.drop i) ρ out, ⟨_, rfl, F1, ρ, S0.grow g1, Same.refl F1, by rw [List.drop_zero]; exact h⟩, ?_⟩
    rintro i m σ H ⟨rfl, F, ρ, S, s, h⟩
    obtain ⟨y1, y2⟩ := y i F H s S.fh
    by_cases hi : i < ds.length
    · obtain ⟨e1, e2⟩ : ds[i]? = some ds[i] ∧ ds.drop i = ds[i] :: ds.drop (i + 1) := ⟨List.getElem?_eq_getElem hi, List.drop_eq_getElem_cons hi⟩
      obtain ⟨go, yl⟩ := y1 _ e1
      refine .inr ⟨go, ?_⟩
      rw [e2] at h
      have next : ∀ (ρ2 : Rho) (hr : ForD c η tg body (ds.drop (i + 1)) ρ2 out) σ' H', (∃ F', Stt c.K F0 H0 ρ2 σ' F' H' ∧ Same F1 F') → ∃ m', m' < ds.length - i ∧ m' = ds.length - (i + 1) ∧ ∃ F ρ, Stt c.K F0 H0 ρ σ' F H' ∧ Same F1 F ∧ ForD c η tg body (ds.drop (i + 1)) ρ out := fun ρ2 hr σ' H' ⟨F', S', s'⟩ => ⟨_, by omega, rfl, F', ρ2, S', s', hr⟩
      let N : Rho → L2.St → Hp → Prop := fun ρ2 σ' H' => ∃ F', Stt c.K F0 H0 ρ2 σ' F' H' ∧ Same F1 F'
      have f01 : Same F0 F1 := (S0.grow g1).g.f
      cases h with
      | nx ht hb hr =>
        refine ⟨N _, next _ hr, fun x H3 hx => ?_⟩
        obtain ⟨F3, g3, r3⟩ := yl x H3 hx
        refine ht.run F0 H0 σ F3 H3 x (S.grow g3) r3 _ fun σ' S' _ _ => ?_
        exact SD.fromN hb S' f01 (s.trans g3.f) ⟨N _, E.rt, E.nx, N _⟩ fun σ2 F2 H2 S2 s2 => ⟨F2, S2, s2⟩
      | ct ht hb hr =>
        refine ⟨N _, next _ hr, fun x H3 hx => ?_⟩
        obtain ⟨F3, g3, r3⟩ := yl x H3 hx
        refine ht.run F0 H0 σ F3 H3 x (S.grow g3) r3 _ fun σ' S' _ _ => ?_
        exact SD.fromC hb S' f01 (s.trans g3.f) ⟨N _, E.rt, E.nx, N _⟩ fun σ2 F2 H2 S2 s2 => ⟨F2, S2, s2⟩
      | bk ht hb =>
        refine ⟨fun _ _ => False, fun _ _ z => z.elim, fun x H3 hx => ?_⟩
        obtain ⟨F3, g3, r3⟩ := yl x H3 hx
        exact ht.run F0 H0 σ F3 H3 x (S.grow g3) r3 _ fun σ' S' _ _ => hb.run F0 H0 σ' F3 H3 S' ⟨fun _ _ => False, E.rt, E.nx, fun _ _ => False⟩ q
      | rt ht hb =>
        refine ⟨fun _ _ => False, fun _ _ z => z.elim, fun x H3 hx => ?_⟩
        obtain ⟨F3, g3, r3⟩ := yl x H3 hx
        exact ht.run F0 H0 σ F3 H3 x (S.grow g3) r3 _ fun σ' S' _ _ => hb.run F0 H0 σ' F3 H3 S' ⟨fun _ _ => False, E.rt, E.nx, fun _ _ => False⟩ q
    · rw [List.drop_eq_nil_of_le (by omega)] at h
      cases h
      exact .inl ⟨y2 (by omega), q σ F H S⟩)⟩
end DL

set_option Elab.async false
set_option linter.all false
set_option maxRecDepth 100000
set_option maxHeartbeats 4000000
namespace DL
open PySem L2
variable {c : Cc} {η : Nm} {ρ ρ1 ρ2 : Rho} {a b e o : Expr} {es : List Expr} {pos p apos : Pos} {d d1 d2 : D} {ds : List D} {out : Out}

def Nm.blk (η : Nm) (scope : Scope) : Nm := ⟨η.N, relS scope η.sc, fun x => scope.names.lookup x == some .cell⟩
theorem Cin.blk {X : Cx} (hX : Cin c η X) {scope : Scope} (s : Shared) (H : Hp) (C : Addr) (cl : List (Str × Addr)) (fp : List Addr) : Cin c (η.blk scope) (X.blk s H scope (compEnvC scope cl C X.env) fp) :=
  ⟨hX.prog, hX.w, hX.K, hX.mg, hX.base, hX.N, by show relS scope X.env.scope = relS scope η.sc; rw [hX.sc], hX.room, hX.calm, fun x h => h, PassesOwn.never⟩
inductive CompD (c : Cc) (η : Nm) (tg elt : Expr) (ifs : List Expr) (vs : List Nat) (ρ : Rho) : List D → List D → Prop
  | nil : CompD c η tg elt ifs vs ρ [] []
  | keep {d d' : D} {ds out : List D} {is : List Nat} {ρ1 : Rho} : TD c η tg d is ρ ρ1 → (∀ i ∈ is, i ∈ vs) → (∀ t, ifs = [t] → ET c η t ρ1 true) → ED c η elt ρ1 d' → CompD c η tg elt ifs vs ρ ds out → CompD c η tg elt ifs vs ρ (d :: ds) (d' :: out)
  | skip {d : D} {ds out : List D} {is : List Nat} {ρ1 : Rho} {t : Expr} : TD c η tg d is ρ ρ1 → (∀ i ∈ is, i ∈ vs) → ifs = [t] → ET c η t ρ1 false → CompD c η tg elt ifs vs ρ ds out → CompD c η tg elt ifs vs ρ (d :: ds) out
theorem CompD.len {tg elt : Expr} {ifs : List Expr} {vs : List Nat} {ds out : List D} (h : CompD c η tg elt ifs vs ρ ds out) : out.length ≤ ds.length := by
  induction h with
  | nil => exact Nat.le_refl _
  | keep _ _ _ _ _ ih => simpa using ih
  | skip _ _ _ _ _ ih => exact Nat.le_succ_of_le ih
def wipeR (ρ : Rho) : List Nat → Rho
  | [] => ρ
  | v :: vs => (wipeR ρ vs).set v .no
theorem Stt.wipe {K : PySem.W.Frag} {F0 H0 F H : Hp} {σ : St} (S : Stt K F0 H0 ρ σ F H) : ∀ vs : List Nat, Stt K F0 H0 (wipeR ρ vs) (wipe σ vs) F H
  | [] => S
  | v :: vs => by
    have S' := (Stt.wipe S vs).forget v
    have ne : ∀ (i : Nat) (d : D), (wipeR ρ (v :: vs))[i]? = some (.ow d) → v ≠ i := fun i d e z => by
      subst z
      have q : ((wipeR ρ vs).set v .no)[v]? = some (.ow d) := e
      by_cases hv : v < (wipeR ρ vs).length
      · rw [Rho.get_set_self hv] at q; cases q
      · rw [Rho.none_of (by rw [Rho.len_set]; omega)] at q; cases q
    refine ⟨S'.g, by rw [L2.wipe, List.length_set]; exact S'.len, fun i s e => ?_, fun i j d1 d2 a e1 e2 e3 e4 => ?_, S'.w, fun i d a e1 e2 => ?_⟩
    · by_cases h : v = i
      · subst h
        have q : ((wipeR ρ vs).set v .no)[v]? = some s := e
        by_cases hv : v < (wipeR ρ vs).length
        · rw [Rho.get_set_self hv] at q; cases q; exact trivial
        · rw [Rho.none_of (by rw [Rho.len_set]; omega)] at q; cases q
      · rw [L2.wipe, List.getElem?_set_ne h]
        exact S'.sl i s e
    · rw [L2.wipe, List.getElem?_set_ne (ne i d1 e1)] at e3
      rw [L2.wipe, List.getElem?_set_ne (ne j d2 e2)] at e4
      exact S'.ne i j d1 d2 a e1 e2 e3 e4
    · rw [L2.wipe, List.getElem?_set_ne (ne i d e1)] at e2
      exact S'.ws i d a e1 e2
theorem wipe_get (σ : St) : ∀ (vs : List Nat) (j : Nat), (wipe σ vs)[j]? = if j ∈ vs then (if j < σ.length then some none else none) else σ[j]?
  | [], j => by simp [wipe]
  | v :: vs, j => by
    rw [wipe]
    by_cases h : v = j
    · subst h
      rw [if_pos (by simp)]
      by_cases hv : v < σ.length
      · rw [if_pos hv, List.getElem?_set_self (by rw [wipe_length]; exact hv)]
      · rw [if_neg hv, List.getElem?_eq_none (by rw [List.length_set, wipe_length]; omega)]
    · rw [List.getElem?_set_ne h, wipe_get σ vs j]
      by_cases hj : j ∈ vs
      · rw [if_pos hj, if_pos (List.mem_cons_of_mem _ hj)]
      · rw [if_neg hj, if_neg (by simp only [List.mem_cons, not_or]; exact ⟨fun z => h z.symm, hj⟩)]
theorem wipe_eq {σ σ' : St} {vs is : List Nat} (hl : σ'.length = (wipe σ vs).length) (h : ∀ j, j ∉ is → σ'[j]? = (wipe σ vs)[j]?) (hi : ∀ i ∈ is, i ∈ vs) : wipe σ' vs = wipe σ vs := by
  rw [wipe_length] at hl
  refine List.ext_getElem? fun j => ?_
  rw [wipe_get, wipe_get, hl]
  by_cases hj : j ∈ vs
  · rw [if_pos hj, if_pos hj]
  · rw [if_neg hj, if_neg hj, h j fun z => hj (hi j z), wipe_get, if_neg hj]
theorem Stt.beside {K : PySem.W.Frag} {F0 H0 F H : Hp} {σ : St} {A : Addr} {u : HO} (S : Stt K F0 H0 ρ σ F H) (n : F A = none) (n0 : H0 A = none) (ne : ∀ (i : Nat) (d : D) (b : Addr), ρ[i]? = some (.ow d) → σ[i]? = some (some (.ref b)) → b ≠ A) (nw : ∀ e, (A, e) ∉ ρ.w) : Stt K F0 H0 ρ σ F (upd H A u) := by
  refine ⟨⟨S.g.f, fun b x z => ?_, same_mut S.fh n, S.g.sep⟩, S.len, fun i s e => ?_, S.ne, ⟨fun b d hb => ?_, S.w.nd⟩, S.ws⟩
  · rw [upd_ne (ne_of_none z n0)]
    exact S.g.h b x z
  · have q := S.sl i s e
    cases s with
    | no => exact trivial
    | va d => exact q
    | ow d =>
      obtain ⟨b, h1, h2, h3, h4⟩ := q
      exact ⟨b, h1, h2, h3, by rw [upd_ne (ne i d b e h1)]; exact h4⟩
  · obtain ⟨h2, h3, h4⟩ := S.w.ob b d hb
    exact ⟨h2, h3, by rw [upd_ne (show b ≠ A from fun z => by subst z; exact nw d hb)]; exact h4⟩
def tComp (c : Cc) (η η' : Nm) (tg it elt : Expr) (ifs : List Expr) (vs : List Nat) : TE := tLc (WI c η tg it) (WG c η' tg) (match ifs with | [t] => WT c η' t | _ => tYes) (WE c η' elt) vs
theorem comp_of {η' : Nm} {tg it elt : Expr} {ifs : List Expr} {vs : List Nat} {items res : List D} (hi : ID c η tg it ρ items) (h : CompD c η' tg elt ifs vs (wipeR ρ vs) items res) (hf : ifs.length ≤ 1) (hl : items.length ≤ 100000)
    {F0 H0 F H : Hp} {σ : St} (S : Stt c.K F0 H0 ρ σ F H) {Q : VK} (q : ∀ a F' H', Grow F H F' H' → F' a = none → H a = none → Obj c.K F' (H' a) (.lst res) → Q (.ref a) H') : tComp c η η' tg it elt ifs vs σ H Q := by
  refine hi.run F0 H0 σ F H S _ fun J F1 H1 g1 y A hA => ?_
  have S1 := (S.grow g1).wipe vs
  have out_ne : ∀ (i : Nat) (d : D) (b : Addr), (wipeR ρ vs)[i]? = some (.ow d) → (wipe σ vs)[i]? = some (some (.ref b)) → b ≠ A := fun i d b e1 e2 => by
    obtain ⟨⟨u, hu⟩, _⟩ := S1.own_there e1 e2
    exact ne_of_none hu hA
  have out_w : ∀ e, (A, e) ∉ (wipeR ρ vs).w := fun e h => by
    obtain ⟨_, _, o⟩ := S1.w.ob A e h
    obtain ⟨u, hu⟩ := o.some
    rw [hA] at hu; cases hu
  -- W: what is made so far at A, what is left of the items makes the rest
  refine ⟨fun i m H2 => m = items.length - i ∧ ∃ F2 done rest xs, Stt c.K F0 H0 (wipeR ρ vs) (wipe σ vs) F2 H2 ∧ Same F1 F2 ∧ (∀ a o, H a = some o → F a = none → F2 a = none) ∧ Same H H2 ∧ F2 A = none ∧ H2 A = some (.lst xs) ∧ RepL c.K F2 xs done ∧ done.length ≤ i ∧ res = done ++ rest ∧ CompD c η' tg elt ifs vs (wipeR ρ vs) (items.drop i) rest, ?_, ?_⟩
  · refine ⟨_, rfl, F1, [], res, [], S1.beside (g1.fh.free hA) (S1.g.h.free hA) out_ne out_w, Same.refl F1, g1.sep, g1.h.trans (same_upd hA), g1.fh.free hA, upd_same, .nil, Nat.zero_le _, rfl, by rw [List.drop_zero]; exact h⟩
  · rintro i m H2 ⟨rfl, F2, done, rest, xs, S2, s2, sep2, h2, n2, e2, r2, dl, er, h⟩
    obtain ⟨y1, y2⟩ := y i F2 H2 s2 S2.fh
    by_cases hi : i < items.length
    · obtain ⟨e1, e3⟩ : items[i]? = some items[i] ∧ items.drop i = items[i] :: items.drop (i + 1) := ⟨List.getElem?_eq_getElem hi, List.drop_eq_getElem_cons hi⟩
      obtain ⟨go, yl⟩ := y1 _ e1
      rw [e3] at h
      refine .inr ⟨go, fun H' => ∃ m', m' < items.length - i ∧ (m' = items.length - (i + 1) ∧ ∃ F2 done rest xs, Stt c.K F0 H0 (wipeR ρ vs) (wipe σ vs) F2 H' ∧ Same F1 F2 ∧ (∀ a o, H a = some o → F a = none → F2 a = none) ∧ Same H H' ∧ F2 A = none ∧ H' A = some (.lst xs) ∧ RepL c.K F2 xs done ∧ done.length ≤ i + 1 ∧ res = done ++ rest ∧ CompD c η' tg elt ifs vs (wipeR ρ vs) (items.drop (i + 1)) rest), fun H' z => z, fun x H3 hx => ?_⟩
      obtain ⟨F3, g3, r3⟩ := yl x H3 hx
      have hA0 : H A = none := g1.h.free hA
      have keepA : ∀ {Fa Ha : Hp}, Grow F2 H2 Fa Ha → Fa A = none ∧ Ha A = some (.lst xs) := fun g => ⟨g.sep A _ e2 n2, g.h A _ e2⟩
      cases h with
      | @keep _ d' _ rest' is ρ1 ht hsub hif hel hr =>
        refine ht.run F0 H0 _ F3 H3 x (S2.grow g3) r3 _ fun σ' S' hlen hsame => ⟨wipe_eq hlen hsame hsub, ?_⟩
        have goon : ∀ F4 H4, Grow F3 H3 F4 H4 → (if true = true then WE c η' elt σ' H4 fun y H4 => ∃ acc, H4 A = some (.lst acc) ∧ acc.length < sizeLine ∧ (fun H' => ∃ m', m' < items.length - i ∧ (m' = items.length - (i + 1) ∧ ∃ F2 done rest xs, Stt c.K F0 H0 (wipeR ρ vs) (wipe σ vs) F2 H' ∧ Same F1 F2 ∧ (∀ a o, H a = some o → F a = none → F2 a = none) ∧ Same H H' ∧ F2 A = none ∧ H' A = some (.lst xs) ∧ RepL c.K F2 xs done ∧ done.length ≤ i + 1 ∧ res = done ++ rest ∧ CompD c η' tg elt ifs vs (wipeR ρ vs) (items.drop (i + 1)) rest)) (upd H4 A (.lst (acc ++ [y]))) else False) := fun F4 H4 g4 => by
          rw [if_pos rfl]
          refine hel.run F0 H0 σ' F4 H4 (S'.grow g4) _ fun v F5 H5 g5 r5 => ?_
          have g25 := (g3.trans g4).trans g5
          obtain ⟨n5, e5⟩ := keepA g25
          have S5 := S2.grow g25
          refine ⟨xs, e5, ?_, _, by omega, rfl, F5, done ++ [d'], rest', xs ++ [v], S5.beside n5 (S.g.h.free hA0) out_ne out_w, s2.trans g25.f, fun a o z1 z2 => g25.sep a o (h2 a o z1) (sep2 a o z1 z2), fun a o z => by rw [upd_ne (ne_of_none z hA0)]; exact (h2.trans g25.h) a o z, n5, upd_same, (r2.mono g25.f).append (.cons r5 .nil), by rw [List.length_append, List.length_cons, List.length_nil]; omega, by rw [er, List.append_assoc]; rfl, hr⟩
          rw [r2.length]
          exact Nat.lt_of_lt_of_le (show done.length < 100000 by omega) (by decide)
        cases ifs with
        | nil => exact goon F3 H3 (.refl g3.fh)
        | cons t tl =>
          cases tl with
          | nil => exact (hif t rfl).run F0 H0 σ' F3 H3 S' _ fun F4 H4 g4 => goon F4 H4 g4
          | cons _ _ => simp at hf
      | @skip _ _ _ is ρ1 t ht hsub hif hte hr =>
        refine ht.run F0 H0 _ F3 H3 x (S2.grow g3) r3 _ fun σ' S' hlen hsame => ⟨wipe_eq hlen hsame hsub, ?_⟩
        subst hif
        refine hte.run F0 H0 σ' F3 H3 S' _ fun F4 H4 g4 => ?_
        rw [if_neg Bool.false_ne_true]
        have g24 := g3.trans g4
        obtain ⟨n4, e4⟩ := keepA g24
        exact ⟨_, by omega, rfl, F4, done, rest, xs, S2.grow g24, s2.trans g24.f, fun a o z1 z2 => g24.sep a o (h2 a o z1) (sep2 a o z1 z2), h2.trans g24.h, n4, e4, r2.mono g24.f, by omega, er, hr⟩
    · rw [List.drop_eq_nil_of_le (by omega)] at h
      cases h
      rw [List.append_nil] at er
      subst er
      refine .inl ⟨y2 (by omega), q A F2 H2 ⟨g1.f.trans s2, h2, S2.fh, sep2⟩ n2 (g1.h.free hA) (.inl ⟨xs, _, e2, rfl, r2⟩)⟩
theorem pe_comp {elt tg it : Expr} {ifs : List Expr} {scope : Scope} {own : List (Str × Nat)} {X : Cx} (hX : Cin c η X) (hN : η.N.Nodup) (hf : ifs.length ≤ 1) (ok : blkC η.N η.sc scope own = true) (hfs : isSetD it = false) : PE X (.ListComp elt [⟨tg, it, ifs, 0⟩] scope pos) (tComp c η (η.blk scope) tg it elt ifs (own.map (·.2))) := by
  refine pe_lc hX.calm (by rw [hX.N]; exact hN) (WI.pi hX) (by rw [hX.N, hX.sc]; exact blkOk_by ok) (fun s H C cl fp => WG.pg (hX.blk s H C cl fp)) (fun s H C cl fp => ?_) (fun s H C cl fp => WE.pe (hX.blk s H C cl fp)) (fold_no hfs X.env)
  match ifs, hf with
  | [], _ => exact pts_nil
  | [t], _ => exact pts_one (WT.pt (hX.blk s H C cl fp))
theorem eo_comp {elt tg it : Expr} {ifs : List Expr} {scope : Scope} (own : List (Str × Nat)) {items res : List D} (hN : η.N.Nodup) (hi : ID c η tg it ρ items) (h : CompD c (η.blk scope) tg elt ifs (own.map (·.2)) (wipeR ρ (own.map (·.2))) items res) (hl : items.length ≤ 100000) (hf : ifs.length ≤ 1 := by decide)
    (ok : blkC η.N η.sc scope own = true := by decide +kernel) (hfs : isSetD it = false := by rfl) : EO c η (.ListComp elt [⟨tg, it, ifs, 0⟩] scope pos) ρ (.lst res) := ⟨fun F0 H0 σ F H S Q q =>
  WE.of (fun X hX => pe_comp hX hN hf ok hfs) (comp_of hi h hf hl S q)⟩
theorem ps_comp {i : Nat} {y : Str} {py : Pos} {elt tg it : Expr} {ifs : List Expr} {scope : Scope} {own : List (Str × Nat)} {X : Cx} (hX : Cin c η X) (hN : η.N.Nodup) (hf : ifs.length ≤ 1) (ok : blkC η.N η.sc scope own = true) (hfs : isSetD it = false) (hy : η.N[i]? = some y) (hyl : η.sc.names.lookup y = some .local)
    (hsw : swapsWith (.ListComp elt [⟨tg, it, ifs, 0⟩] scope p) (some (.Name y py)) pos.line X.env = pure true) : PS X (.Assign [.Name y py] (.ListComp elt [⟨tg, it, ifs, 0⟩] scope p) pos) (tAsg (tComp c η (η.blk scope) tg it elt ifs (own.map (·.2))) (gName i)) := by
  refine ps_setLc hX.calm (by rw [hX.N]; exact hN) (by rw [hX.N]; exact hy) (by rw [hX.sc]; exact hyl) hsw (WI.pi hX) (by rw [hX.N, hX.sc]; exact blkOk_by ok) (fun s H C cl fp => WG.pg (hX.blk s H C cl fp)) (fun s H C cl fp => ?_) (fun s H C cl fp => WE.pe (hX.blk s H C cl fp)) (fold_no hfs X.env)
  match ifs, hf with
  | [], _ => exact pts_nil
  | [t], _ => exact pts_one (WT.pt (hX.blk s H C cl fp))
theorem asg_of {te : TE} {g : TG} {E : Ends} {σ : St} {H : Hp} (h : te σ H fun x H1 => g x σ H1 E.nx) : tAsg te g E σ H := h
theorem s1_setLc (i : Nat) {y : Str} {py : Pos} {elt tg it : Expr} {ifs : List Expr} {scope : Scope} (own : List (Str × Nat)) {items res : List D} (hN : η.N.Nodup) (hi : ID c η tg it ρ items) (h : CompD c (η.blk scope) tg elt ifs (own.map (·.2)) (wipeR ρ (own.map (·.2))) items res) (hl : items.length ≤ 100000) (hf : ifs.length ≤ 1 := by decide)
    (hy : η.N[i]? = some y := by rfl) (hyl : η.sc.names.lookup y = some .local := by decide +kernel) (hρ : i < ρ.length := by first | decide | (simp [rho]; done)) (ok : blkC η.N η.sc scope own = true := by decide +kernel) (hfs : isSetD it = false := by rfl)
    (hsw : ∀ X, Cin c η X → swapsWith (.ListComp elt [⟨tg, it, ifs, 0⟩] scope p) (some (.Name y py)) pos.line X.env = pure true) : S1 c η (.Assign [.Name y py] (.ListComp elt [⟨tg, it, ifs, 0⟩] scope p) pos) ρ (.nx (ρ.set i (.ow (.lst res)))) := ⟨fun F0 H0 σ F H S E q =>
  WS.of (t := tAsg (tComp c η (η.blk scope) tg it elt ifs (own.map (·.2))) (gName i)) (fun X hX => ps_comp hX hN hf ok hfs hy hyl (hsw X hX))
    (asg_of (comp_of (Q := fun x H1 => gName i x σ H1 E.nx) hi h hf hl S fun a F' H' g n n0 ob => q _ F' H' (S.set_ow g hρ n n0 ob)))⟩

theorem own_at {K : PySem.W.Frag} {F0 H0 F H : Hp} {σ : St} {i : Nat} (S : Stt K F0 H0 ρ σ F H) (hρ : ρ[i]? = some (.ow (.lst ds))) : ∃ A vs, σ[i]? = some (some (.ref A)) ∧ H A = some (.lst vs) ∧ RepL K F vs ds ∧ F A = none := by
  obtain ⟨A, h, n, n0, ob⟩ := S.sl i _ hρ
  rcases ob with ⟨vs, ds', e, e2, r⟩ | ⟨kvs, ks, e, e2, r⟩
  · cases e2
    exact ⟨A, vs, h, e, r, n⟩
  · cases e2
theorem pe_vi {X : Cx} {i : Nat} {x : Str} (hX : Cin c η X) (hN : η.N[i]? = some x) (hv : visB η.sc x = true) (hd : (x == ("__debug__" : Str)) = false) (hcd : (x == ("__classdict__" : Str)) = false) : PE X (.Name x p) (tVar i) := pe_var (by rw [hX.N]; exact hN) (by rw [hX.sc]; exact vis_of hv) hd hcd
theorem s1_app (i : Nat) {x : Str} {p2 : Pos} (hρ : ρ[i]? = some (.ow (.lst ds))) (he : ED c η e ρ d) (hz : ds.length < 100000)
    (hr : ∀ X to t, PE X (.Name x p) to → PA X [e] t → PE X (.Call (.Attribute (.Name x p) "append" apos) [e] [] pos) (tBM X.K "list" rAppend to t))
    (hN : η.N[i]? = some x := by rfl) (hv : visB η.sc x = true := by decide +kernel) (hd : (x == ("__debug__" : Str)) = false := by decide) (hcd : (x == ("__classdict__" : Str)) = false := by decide) (hst : isStar e = false := by rfl) :
    S1 c η (.Expr (.Call (.Attribute (.Name x p) "append" apos) [e] [] pos) p2) ρ (.nx (ρ.set i (.ow (.lst (ds ++ [d]))))) := ⟨fun F0 H0 σ F H S E q =>
  WS.of (t := tDrop (tBM c.K "list" rAppend (tVar i) (WA c η [e]))) (fun X hX => by rw [← hX.K]; exact ps_expr (hr X _ _ (pe_vi hX hN hv hd hcd) (WA.pa hX)) (swap_no rfl _ _ X.env)) (by
    obtain ⟨A, vs, h, hA, r, n⟩ := own_at S hρ
    refine ⟨_, h, .inl ⟨rfl, vs, SqL.of hA⟩, ?_⟩
    refine (ea_cons he ea_nil hst).run F0 H0 σ F H S _ fun ws F1 H1 g1 rw1 => ?_
    obtain ⟨v, rfl, r1⟩ := rw1.one
    refine ⟨A, vs, v, rfl, rfl, g1.h _ _ hA, by rw [r.length]; exact Nat.lt_of_lt_of_le hz (by decide), q σ F1 _ ((S.grow g1).mut hρ h (.inl ⟨_, _, rfl, rfl, (r.mono g1.f).append (.cons r1 .nil)⟩))⟩)⟩
theorem s1_setix (i : Nat) {x : Str} {p2 : Pos} {k : Expr} {j : Int} (hρ : ρ[i]? = some (.ow (.lst ds))) (he : ED c η e ρ d) (hk : ED c η k ρ (.int j)) (hj : 0 ≤ j ∧ j < (ds.length : Int))
    (hr : ∀ X to ti te, PE X (.Name x p) to → PE X k ti → PE X e te → PS X (.Assign [.Subscript (.Name x p) k p2] e pos) (tAsg te (gSub to ti rSetL)))
    (hN : η.N[i]? = some x := by rfl) (hv : visB η.sc x = true := by decide +kernel) (hd : (x == ("__debug__" : Str)) = false := by decide) (hcd : (x == ("__classdict__" : Str)) = false := by decide) :
    S1 c η (.Assign [.Subscript (.Name x p) k p2] e pos) ρ (.nx (ρ.set i (.ow (.lst (ds.set j.toNat d))))) := ⟨fun F0 H0 σ F H S E q =>
  WS.of (t := tAsg (WE c η e) (gSub (tVar i) (WE c η k) rSetL)) (fun X hX => hr X _ _ _ (pe_vi hX hN hv hd hcd) (WE.pe hX) (WE.pe hX)) (by
    obtain ⟨A, vs, h, hA, r, n⟩ := own_at S hρ
    refine he.run F0 H0 σ F H S _ fun v F1 H1 g1 r1 => ⟨_, h, hk.run F0 H0 σ F1 H1 (S.grow g1) _ fun w F2 H2 g2 r2 => ?_⟩
    cases r2
    have g := g1.trans g2
    refine ⟨A, vs, _, j.toNat, rfl, rfl, g.h _ _ hA, ?_, q σ F2 _ ((S.grow g).mut hρ h (.inl ⟨_, _, rfl, rfl, RepL.set (r1.mono g2.f) j.toNat (r.mono g.f)⟩))⟩
    unfold ixN
    rw [if_pos hj.1, if_pos (by rw [r.length]; exact hj.2)])⟩
def BodyD (c : Cc) (η : Nm) (st : Stmt) (ρ : Rho) (d : D) : Prop := SD c η [defBody st] ρ (.rt d) ∨ (d = .non ∧ ∃ ρ', SD c η [defBody st] ρ (.nx ρ'))
theorem rho_get {N : List Str} {i : Nat} {sl : Sl} (e : (rho N ds)[i]? = some sl) : (∃ d, ds[i]? = some d ∧ sl = .va d) ∨ sl = .no := by
  have e : (ds.map Sl.va ++ List.replicate (N.length - ds.length) Sl.no)[i]? = some sl := e
  by_cases hi : i < ds.length
  · rw [List.getElem?_append_left (by rw [List.length_map]; exact hi), List.getElem?_map] at e
    obtain ⟨d, hd⟩ : ∃ d, ds[i]? = some d := ⟨_, List.getElem?_eq_getElem hi⟩
    rw [hd] at e
    exact .inl ⟨d, hd, (Option.some.inj e).symm⟩
  · rw [List.getElem?_append_right (by rw [List.length_map]; omega)] at e
    have := List.mem_of_getElem? e
    rw [List.mem_replicate] at this
    exact .inr this.2
theorem stt_start {K : PySem.W.Frag} {F H : Hp} {vs : List V} {N : List Str} (s : Same F H) (r : RepL K F vs ds) : Stt K F H (rho N ds) (L2.start N vs) F H := by
  have len : (L2.start N vs).length = (rho N ds).length := by
    show _ = (ds.map Sl.va ++ List.replicate (N.length - ds.length) Sl.no).length
    unfold L2.start
    rw [List.length_append, List.length_append, List.length_map, List.length_map, List.length_replicate, List.length_replicate, r.length]
  refine ⟨.refl s, len, fun i sl e => ?_, fun i j d e a h1 h2 _ _ => ?_, WOk.nil, fun _ _ _ _ _ _ h => by cases h⟩
  · rcases rho_get e with ⟨d, hd, rfl⟩ | rfl
    · have hi : i < ds.length := (List.getElem?_eq_some_iff.mp hd).1
      unfold L2.start
      rw [List.getElem?_append_left (by rw [List.length_map, r.length]; exact hi), List.getElem?_map]
      obtain ⟨v, hv, rv⟩ := r.get hd
      rw [hv]
      exact ⟨v, rfl, rv⟩
    · exact trivial
  · rcases rho_get h1 with ⟨d, _, z⟩ | z <;> cases z
section
variable {P : Program} {w : World} {K : PySem.W.Frag} {mg : Str → Option Value} {base : Heap} {x : Str} {st : Stmt} {f : Addr} {fd : FuncData} {N ps : List Str} {k : Nat} {R : List D → D → Prop}
theorem fn_P (F : L2.Fun K x x st f fd) (S : FnScope N ps (defScope st)) (hl : ∀ ds d, R ds d → ds.length = ps.length) (hb : ∀ ds d, R ds d → BodyD ⟨P, w, K, mg, base, k⟩ ⟨N, defScope st, fun _ => true⟩ st (rho N ds) d) : FnOk P w K mg base CX0 (k + 1) f fd ps (spP K R) := by
  refine F.ok S (fun vs H Q E h => ?_) fun cdv A outer s H vs Q E hr h => ?_
  · obtain ⟨F, ds, d, s, r, hR, _⟩ := h
    rw [r.length]
    exact hl ds d hR
  · obtain ⟨F1, ds, d, s1, r, hR, q⟩ := h
    let X : Cx := (cxOf CX0 P w K mg base N x (defScope st) f cdv A outer s H E).nox
    have hX : Cin ⟨P, w, K, mg, base, k⟩ ⟨N, defScope st, fun _ => true⟩ X := ⟨rfl, rfl, rfl, rfl, rfl, rfl, rfl, hr, rfl, fun _ _ => rfl, PassesOwn.never⟩
    refine ⟨_, WB.pb hX, ?_⟩
    rcases hb ds d hR with h | ⟨e, ρ', h⟩
    · exact h.run F1 H _ F1 H (stt_start s1 r) ⟨fun _ H' => Q .non H', Q, fun _ _ => False, fun _ _ => False⟩ fun v F' H' g r' => q v F' H' g r'
    · subst e
      exact h.run F1 H _ F1 H (stt_start s1 r) ⟨fun _ H' => Q .non H', Q, fun _ _ => False, fun _ _ => False⟩ fun σ' F' H' S' => q .non F' H' S'.g .non
theorem fn_O (F : L2.Fun K x x st f fd) (S : FnScope N ps (defScope st)) (hl : ∀ ds d, R ds d → ds.length = ps.length) (hb : ∀ ds d, R ds d → SD ⟨P, w, K, mg, base, k⟩ ⟨N, defScope st, fun _ => true⟩ [defBody st] (rho N ds) (.ro d)) : FnOk P w K mg base CX0 (k + 1) f fd ps (spO K R) := by
  refine F.ok S (fun vs H Q E h => ?_) fun cdv A outer s H vs Q E hr h => ?_
  · obtain ⟨F, ds, d, s, r, hR, _⟩ := h
    rw [r.length]
    exact hl ds d hR
  · obtain ⟨F1, ds, d, s1, r, hR, q⟩ := h
    let X : Cx := (cxOf CX0 P w K mg base N x (defScope st) f cdv A outer s H E).nox
    have hX : Cin ⟨P, w, K, mg, base, k⟩ ⟨N, defScope st, fun _ => true⟩ X := ⟨rfl, rfl, rfl, rfl, rfl, rfl, rfl, hr, rfl, fun _ _ => rfl, PassesOwn.never⟩
    refine ⟨_, WB.pb hX, ?_⟩
    exact (hb ds d hR).run F1 H _ F1 H (stt_start s1 r) ⟨fun _ H' => Q .non H', Q, fun _ _ => False, fun _ _ => False⟩ fun a F' H' g n n0 ob => q a F' H' g n n0 ob
end
end DL

set_option Elab.async false
set_option linter.all false
set_option maxRecDepth 100000
set_option maxHeartbeats 4000000
namespace DL
open PySem L2
variable {c : Cc} {η : Nm} {ρ ρ1 ρ2 : Rho} {a b e o : Expr} {es : List Expr} {pos p apos : Pos} {d d1 d2 : D} {ds : List D} {out : Out}

class AllI (ds : List D) (ns : outParam (List Int)) : Prop where eq : ds = ns.map .int
class AllS (ds : List D) (xs : outParam (List Str)) : Prop where eq : ds = xs.map .str
class AllB (ds : List D) (xs : outParam (List Bool)) : Prop where eq : ds = xs.map .bl
class AllL (ds : List D) (xs : outParam (List (List D))) : Prop where eq : ds = xs.map .lst
class AllT (ds : List D) (xs : outParam (List (List D))) : Prop where eq : ds = xs.map .tup
instance : AllI [] [] := ⟨rfl⟩
instance {i : Int} {ds : List D} {ns : List Int} [h : AllI ds ns] : AllI (.int i :: ds) (i :: ns) := ⟨by rw [h.eq]; rfl⟩
instance {ns : List Int} : AllI (ns.map .int) ns := ⟨rfl⟩
instance : AllS [] [] := ⟨rfl⟩
instance {i : Str} {ds : List D} {ns : List Str} [h : AllS ds ns] : AllS (.str i :: ds) (i :: ns) := ⟨by rw [h.eq]; rfl⟩
instance {ns : List Str} : AllS (ns.map .str) ns := ⟨rfl⟩
instance : AllB [] [] := ⟨rfl⟩
instance {i : Bool} {ds : List D} {ns : List Bool} [h : AllB ds ns] : AllB (.bl i :: ds) (i :: ns) := ⟨by rw [h.eq]; rfl⟩
instance {ns : List Bool} : AllB (ns.map .bl) ns := ⟨rfl⟩
instance : AllL [] [] := ⟨rfl⟩
instance {i : List D} {ds : List D} {ns : List (List D)} [h : AllL ds ns] : AllL (.lst i :: ds) (i :: ns) := ⟨by rw [h.eq]; rfl⟩
instance {ns : List (List D)} : AllL (ns.map .lst) ns := ⟨rfl⟩
instance : AllT [] [] := ⟨rfl⟩
instance {i : List D} {ds : List D} {ns : List (List D)} [h : AllT ds ns] : AllT (.tup i :: ds) (i :: ns) := ⟨by rw [h.eq]; rfl⟩
instance {ns : List (List D)} : AllT (ns.map .tup) ns := ⟨rfl⟩
theorem atI_map {α : Type} (f : α → D) (xs : List α) (k : Int) (z : α) (h : 0 ≤ k ∧ k < (xs.length : Int)) : L2.atI (xs.map f) k = some (f (xs.getD k.toNat z)) := by
  obtain ⟨j, rfl⟩ := Int.eq_ofNat_of_zero_le h.1
  have hj : j < xs.length := by omega
  rw [Int.toNat_natCast]
  refine atI_nat ?_
  rw [List.getElem?_map, List.getElem?_eq_getElem hj, List.getD_eq_getElem?_getD, List.getElem?_eq_getElem hj]
  rfl
theorem atI_get' {α : Type} (xs : List α) (k : Int) (z : α) (h : 0 ≤ k ∧ k < (xs.length : Int)) : L2.atI xs k = some (xs.getD k.toNat z) := by
  obtain ⟨j, rfl⟩ := Int.eq_ofNat_of_zero_le h.1
  have hj : j < xs.length := by omega
  rw [Int.toNat_natCast]
  refine atI_nat ?_
  rw [List.getD_eq_getElem?_getD, List.getElem?_eq_getElem hj]
  rfl
section
variable {k : Int} (hs : isSlc b = false := by rfl)
theorem ed_ixi {ns : List Int} [q : AllI ds ns] (ha : ED c η a ρ (.lst ds)) (hb : ED c η b ρ (.int k)) (h : 0 ≤ k ∧ k < (ns.length : Int)) (hs : isSlc b = false := by rfl) : ED c η (.Subscript a b pos) ρ (.int (ns.getD k.toNat 0)) := ed_ixL (by rw [q.eq]; exact atI_map _ _ _ _ h) ha hb hs
theorem ed_ixs {ns : List Str} [q : AllS ds ns] (ha : ED c η a ρ (.lst ds)) (hb : ED c η b ρ (.int k)) (h : 0 ≤ k ∧ k < (ns.length : Int)) (hs : isSlc b = false := by rfl) : ED c η (.Subscript a b pos) ρ (.str (ns.getD k.toNat default)) := ed_ixL (by rw [q.eq]; exact atI_map _ _ _ _ h) ha hb hs
theorem ed_ixd (ha : ED c η a ρ (.lst ds)) (hb : ED c η b ρ (.int k)) (h : 0 ≤ k ∧ k < (ds.length : Int)) (hs : isSlc b = false := by rfl) : ED c η (.Subscript a b pos) ρ (ds.getD k.toNat .non) := ed_ixL (atI_get' _ _ _ h) ha hb hs
theorem ed_ixc {ns : List Int} (ha : ED c η a ρ (.scr ns)) (hb : ED c η b ρ (.int k)) (h : 0 ≤ k ∧ k < (ns.length : Int)) (hs : isSlc b = false := by rfl) : ED c η (.Subscript a b pos) ρ (.int (ns.getD k.toNat 0)) := ed_ixC (atI_get' _ _ _ h) ha hb hs
theorem ed_ixz {z : Str} (hz : z.length ≤ 100000) (ha : ED c η a ρ (.str z)) (hb : ED c η b ρ (.int k)) (h : 0 ≤ k ∧ k < (z.cps.toList.length : Int)) (hs : isSlc b = false := by rfl) : ED c η (.Subscript a b pos) ρ (.str ⟨#[z.cps.toList.getD k.toNat 0]⟩) := ed_ixS hz (atI_get' _ _ _ h) ha hb hs
end

def leL : List Sl → List Sl → Prop
  | [], [] => True
  | .no :: r, _ :: r' => leL r r'
  | s :: r, s' :: r' => s = s' ∧ leL r r'
  | _, _ => False
def leR (ρ ρ' : Rho) : Prop := ρ.w = ρ'.w ∧ leL ρ.s ρ'.s
theorem leL.refl : ∀ ρ : List Sl, leL ρ ρ
  | [] => trivial
  | .no :: r => leL.refl r
  | .va _ :: r => ⟨rfl, leL.refl r⟩
  | .ow _ :: r => ⟨rfl, leL.refl r⟩
theorem leR.refl (ρ : Rho) : leR ρ ρ := ⟨rfl, leL.refl _⟩
theorem leL.get : ∀ {ρ ρ' : List Sl} {i : Nat} {s : Sl}, leL ρ ρ' → ρ[i]? = some s → s = .no ∨ ρ'[i]? = some s
  | [], [], _, _, _, e => by simp at e
  | .no :: r, _ :: r', 0, s, _, e => .inl (by simpa using e.symm)
  | .va _ :: r, _ :: r', 0, s, h, e => by obtain ⟨rfl, _⟩ := h; exact .inr e
  | .ow _ :: r, _ :: r', 0, s, h, e => by obtain ⟨rfl, _⟩ := h; exact .inr e
  | .no :: r, _ :: r', i + 1, s, h, e => leL.get (ρ := r) (ρ' := r') (i := i) h (by simpa using e)
  | .va _ :: r, _ :: r', i + 1, s, h, e => leL.get (ρ := r) (ρ' := r') (i := i) h.2 (by simpa using e)
  | .ow _ :: r, _ :: r', i + 1, s, h, e => leL.get (ρ := r) (ρ' := r') (i := i) h.2 (by simpa using e)
theorem leL.len : ∀ {ρ ρ' : List Sl}, leL ρ ρ' → ρ.length = ρ'.length
  | [], [], _ => rfl
  | .no :: r, _ :: r', h => congrArg (· + 1) (leL.len (ρ := r) (ρ' := r') h)
  | .va _ :: r, _ :: r', h => congrArg (· + 1) (leL.len (ρ := r) (ρ' := r') h.2)
  | .ow _ :: r, _ :: r', h => congrArg (· + 1) (leL.len (ρ := r) (ρ' := r') h.2)
theorem leR.len {ρ ρ' : Rho} (h : leR ρ ρ') : ρ.length = ρ'.length := leL.len h.2
theorem Stt.weak {K : PySem.W.Frag} {F0 H0 F H : Hp} {σ : St} (S : Stt K F0 H0 ρ1 σ F H) (h : leR ρ ρ1) : Stt K F0 H0 ρ σ F H := S.less h.len (fun _ _ e => leL.get h.2 e) (by rw [h.1]; exact List.Sublist.refl _)
theorem sd_weak {bs : List (List Stmt)} (h : SD c η bs ρ (.nx ρ1)) (l : leR ρ2 ρ1) : SD c η bs ρ (.nx ρ2) := ⟨fun F0 H0 σ F H S E q => h.run F0 H0 σ F H S E fun σ' F' H' S' => q σ' F' H' (S'.weak l)⟩
theorem sd_endw (l : leR ρ1 ρ) : SD c η [] ρ (.nx ρ1) := sd_weak sd_end l
theorem sd_pre {bs : List (List Stmt)} (h : SD c η bs ρ1 out) (l : leR ρ1 ρ) : SD c η bs ρ out := ⟨fun F0 H0 σ F H S E q => h.run F0 H0 σ F H (S.weak l) E q⟩
theorem s1_weak {st : Stmt} (h : S1 c η st ρ (.nx ρ1)) (l : leR ρ2 ρ1) : S1 c η st ρ (.nx ρ2) := ⟨fun F0 H0 σ F H S E q => h.run F0 H0 σ F H S E fun σ' F' H' S' => q σ' F' H' (S'.weak l)⟩
theorem for_nx {tg : Expr} {body : List Stmt} (ρs : Nat → Rho) : ∀ (ds : List D) (k : Nat), (∀ i d, ds[i]? = some d → ∃ is ρ1, TD c η tg d is (ρs (k + i)) ρ1 ∧ SD c η [body] ρ1 (.nx (ρs (k + i + 1)))) → ForD c η tg body ds (ρs k) (.nx (ρs (k + ds.length)))
  | [], k, _ => .nil
  | d :: ds, k, h => by
    obtain ⟨is, ρ1, h1, h2⟩ := h 0 d rfl
    have ih := for_nx ρs ds (k + 1) fun i d' hd => by
      obtain ⟨is, ρ1, h1, h2⟩ := h (i + 1) d' (by simpa using hd)
      rw [show k + (i + 1) = k + 1 + i by omega] at h1 h2
      exact ⟨is, ρ1, h1, h2⟩
    rw [List.length_cons, show k + (ds.length + 1) = k + 1 + ds.length by omega]
    exact .nx h1 h2 ih
theorem s1_forN (j n : Nat) {x : Str} {it : Expr} {body : List Stmt} (ρs : Nat → Rho) (hi : ID c η (.Name x p) it ρ ds) (hlen' : ds.length = n) (hN : η.N.Nodup) (h0 : leR (ρs 0) ρ) (hlen : ∀ i, j < (ρs i).length) (h : ∀ i d, ds[i]? = some d → SD c η [body] ((ρs i).set j (.va d)) (.nx (ρs (i + 1))))
    (hj : η.N[j]? = some x := by rfl) (hx : stoB η x = true := by decide +kernel) (hf : isSetD it = false := by rfl) : S1 c η (.For (.Name x p) it body [] pos) ρ (.nx (ρs n)) := by
  subst hlen'
  -- the first turn from all that is known: known less
  have first : ∀ ds : List D, (∀ i d, ds[i]? = some d → SD c η [body] ((ρs i).set j (.va d)) (.nx (ρs (i + 1)))) → ForD c η (.Name x p) body ds ρ (.nx (ρs ds.length)) ∨ ds = [] := fun ds h => by
    cases ds with
    | nil => exact .inr rfl
    | cons d r =>
      left
      have hr := for_nx (c := c) (η := η) (tg := .Name x p) (body := body) ρs r 1 fun i d' hd => by
        have := h (i + 1) d' (by simpa using hd)
        rw [show i + 1 = 1 + i by omega] at this
        exact ⟨[j], _, td_name j hN hj hx (hlen _), this⟩
      rw [List.length_cons, show r.length + 1 = 1 + r.length by omega]
      have l0 : leR ((ρs 0).set j (.va d)) (ρ.set j (.va d)) := leR_set h0 j _
      exact .nx (td_name j hN hj hx (by rw [← h0.len]; exact hlen 0)) (sd_pre (h 0 d rfl) l0) hr
  rcases first ds h with h' | rfl
  · exact s1_for hi h' hf
  · exact s1_weak (s1_for hi .nil hf) h0
where
  leL_set {ρ ρ' : List Sl} (h : leL ρ ρ') (j : Nat) (s : Sl) : leL (ρ.set j s) (ρ'.set j s) := by
    induction ρ generalizing ρ' j with
    | nil =>
      cases ρ' with
      | nil => exact h
      | cons => exact h.elim
    | cons z r ih =>
      cases ρ' with
      | nil => cases z <;> exact (by simpa [leL] using h)
      | cons z' r' =>
        cases j with
        | zero => cases z <;> cases s <;> simp_all [leL]
        | succ j =>
          cases z with
          | no => exact ih (ρ' := r') h j
          | va d => exact ⟨h.1, ih (ρ' := r') h.2 j⟩
          | ow d => exact ⟨h.1, ih (ρ' := r') h.2 j⟩
  leR_set {ρ ρ' : Rho} (h : leR ρ ρ') (j : Nat) (s : Sl) : leR (ρ.set j s) (ρ'.set j s) := ⟨h.1, leL_set h.2 j s⟩
theorem comp_map {elt : Expr} {x : Str} (j : Nat) (f : D → D) (hN : η.N.Nodup) (hl : j < ρ.length) : ∀ (ds : List D), (∀ d ∈ ds, ED c η elt (ρ.set j (.va d)) (f d)) → (hi : η.N[j]? = some x := by rfl) → (hx : stoB η x = true := by decide +kernel) → CompD c η (.Name x pos) elt [] [j] ρ ds (ds.map f)
  | [], _, _, _ => .nil
  | d :: ds, h, hi, hx => .keep (td_name j hN hi hx hl) (fun i hi => hi) (fun t e => nomatch e) (h d List.mem_cons_self) (comp_map j f hN hl ds (fun d hd => h d (List.mem_cons_of_mem _ hd)) hi hx)
theorem comp_range {elt : Expr} {x : Str} (j : Nat) (f : Nat → D) {lo : Int} {n : Nat} (hN : η.N.Nodup) (hl : j < ρ.length := by first | decide | (simp [rho, wipeR]; done)) (h : ∀ k, k < n → ED c η elt (ρ.set j (.va (.int (lo + (k : Nat))))) (f k)) (hi : η.N[j]? = some x := by rfl) (hx : stoB η x = true := by decide +kernel) : CompD c η (.Name x pos) elt [] [j] ρ (rangeD lo n) ((List.range n).map f) := by
  have go : ∀ ks : List Nat, (∀ k ∈ ks, k < n) → CompD c η (.Name x pos) elt [] [j] ρ (ks.map fun i => D.int (lo + (i : Nat))) (ks.map f) := fun ks => by
    induction ks with
    | nil => intro _; exact .nil
    | cons k r ih => intro hk; exact .keep (td_name j hN hi hx hl) (fun i hi => hi) (fun t e => nomatch e) (h k (hk k List.mem_cons_self)) (ih fun k hk' => hk k (List.mem_cons_of_mem _ hk'))
  exact go _ fun k hk => List.mem_range.mp hk
theorem comp_signs {elt : Expr} {x : Str} {z : Str} (j : Nat) (f : Nat → D) (hN : η.N.Nodup) (hl : j < ρ.length := by first | decide | (simp [rho, wipeR]; done)) (h : ∀ n ∈ z.cps.toList, ED c η elt (ρ.set j (.va (.str ⟨#[n]⟩))) (f n)) (hi : η.N[j]? = some x := by rfl) (hx : stoB η x = true := by decide +kernel) : CompD c η (.Name x pos) elt [] [j] ρ (signs z) (z.cps.toList.map f) := by
  unfold signs
  generalize z.cps.toList = l at h
  induction l with
  | nil => exact .nil
  | cons k r ih => exact .keep (td_name j hN hi hx hl) (fun i hi => hi) (fun t e => nomatch e) (h k List.mem_cons_self) (ih fun k hk' => h k (List.mem_cons_of_mem _ hk'))
end DL

set_option Elab.async false
set_option linter.all false
set_option maxRecDepth 100000
set_option maxHeartbeats 4000000
namespace DL
open PySem L2
variable {c : Cc} {η : Nm} {ρ ρ1 ρ2 : Rho} {a b e o : Expr} {es : List Expr} {pos p apos : Pos} {d d1 d2 : D} {ds : List D} {out : Out}

theorem SD.isO {bs : List (List Stmt)} {d d' : D} (h : SD c η bs ρ (.ro d)) (e : d = d') : SD c η bs ρ (.ro d') := by rw [← e]; exact h
section
variable {elt : Expr} {x : Str} (j : Nat) (hN : η.N.Nodup)
theorem comp_rangeB (f : Nat → Bool) {lo : Int} {n : Nat} (hN : η.N.Nodup) (hl : j < ρ.length := by first | decide | (simp [rho, wipeR]; done)) (h : ∀ k, k < n → ED c η elt (ρ.set j (.va (.int (lo + (k : Nat))))) (.bl (f k))) (hi : η.N[j]? = some x := by rfl) (hx : stoB η x = true := by decide +kernel) : CompD c η (.Name x pos) elt [] [j] ρ (rangeD lo n) (((List.range n).map f).map .bl) := by rw [List.map_map]; exact comp_range j (fun k => .bl (f k)) hN hl h hi hx
theorem comp_rangeS (f : Nat → Str) {lo : Int} {n : Nat} (hN : η.N.Nodup) (hl : j < ρ.length := by first | decide | (simp [rho, wipeR]; done)) (h : ∀ k, k < n → ED c η elt (ρ.set j (.va (.int (lo + (k : Nat))))) (.str (f k))) (hi : η.N[j]? = some x := by rfl) (hx : stoB η x = true := by decide +kernel) : CompD c η (.Name x pos) elt [] [j] ρ (rangeD lo n) (((List.range n).map f).map .str) := by rw [List.map_map]; exact comp_range j (fun k => .str (f k)) hN hl h hi hx
theorem comp_signsB {z : Str} (f : Nat → Bool) (hN : η.N.Nodup) (hl : j < ρ.length := by first | decide | (simp [rho, wipeR]; done)) (h : ∀ n ∈ z.cps.toList, ED c η elt (ρ.set j (.va (.str ⟨#[n]⟩))) (.bl (f n))) (hi : η.N[j]? = some x := by rfl) (hx : stoB η x = true := by decide +kernel) : CompD c η (.Name x pos) elt [] [j] ρ (signs z) ((z.cps.toList.map f).map .bl) := by rw [List.map_map]; exact comp_signs j (fun k => .bl (f k)) hN hl h hi hx
end
mutual
def D.depth : D → Nat
  | .tup xs => D.depths xs + 1
  | .lst xs => D.depths xs + 1
  | .dic ks => D.depthk ks + 1
  | .scr _ => 1
  | _ => 0
def D.depths : List D → Nat
  | [] => 0
  | d :: r => max d.depth (D.depths r)
def D.depthk : List (Str × D) → Nat
  | [] => 0
  | (_, d) :: r => max d.depth (D.depthk r)
end
open PySem.W in
theorem all_true (n : Nat) : ((List.range n).all fun _ => true) = true := List.all_eq_true.mpr fun _ _ => rfl
section
variable {X : Cx} {pins : List (Addr × PySem.Obj)} {σ : L2.St} {H : Hp} {s : Shared}
def Alike (X : Cx) (s : Shared) (n : Nat) (us ws : List Value) : Prop := us.length = ws.length ∧ ∀ j (h1 : j < us.length) (h2 : j < ws.length), PySem.W.EqTree X.prog X.w s n us[j] ws[j] true
theorem Alike.cons {n : Nat} {u w : Value} {us ws : List Value} (h : PySem.W.EqTree X.prog X.w s n u w true) (t : Alike X s n us ws) : Alike X s n (u :: us) (w :: ws) :=
  ⟨congrArg (· + 1) t.1, fun j h1 h2 => by
    cases j with
    | zero => exact h
    | succ j => exact t.2 j (Nat.lt_of_succ_lt_succ h1) (Nat.lt_of_succ_lt_succ h2)⟩
theorem tree_lists {n : Nat} {a b : Addr} {us ws : List Value} (ha : s.heap.IsList a us.toArray) (hb : s.heap.IsList b ws.toArray) (t : Alike X s n us ws) : PySem.W.EqTree X.prog X.w s (n + 1) (.ref a) (.ref b) true := by
  by_cases e : a = b
  · subst e; exact .same
  · have q := PySem.W.EqTree.lists (prog := X.prog) (w := X.w) (s := s) (n := n) (e := fun _ => true) e ha hb (by simp [t.1]) fun j h1 h2 => by
      have := t.2 j (by simpa using h1) (by simpa using h2)
      simpa using this
    rwa [all_true] at q
theorem tree_tuples {n : Nat} {a b : Addr} {us ws : List Value} (ha : s.heap.IsTuple a us.toArray) (hb : s.heap.IsTuple b ws.toArray) (t : Alike X s n us ws) : PySem.W.EqTree X.prog X.w s (n + 1) (.ref a) (.ref b) true := by
  by_cases e : a = b
  · subst e; exact .same
  · have q := PySem.W.EqTree.tuples (prog := X.prog) (w := X.w) (s := s) (n := n) (e := fun _ => true) e ha hb fun j h1 h2 => by
      have := t.2 j (by simpa using h1) (by simpa using h2)
      simpa using this
    rw [all_true] at q
    have e2 : (true && us.toArray.size == ws.toArray.size) = true := by simp [t.1]
    rwa [e2] at q
theorem leaf_same {n : Nat} {v : V} {u w : Value} (r1 : RelV v u) (r2 : RelV v w) (f : flatV v = true) : PySem.W.EqTree X.prog X.w s n u w true := .leaf fun A _ => by
  have := eqAt_V (A := A) (s := s) r1 r2 f f
  have e : eqV v v = true := by cases v <;> first | rfl | exact absurd f (by decide) | (simp [eqV]; done) | (simp [flatV] at f)
  rwa [e] at this
def AlikeK (X : Cx) (s : Shared) (n : Nat) (us ws : List (Key × Value)) : Prop := us.length = ws.length ∧ ∀ j (h1 : j < us.length) (h2 : j < ws.length), us[j].1 = ws[j].1 ∧ PySem.W.EqTree X.prog X.w s n us[j].2 ws[j].2 true
theorem AlikeK.val {n : Nat} {us ws : List (Key × Value)} (t : AlikeK X s n us ws) (nd : (us.map (·.1)).Nodup) {k : Key} {v y : Value} (hm : (k, v) ∈ us) (hv : valueAt ws k = some y) : PySem.W.EqTree X.prog X.w s n v y true := by
  induction us generalizing ws with
  | nil => cases hm
  | cons p us ih =>
    cases ws with
    | nil => exact absurd t.1 (by simp)
    | cons q ws =>
      have h0 := t.2 0 (by simp) (by simp)
      have tt : AlikeK X s n us ws := ⟨by simpa using t.1, fun j h1 h2 => by
        have := t.2 (j + 1) (by simp; omega) (by simp; omega)
        simpa using this⟩
      rw [List.map_cons, List.nodup_cons] at nd
      have e0 : p.1 = q.1 := by simpa using h0.1
      have ee : PySem.W.EqTree X.prog X.w s n p.2 q.2 true := by simpa using h0.2
      by_cases e : q.1 = k
      · have hv' : valueAt (q :: ws) k = some q.2 := by simp [valueAt, List.find?_cons, e]
        rw [hv'] at hv
        cases hv
        rcases List.mem_cons.mp hm with z | z
        · rw [← z] at ee; exact ee
        · exfalso
          apply nd.1
          rw [e0, e]
          exact List.mem_map_of_mem (f := (·.1)) z
      · have hv' : valueAt (q :: ws) k = valueAt ws k := by simp [valueAt, List.find?_cons, e]
        rw [hv'] at hv
        rcases List.mem_cons.mp hm with z | z
        · exfalso
          apply e
          rw [← e0, ← z]
        · exact ih tt nd.2 z hv
theorem AlikeK.here {n : Nat} {us ws : List (Key × Value)} (t : AlikeK X s n us ws) : us.all (fun p => (valueAt ws p.1).isSome && true) = true := by
  rw [List.all_eq_true]
  intro p hp
  obtain ⟨j, hj, rfl⟩ := List.getElem_of_mem hp
  have h2 : j < ws.length := by rw [← t.1]; exact hj
  have := (t.2 j hj h2).1
  rw [Bool.and_true, this]
  have : ws[j] ∈ ws := List.getElem_mem h2
  unfold valueAt
  cases e : ws.find? fun kv => decide (kv.1 = ws[j].1) with
  | some y => rfl
  | none =>
    have := List.find?_eq_none.mp e ws[j] this
    simp at this
mutual
theorem eq_tree (I : Inv X pins σ H s) : ∀ (d : D) (n : Nat) (v1 v2 : V) (u1 u2 : Value), d.depth ≤ n → Rep X.K H v1 d → Rep X.K H v2 d → RelV v1 u1 → RelV v2 u2 → PySem.W.EqTree X.prog X.w s n u1 u2 true
  | .non, n, _, _, _, _, _, r1, r2, q1, q2 => by cases r1; cases r2; exact leaf_same q1 q2 rfl
  | .bl _, n, _, _, _, _, _, r1, r2, q1, q2 => by cases r1; cases r2; exact leaf_same q1 q2 rfl
  | .int _, n, _, _, _, _, _, r1, r2, q1, q2 => by cases r1; cases r2; exact leaf_same q1 q2 rfl
  | .str _, n, _, _, _, _, _, r1, r2, q1, q2 => by cases r1; cases r2; exact leaf_same q1 q2 rfl
  | .ty _, n, _, _, _, _, _, r1, r2, q1, q2 => by cases r1; cases r2; cases q1; cases q2; exact .same
  | .ref _, n, _, _, _, _, _, r1, r2, q1, q2 => by cases r1; cases r2; cases q1; cases q2; exact .same
  | .ins _ _ _ _, n, _, _, _, _, _, r1, r2, q1, q2 => by cases r1
  | .exc _ _ _, n, _, _, _, _, _, r1, r2, q1, q2 => by cases r1; cases r2; cases q1; cases q2; exact .same
  | .scr ns, n, _, _, _, _, hn, r1, r2, q1, q2 => by
    cases r1 with
    | scr h1 =>
      cases r2 with
      | scr h2 =>
        cases q1; cases q2
        obtain ⟨its1, rv1, p1, _⟩ := I.list h1
        obtain ⟨its2, rv2, p2, _⟩ := I.list h2
        match n, hn with
        | n + 1, _ =>
          refine tree_lists p1.isList p2.isList ⟨by rw [← rv1.length, ← rv2.length], fun j j1 j2 => ?_⟩
          have hj : j < (ns.map V.int).length := by rw [rv1.length]; exact j1
          obtain ⟨x1, e1, g1⟩ := rv1.get (List.getElem?_eq_getElem hj)
          obtain ⟨x2, e2, g2⟩ := rv2.get (List.getElem?_eq_getElem hj)
          rw [List.getElem?_eq_getElem j1] at e1
          rw [List.getElem?_eq_getElem j2] at e2
          cases e1
          cases e2
          exact leaf_same g1 g2 (by simp [flatV])
        | 0, hn => simp [D.depth] at hn
  | .tup xs, n, _, _, _, _, hn, r1, r2, q1, q2 => by
    cases r1 with
    | tup h1 l1 =>
      cases r2 with
      | tup h2 l2 =>
        cases q1; cases q2
        obtain ⟨its1, rv1, p1, _⟩ := I.tuple h1
        obtain ⟨its2, rv2, p2, _⟩ := I.tuple h2
        rw [D.depth] at hn
        match n, hn with
        | n + 1, hn => exact tree_tuples (show s.heap.IsTuple _ its1.toArray from p1) (show s.heap.IsTuple _ its2.toArray from p2) (eq_trees I xs n _ _ its1 its2 (by omega) l1 l2 rv1 rv2)
        | 0, hn => omega
  | .lst xs, n, _, _, _, _, hn, r1, r2, q1, q2 => by
    cases r1 with
    | lst h1 l1 =>
      cases r2 with
      | lst h2 l2 =>
        cases q1; cases q2
        obtain ⟨its1, rv1, p1, _⟩ := I.list (SqL.of h1)
        obtain ⟨its2, rv2, p2, _⟩ := I.list (SqL.of h2)
        rw [D.depth] at hn
        match n, hn with
        | n + 1, hn => exact tree_lists p1.isList p2.isList (eq_trees I xs n _ _ its1 its2 (by omega) l1 l2 rv1 rv2)
        | 0, hn => omega
  | .dic ks, n, _, _, _, _, hn, r1, r2, q1, q2 => by
    cases r1 with
    | @dic a _ _ h1 l1 =>
      cases r2 with
      | @dic b _ _ h2 l2 =>
        cases q1; cases q2
        obtain ⟨_, y1, vs1, g1, d1⟩ := dk_rd I.hok h1
        obtain ⟨_, y2, vs2, g2, d2⟩ := dk_rd I.hok h2
        rw [D.depth] at hn
        match n, hn with
        | n + 1, hn =>
          by_cases e : a = b
          · subst e; exact .same
          · have t := eq_treek I ks n _ _ vs1 vs2 (by omega) l1 l2 g1 g2
            have nd : (vs1.map (·.1)).Nodup := let ⟨_, _, _, _, _, _, _, _, nd⟩ := d1; nd
            have q := PySem.W.EqTree.dicts (prog := X.prog) (w := X.w) (s := s) (n := n) (e := fun _ => true) e y1 y2 d1 d2 fun k v y hm hv => t.val nd hm hv
            have e2 : (vs1.length == vs2.length && vs1.all fun p => (valueAt vs2 p.1).isSome && true) = true := by rw [t.here]; simp [t.1]
            rwa [e2] at q
        | 0, hn => omega
theorem eq_trees (I : Inv X pins σ H s) : ∀ (xs : List D) (n : Nat) (vs1 vs2 : List V) (us1 us2 : List Value), D.depths xs ≤ n → RepL X.K H vs1 xs → RepL X.K H vs2 xs → Vals vs1 us1 → Vals vs2 us2 → Alike X s n us1 us2
  | [], n, _, _, _, _, _, .nil, .nil, .nil, .nil => ⟨rfl, fun j h1 => absurd h1 (by simp)⟩
  | d :: r, n, _, _, _, _, hn, .cons h1 t1, .cons h2 t2, .cons q1 w1, .cons q2 w2 => by
    rw [D.depths] at hn
    exact .cons (eq_tree I d n _ _ _ _ (by omega) h1 h2 q1 q2) (eq_trees I r n _ _ _ _ (by omega) t1 t2 w1 w2)
theorem eq_treek (I : Inv X pins σ H s) : ∀ (ks : List (Str × D)) (n : Nat) (vs1 vs2 : List (Key × V)) (us1 us2 : List (Key × Value)), D.depthk ks ≤ n → RepK X.K H vs1 ks → RepK X.K H vs2 ks → KV vs1 us1 → KV vs2 us2 → AlikeK X s n us1 us2
  | [], n, _, _, _, _, _, .nil, .nil, .nil, .nil => ⟨rfl, fun j h1 => absurd h1 (by simp)⟩
  | (x, d) :: r, n, _, _, _, _, hn, .cons h1 t1, .cons h2 t2, .cons q1 w1, .cons q2 w2 => by
    rw [D.depthk] at hn
    have h := eq_tree I d n _ _ _ _ (by omega) h1 h2 q1.2 q2.2
    have t := eq_treek I r n _ _ _ _ (by omega) t1 t2 w1 w2
    refine ⟨congrArg (· + 1) t.1, fun j j1 j2 => ?_⟩
    cases j with
    | zero => exact ⟨q1.1.symm.trans q2.1, h⟩
    | succ j => exact t.2 j (Nat.lt_of_succ_lt_succ j1) (Nat.lt_of_succ_lt_succ j2)
end
def D.box : D → Bool
  | .tup _ => true | .lst _ => true | .dic _ => true
  | _ => false
def rSame (K : PySem.W.Frag) : R2 := fun x y H Q => ∃ d : D, d.box = true ∧ d.depth ≤ 60 ∧ Rep K H x d ∧ Rep K H y d ∧ Q (.bl true) H
theorem op_same (hu : X.A.units + 64 < cLine) : OpR X (compareOp .Eq) (rSame X.K) := by
  intro pins s σ H x y v u Q I rx ry h
  obtain ⟨d, hb, hd, r1, r2, q⟩ := h
  have fin : EP X pins σ Q (.bool true) s := ⟨.bl true, H, I, rfl, q⟩
  cases r1 with
  | @lst a _ xs h1 l1 =>
    cases r2 with
    | @lst b _ _ h2 l2 =>
      cases rx; cases ry
      obtain ⟨its1, rv1, p1, _⟩ := I.list (SqL.of h1)
      obtain ⟨its2, rv2, p2, _⟩ := I.list (SqL.of h2)
      rw [D.depth] at hd
      have t := eq_trees I xs 59 _ _ its1 its2 (by omega) l1 l2 rv1 rv2
      refine PySem.W.eq_listsT (n := 59) (e := fun _ => true) p1.isList p2.isList (by simp [t.1]) (fun j h1 h2 => ?_) (by omega) (by rw [all_true]; exact fin)
      have := t.2 j (by simpa using h1) (by simpa using h2)
      simpa using this
  | @tup a _ xs h1 l1 =>
    cases r2 with
    | @tup b _ _ h2 l2 =>
      cases rx; cases ry
      obtain ⟨its1, rv1, p1, _⟩ := I.tuple h1
      obtain ⟨its2, rv2, p2, _⟩ := I.tuple h2
      rw [D.depth] at hd
      have t := eq_trees I xs 59 _ _ its1 its2 (by omega) l1 l2 rv1 rv2
      refine PySem.W.eq_tuplesT (n := 59) (e := fun _ => true) (show s.heap.IsTuple _ its1.toArray from p1) (show s.heap.IsTuple _ its2.toArray from p2) (fun j h1 h2 => ?_) (by omega) ?_
      · have := t.2 j (by simpa using h1) (by simpa using h2)
        simpa using this
      · rw [all_true]
        have e2 : (true && its1.toArray.size == its2.toArray.size) = true := by simp [t.1]
        rw [e2]
        exact fin
  | @dic a _ ks h1 l1 =>
    cases r2 with
    | @dic b _ _ h2 l2 =>
      cases rx; cases ry
      obtain ⟨_, y1, vs1, g1, d1⟩ := dk_rd I.hok h1
      obtain ⟨_, y2, vs2, g2, d2⟩ := dk_rd I.hok h2
      rw [D.depth] at hd
      have t := eq_treek I ks 59 _ _ vs1 vs2 (by omega) l1 l2 g1 g2
      have nd : (vs1.map (·.1)).Nodup := let ⟨_, _, _, _, _, _, _, _, nd⟩ := d1; nd
      refine PySem.W.eq_dictsT (n := 59) (e := fun _ => true) y1 y2 d1 d2 (fun k v y hm hv => t.val nd hm hv) (by omega) ?_
      have e2 : (vs1.length == vs2.length && vs1.all fun p => (valueAt vs2 p.1).isSome && true) = true := by rw [t.here]; simp [t.1]
      rw [e2]
      exact fin
  | _ => exact absurd hb (by simp [D.box])
end
theorem rd_same {K : PySem.W.Frag} (hb : d.box = true) (hd : d.depth ≤ 60) : RD K (rSame K) d d (.bl true) := fun F H v1 v2 s r1 r2 Q q => ⟨d, hb, hd, r1.mono s, r2.mono s, q _ F H (.refl s) (.bl _)⟩
theorem ed_same (hd : d1 = d2) (hb : d1.box = true) (hn : d1.depth ≤ 60) (ha : ED c η a ρ d1) (hc : ED c η b ρ d2) : ED c η (.Compare a [.Eq] [b] pos) ρ (.bl true) := by
  subst hd
  exact ed_cmp (fun X hX => hX.K ▸ op_same hX.room.units) (rd_same hb hn) (nomark _) ha hc
theorem et_borrow (i : Nat) {t : Expr} {k : Bool} (e : ρ[i]? = some (.ow d)) (h : ET c η t (ρ.set i (.va d)) k) : ET c η t ρ k := ⟨fun F0 H0 σ F H S Q q => by
  obtain ⟨F', _, S'⟩ := S.freeze e
  exact h.run F0 H0 σ F' H S' Q fun F2 H2 g2 => q F H2 (Grow.shrink (F' := F) S.fh g2.h)⟩
theorem flatS {ds : List D} {xs : List Str} [h : AllS ds xs] : ds.all D.flat = true := by
  rw [h.eq, List.all_map, List.all_eq_true]
  intro _ _
  rfl
theorem tn_NoneType : ("NoneType" : String) ≠ "type" := by decide
theorem kit_NoneType_bool : kitB "NoneType" "bool" = some false := by decide +kernel
theorem kit_NoneType_int : kitB "NoneType" "int" = some false := by decide +kernel
theorem kit_NoneType_str : kitB "NoneType" "str" = some false := by decide +kernel
theorem kit_NoneType_tuple : kitB "NoneType" "tuple" = some false := by decide +kernel
theorem kit_NoneType_list : kitB "NoneType" "list" = some false := by decide +kernel
theorem tn_bool : ("bool" : String) ≠ "type" := by decide
theorem kit_bool_bool : kitB "bool" "bool" = some true := by decide +kernel
theorem kit_bool_int : kitB "bool" "int" = some true := by decide +kernel
theorem kit_bool_str : kitB "bool" "str" = some false := by decide +kernel
theorem kit_bool_tuple : kitB "bool" "tuple" = some false := by decide +kernel
theorem kit_bool_list : kitB "bool" "list" = some false := by decide +kernel
theorem tn_int : ("int" : String) ≠ "type" := by decide
theorem kit_int_bool : kitB "int" "bool" = some false := by decide +kernel
theorem kit_int_int : kitB "int" "int" = some true := by decide +kernel
theorem kit_int_str : kitB "int" "str" = some false := by decide +kernel
theorem kit_int_tuple : kitB "int" "tuple" = some false := by decide +kernel
theorem kit_int_list : kitB "int" "list" = some false := by decide +kernel
theorem tn_str : ("str" : String) ≠ "type" := by decide
theorem kit_str_bool : kitB "str" "bool" = some false := by decide +kernel
theorem kit_str_int : kitB "str" "int" = some false := by decide +kernel
theorem kit_str_str : kitB "str" "str" = some true := by decide +kernel
theorem kit_str_tuple : kitB "str" "tuple" = some false := by decide +kernel
theorem kit_str_list : kitB "str" "list" = some false := by decide +kernel
theorem tn_tuple : ("tuple" : String) ≠ "type" := by decide
theorem kit_tuple_bool : kitB "tuple" "bool" = some false := by decide +kernel
theorem kit_tuple_int : kitB "tuple" "int" = some false := by decide +kernel
theorem kit_tuple_str : kitB "tuple" "str" = some false := by decide +kernel
theorem kit_tuple_tuple : kitB "tuple" "tuple" = some true := by decide +kernel
theorem kit_tuple_list : kitB "tuple" "list" = some false := by decide +kernel
theorem kit_tuple_dict : kitB "tuple" "dict" = some false := by decide +kernel
theorem tn_list : ("list" : String) ≠ "type" := by decide
theorem kit_list_bool : kitB "list" "bool" = some false := by decide +kernel
theorem kit_list_int : kitB "list" "int" = some false := by decide +kernel
theorem kit_list_str : kitB "list" "str" = some false := by decide +kernel
theorem kit_list_tuple : kitB "list" "tuple" = some false := by decide +kernel
theorem kit_list_list : kitB "list" "list" = some true := by decide +kernel
theorem kit_list_dict : kitB "list" "dict" = some false := by decide +kernel
theorem tn_dict : ("dict" : String) ≠ "type" := by decide
theorem kit_dict_bool : kitB "dict" "bool" = some false := by decide +kernel
theorem kit_dict_int : kitB "dict" "int" = some false := by decide +kernel
theorem kit_dict_str : kitB "dict" "str" = some false := by decide +kernel
theorem kit_dict_tuple : kitB "dict" "tuple" = some false := by decide +kernel
theorem kit_dict_list : kitB "dict" "list" = some false := by decide +kernel
theorem kit_dict_dict : kitB "dict" "dict" = some true := by decide +kernel
theorem Call.at {c : Cc} {j : Nat} {x : Str} {sp : Sp} (h : Call c j x sp) (k : Nat) : Call ⟨c.P, c.w, c.K, c.mg, c.base, k⟩ j x sp := ⟨h.ex⟩
class Sz (z : Str) (n : outParam Nat) : Prop where le : z.length ≤ n
theorem sz_one {x : Str} {n : Nat} [h : Sz x n] (hn : n ≤ 100000 := by decide +kernel) : x.length ≤ 100000 := Nat.le_trans h.le hn
theorem sz_add {x y : Str} {n m : Nat} [h : Sz x n] [h2 : Sz y m] (hn : n + m ≤ 100000 := by decide +kernel) : x.length + y.length ≤ 100000 := Nat.le_trans (Nat.add_le_add h.le h2.le) hn
instance {s : String} : Sz (Str.ofString s) (Str.ofString s).length := ⟨Nat.le_refl _⟩
instance {a : Nat} : Sz ⟨#[a]⟩ 1 := ⟨Nat.le_refl _⟩
theorem len_append (x y : Str) : (x ++ y).length = x.length + y.length := by
  show (x.cps ++ y.cps).size = x.cps.size + y.cps.size
  exact Array.size_append
instance {x y : Str} {n m : Nat} [h : Sz x n] [h2 : Sz y m] : Sz (x ++ y) (n + m) := ⟨by rw [len_append]; exact Nat.add_le_add h.le h2.le⟩
instance {x : Str} {n : Nat} {lo hi : Option Int} [h : Sz x n] : Sz (cutS x lo hi) n := ⟨Nat.le_trans (cutS_length _ _ _) h.le⟩
theorem digit_text : ∀ i : Nat, i < 10 → (Str.ofString (toString (i : Int))).length = 1 := by decide +kernel
instance {i : Int} : Sz (Str.ofString (toString (i % 10))) 1 := ⟨by
  have h1 : 0 ≤ i % 10 := Int.emod_nonneg _ (by decide)
  have h2 : i % 10 < 10 := Int.emod_lt_of_pos _ (by decide)
  obtain ⟨j, hj⟩ := Int.eq_ofNat_of_zero_le h1
  rw [hj, digit_text j (by omega)]
  exact Nat.le_refl _⟩
theorem log_small {i : Int} (h : i.natAbs < 2 ^ 64) : i.natAbs.log2 < 1920 := by
  by_cases h0 : i.natAbs = 0
  · rw [h0]; decide
  · exact Nat.lt_of_lt_of_le ((Nat.log2_lt h0).mpr h) (by decide)
end DL

set_option Elab.async false
set_option linter.all false
set_option maxRecDepth 100000
set_option maxHeartbeats 4000000
namespace DL
open PySem L2
section
open PySem.Builtin
end
end DL

set_option Elab.async false
set_option linter.all false
set_option maxRecDepth 100000
set_option maxHeartbeats 4000000
namespace DL
open PySem L2
variable {c : Cc} {η : Nm} {ρ ρ1 ρ2 : Rho} {a b e o : Expr} {es : List Expr} {pos p apos : Pos} {d d1 d2 : D} {ds : List D} {out : Out} {st : Stmt} {rest : List Stmt} {bs : List (List Stmt)}

def Rho.putW (ρ : Rho) (i : Nat) (a : Addr) (d : D) : Rho := ⟨ρ.s, ρ.w.set i (a, d)⟩
def Rho.addW (ρ : Rho) (a : Addr) (d : D) : Rho := ⟨ρ.s, ρ.w ++ [(a, d)]⟩
section
variable {K : PySem.W.Frag} {F0 H0 F H F' H' : Hp} {σ : St}
theorem Stt.at (S : Stt K F0 H0 ρ σ F H) {i : Nat} {a : Addr} {d : D} (h : ρ.w[i]? = some (a, d)) : F a = none ∧ H0 a = none ∧ ObjW K F (H a) d := S.w.ob a d (List.mem_of_getElem? h)
theorem set_mem {w : List (Addr × D)} (nd : (w.map (·.1)).Nodup) {i : Nat} {a b : Addr} {d d' e : D} (h : w[i]? = some (a, d)) (m : (b, e) ∈ w.set i (a, d')) : (b = a ∧ e = d') ∨ (b ≠ a ∧ (b, e) ∈ w) := by
  obtain ⟨j, hj⟩ := List.mem_iff_getElem?.mp m
  have hi : i < w.length := (List.getElem?_eq_some_iff.mp h).1
  by_cases z : i = j
  · subst z
    rw [List.getElem?_set_self hi] at hj
    cases hj
    exact .inl ⟨rfl, rfl⟩
  · rw [List.getElem?_set_ne z] at hj
    refine .inr ⟨fun q => ?_, List.mem_of_getElem? hj⟩
    subst q
    have e1 : (w.map (·.1))[i]? = some b := by rw [List.getElem?_map, h]; rfl
    have e2 : (w.map (·.1))[j]? = some b := by rw [List.getElem?_map, hj]; rfl
    exact z ((List.getElem?_inj (by rw [List.length_map]; exact hi) nd).mp (e1.trans e2.symm))
theorem map_set {w : List (Addr × D)} {i : Nat} {a : Addr} {d d' : D} (h : w[i]? = some (a, d)) : (w.set i (a, d')).map (·.1) = w.map (·.1) := by
  rw [List.map_set]
  refine List.ext_getElem? fun j => ?_
  have hi : i < (w.map (·.1)).length := by rw [List.length_map]; exact (List.getElem?_eq_some_iff.mp h).1
  by_cases z : i = j
  · subst z
    rw [List.getElem?_set_self hi, List.getElem?_map, h]
    rfl
  · rw [List.getElem?_set_ne z]
theorem Stt.mutW (S : Stt K F0 H0 ρ σ F H) {i : Nat} {a : Addr} {d d' : D} {u : HO} (h : ρ.w[i]? = some (a, d)) (ob : ObjW K F (some u) d') : Stt K F0 H0 (ρ.putW i a d') σ F (upd H a u) := by
  obtain ⟨n, n0, _⟩ := S.at h
  have hm : (a, d) ∈ ρ.w := List.mem_of_getElem? h
  refine ⟨⟨S.g.f, fun b x z => ?_, same_mut S.fh n, S.g.sep⟩, S.len, fun j s e1 => ?_, S.ne, ⟨fun b e hb => ?_, by rw [show (ρ.putW i a d').w = ρ.w.set i (a, d') from rfl, map_set h]; exact S.w.nd⟩, fun j e b e1 e2 x hx => ?_⟩
  · rw [upd_ne (ne_of_none z n0)]
    exact S.g.h b x z
  · have q := S.sl j s e1
    cases s with
    | no => exact trivial
    | va d => exact q
    | ow d2 =>
      obtain ⟨b, h1, h2, h3, h4⟩ := q
      have hne : b ≠ a := fun z => by subst z; exact S.ws j d2 b e1 h1 d hm
      exact ⟨b, h1, h2, h3, by rw [upd_ne hne]; exact h4⟩
  · rcases set_mem S.w.nd h hb with ⟨rfl, rfl⟩ | ⟨hne, hb⟩
    · exact ⟨n, n0, by rw [upd_same]; exact ob⟩
    · obtain ⟨h2, h3, h4⟩ := S.w.ob b e hb
      exact ⟨h2, h3, by rw [upd_ne hne]; exact h4⟩
  · rcases set_mem S.w.nd h hx with ⟨rfl, rfl⟩ | ⟨_, hx⟩
    · exact S.ws j e b e1 e2 d hm
    · exact S.ws j e b e1 e2 x hx
theorem Stt.newW (S : Stt K F0 H0 ρ σ F H) {a : Addr} {d : D} (g : Grow F H F' H') (n : F' a = none) (n0 : H a = none) (ob : ObjW K F' (H' a) d) : Stt K F0 H0 (ρ.addW a d) σ F' H' := by
  have S' := S.grow g
  have hn : ∀ e, (a, e) ∉ ρ.w := fun e h => by
    obtain ⟨_, _, o⟩ := S.w.ob a e h
    obtain ⟨u, hu⟩ := o.some
    rw [n0] at hu; cases hu
  refine ⟨S'.g, S'.len, S'.sl, S'.ne, ⟨fun b e hb => ?_, ?_⟩, fun j e b e1 e2 x hx => ?_⟩
  · rcases List.mem_append.mp hb with hb | hb
    · exact S'.w.ob b e hb
    · rw [List.mem_singleton] at hb
      cases hb
      exact ⟨n, S.g.h.free n0, ob⟩
  · show ((ρ.w ++ [(a, d)]).map (·.1)).Nodup
    rw [List.map_append, List.nodup_append]
    refine ⟨S.w.nd, by simp, fun x hx y hy => ?_⟩
    rw [List.map_cons, List.map_nil, List.mem_singleton] at hy
    subst hy
    rw [List.mem_map] at hx
    obtain ⟨⟨q, r⟩, hq, rfl⟩ := hx
    intro z
    exact hn r (z ▸ hq)
  · rcases List.mem_append.mp hx with hx | hx
    · exact S.ws j e b e1 e2 x hx
    · rw [List.mem_singleton] at hx
      cases hx
      obtain ⟨⟨u, hu⟩, _⟩ := S.own_there e1 e2
      rw [n0] at hu; cases hu
theorem Stt.toW (S : Stt K F0 H0 ρ σ F H) {i : Nat} {d : D} (e : ρ[i]? = some (.ow d)) : ∃ a : Addr, Stt K F0 H0 ((ρ.set i (.va (.ref a))).addW a d) σ F H := by
  obtain ⟨a, h, n, n0, ob⟩ := S.sl i _ e
  have hi := Rho.lt_of e
  have own : ∀ (j : Nat) (d' : D), (ρ.set i (.va (.ref a)))[j]? = some (.ow d') → i ≠ j ∧ ρ[j]? = some (.ow d') := fun j d' e1 => by
    have hj : i ≠ j := fun z => by subst z; rw [Rho.get_set_self hi] at e1; cases e1
    rw [Rho.get_set_ne hj] at e1
    exact ⟨hj, e1⟩
  refine ⟨a, S.g, by show σ.length = (ρ.set i (.va (.ref a))).length; rw [Rho.len_set, S.len], fun j s e1 => ?_, fun j k d1 d2 b e1 e2 e3 e4 => S.ne j k d1 d2 b (own j d1 e1).2 (own k d2 e2).2 e3 e4, ⟨fun b e hb => ?_, ?_⟩, fun j e' b e1 e2 x hx => ?_⟩
  · have e1 : (ρ.set i (.va (.ref a)))[j]? = some s := e1
    by_cases hj : i = j
    · subst hj
      rw [Rho.get_set_self hi] at e1
      cases e1
      exact ⟨_, h, .ref a⟩
    · rw [Rho.get_set_ne hj] at e1
      exact S.sl j s e1
  · rcases List.mem_append.mp hb with hb | hb
    · exact S.w.ob b e hb
    · rw [List.mem_singleton] at hb
      cases hb
      exact ⟨n, n0, .inl ob⟩
  · show ((ρ.w ++ [(a, d)]).map (·.1)).Nodup
    rw [List.map_append, List.nodup_append]
    refine ⟨S.w.nd, by simp, fun x hx y hy => ?_⟩
    rw [List.map_cons, List.map_nil, List.mem_singleton] at hy
    subst hy
    rw [List.mem_map] at hx
    obtain ⟨⟨q, r⟩, hq, rfl⟩ := hx
    intro z
    exact S.ws i d y e h r (z ▸ hq)
  · obtain ⟨hj, e1⟩ := own j e' e1
    rcases List.mem_append.mp hx with hx | hx
    · exact S.ws j e' b e1 e2 x hx
    · rw [List.mem_singleton] at hx
      cases hx
      exact hj (S.ne i j d e' a e e1 h e2)
theorem sd_toW (i : Nat) (e : ρ[i]? = some (.ow d)) (h : ∀ a, SD c η bs ((ρ.set i (.va (.ref a))).addW a d) out) : SD c η bs ρ out := ⟨fun F0 H0 σ F H S E q => by
  obtain ⟨a, S'⟩ := S.toW e
  exact (h a).run F0 H0 σ F H S' E q⟩
end
theorem sd_consE {P : Rho → Prop} (h : S1 c η st ρ (.ex P)) (hr : ∀ ρ1, P ρ1 → SD c η (rest :: bs) ρ1 out) : SD c η ((st :: rest) :: bs) ρ out := ⟨fun F0 H0 σ F H S E q =>
  WQ.cons (h.run F0 H0 σ F H S _ fun ρ' σ' F' H' hp S' => (hr ρ' hp).run F0 H0 σ' F' H' S' E q)⟩
theorem sd_endE {P : Rho → Prop} (h : P ρ) : SD c η [] ρ (.ex P) := ⟨fun F0 H0 σ F H S E q => q ρ σ F H h S⟩
theorem sd_mono {P P' : Rho → Prop} (h : SD c η bs ρ (.ex P)) (i : ∀ ρ', P ρ' → P' ρ') : SD c η bs ρ (.ex P') := ⟨fun F0 H0 σ F H S E q => h.run F0 H0 σ F H S E fun ρ' σ' F' H' hp => q ρ' σ' F' H' (i ρ' hp)⟩
theorem sd_rw {P : D → List (Addr × D) → Prop} (h : S1 c η st ρ (.rw P)) : SD c η ((st :: rest) :: bs) ρ (.rw P) := ⟨fun F0 H0 σ F H S E q => WQ.cons (h.run F0 H0 σ F H S _ q)⟩
structure EE (c : Cc) (η : Nm) (e : Expr) (ρ : Rho) (P : D → Rho → Prop) : Prop where
  run : ∀ F0 H0 σ F H, Stt c.K F0 H0 ρ σ F H → ∀ Q : VK, (∀ v d ρ' F' H', P d ρ' → Stt c.K F0 H0 ρ' σ F' H' → Rep c.K F' v d → Q v H') → WE c η e σ H Q
theorem ee_of (h : ED c η e ρ d) : EE c η e ρ (fun d' ρ' => d' = d ∧ ρ' = ρ) := ⟨fun F0 H0 σ F H S Q q => h.run F0 H0 σ F H S Q fun v F' H' g r => q v d ρ F' H' ⟨rfl, rfl⟩ (S.grow g) r⟩
theorem ee_new (h : EO c η e ρ d) : EE c η e ρ (fun d' ρ' => ∃ a, d' = .ref a ∧ ρ' = ρ.addW a d) := ⟨fun F0 H0 σ F H S Q q => h.run F0 H0 σ F H S Q fun a F' H' g n n0 ob => q _ _ _ F' H' ⟨a, rfl, rfl⟩ (S.newW g n n0 (.inl ob)) (.ref a)⟩
theorem s1_exprE {P : D → Rho → Prop} (he : EE c η e ρ P) (hs : isCmp e = false := by rfl) : S1 c η (.Expr e pos) ρ (.ex fun ρ' => ∃ d, P d ρ') := ⟨fun F0 H0 σ F H S E q =>
  WS.of (fun X hX => ps_expr (WE.pe hX) (swap_no hs _ _ X.env)) (he.run F0 H0 σ F H S _ fun v d ρ' F' H' hp S' _ => q ρ' σ F' H' ⟨d, hp⟩ S')⟩
theorem s1_setE (i : Nat) {x : Str} {P : D → Rho → Prop} (he : EE c η e ρ P) (hN : η.N.Nodup) (hi : η.N[i]? = some x := by rfl) (hx : stoB η x = true := by decide +kernel) (hρ : i < ρ.length := by first | decide | (simp [rho]; done)) (hs : isCmp e = false := by rfl) :
    S1 c η (.Assign [.Name x p] e pos) ρ (.ex fun ρ2 => ∃ d ρ', P d ρ' ∧ ρ2 = ρ'.set i (.va d)) := ⟨fun F0 H0 σ F H S E q =>
  WS.of (t := tAsg (WE c η e) (gName i)) (fun X hX => ps_set (by rw [hX.N]; exact hN) (by rw [hX.N]; exact hi) (by rw [hX.sc]; exact loc_of hx) (WE.pe hX) (swap_no hs _ _ X.env) (fn_of' hX hx))
    (he.run F0 H0 σ F H S _ fun v d ρ' F' H' hp S' r => q _ _ F' H' ⟨d, ρ', hp, rfl⟩ (S'.set_va (by rw [← S'.len, S.len]; exact hρ) r))⟩
theorem sd_rwm {P P' : D → List (Addr × D) → Prop} (h : SD c η bs ρ (.rw P)) (i : ∀ d w, P d w → P' d w) : SD c η bs ρ (.rw P') := ⟨fun F0 H0 σ F H S E q => h.run F0 H0 σ F H S E fun v d w F' H' hp => q v d w F' H' (i d w hp)⟩
end DL

set_option Elab.async false
set_option linter.all false
set_option maxRecDepth 100000
set_option maxHeartbeats 4000000
namespace DL
open PySem L2
variable {c : Cc} {η : Nm} {ρ ρ1 ρ2 : Rho} {a b e o : Expr} {es : List Expr} {pos p apos : Pos} {d d1 d2 : D} {ds : List D} {out : Out} {st : Stmt} {rest : List Stmt} {bs : List (List Stmt)}

section
variable {K : PySem.W.Frag} {F H : Hp}
theorem ObjW.ins {o : Option HO} {C dx : Addr} {N : List Str} {xs : List D} (h : ObjW K F o (.ins C dx N xs)) : ∃ fs, o = Option.some (HO.ins C dx fs) ∧ FRep K F fs N xs := by
  rcases h with (⟨_, _, _, z, _⟩ | ⟨_, _, _, z, _⟩) | ⟨_, _, fs, _, _, h, z, r⟩ | ⟨_, _, _, _, _, z, _⟩
  · cases z
  · cases z
  · cases z; exact ⟨fs, h, r⟩
  · cases z
theorem ObjW.lst {o : Option HO} {ds : List D} (h : ObjW K F o (.lst ds)) : ∃ vs, o = Option.some (HO.lst vs) ∧ RepL K F vs ds := by
  rcases h with (⟨vs, _, h, z, r⟩ | ⟨_, _, _, z, _⟩) | ⟨_, _, _, _, _, _, z, _⟩ | ⟨_, _, _, _, _, z, _⟩
  · cases z; exact ⟨vs, h, r⟩
  · cases z
  · cases z
  · cases z
theorem ObjW.tup {o : Option HO} {ds : List D} (h : ObjW K F o (.tup ds)) : ∃ ob vs, o = Option.some (HO.frz ob (.tup vs)) ∧ ob.dict = none ∧ RepL K F vs ds := by
  rcases h with (⟨vs, _, h, z, r⟩ | ⟨_, _, _, z, _⟩) | ⟨_, _, _, _, _, _, z, _⟩ | ⟨ob, vs, _, h1, h2, z, h3⟩
  · cases z
  · cases z
  · cases z
  · cases z; exact ⟨ob, vs, h1, h2, h3⟩
theorem ObjW.dic {o : Option HO} {ks : List (Str × D)} (h : ObjW K F o (.dic ks)) : ∃ vs, o = Option.some (HO.dK vs) ∧ RepK K F vs ks := by
  rcases h with (⟨_, _, _, z, _⟩ | ⟨vs, _, h, z, r⟩) | ⟨_, _, _, _, _, _, z, _⟩ | ⟨_, _, _, _, _, z, _⟩
  · cases z
  · cases z; exact ⟨vs, h, r⟩
  · cases z
  · cases z
end
theorem ee_appW (i : Nat) {x : Addr} (ho : ED c η o ρ (.ref x)) (he : ED c η e ρ d) (hz : ds.length < 100000) (h : ρ.w[i]? = some (x, .lst ds) := by rfl)
    (hr : ∀ X to t, PE X o to → PA X [e] t → PE X (.Call (.Attribute o "append" apos) [e] [] pos) (tBM X.K "list" rAppend to t) := by exact fun _ _ _ h1 h2 => pe_bm PySem.F.plainAttrs_list PySem.F.slot_list_append PySem.F.type_list_append mt_append h1 h2) (hst : isStar e = false := by rfl) :
    EE c η (.Call (.Attribute o "append" apos) [e] [] pos) ρ (fun d' ρ' => d' = .non ∧ ρ' = ρ.putW i x (.lst (ds ++ [d]))) := ⟨fun F0 H0 σ F H S Q q =>
  WE.of (t := tBM c.K "list" rAppend (WE c η o) (WA c η [e])) (fun X hX => by rw [← hX.K]; exact hr X _ _ (WE.pe hX) (WA.pa hX)) (by
    refine ho.run F0 H0 σ F H S _ fun v F1 H1 g1 r1 => ?_
    cases r1
    have S1 := S.grow g1
    obtain ⟨n, n0, ob⟩ := S1.at h
    obtain ⟨vs, hA, r⟩ := ob.lst
    refine ⟨.inl ⟨rfl, vs, SqL.of hA⟩, ?_⟩
    refine (ea_cons he ea_nil hst).run F0 H0 σ F1 H1 S1 _ fun ws F2 H2 g2 rw2 => ?_
    obtain ⟨v, rfl, r2⟩ := rw2.one
    exact ⟨x, vs, v, rfl, rfl, g2.h _ _ hA, by rw [r.length]; exact Nat.lt_of_lt_of_le hz (by decide), q _ _ _ F2 _ ⟨rfl, rfl⟩ ((S1.grow g2).mutW h (.inl (.inl ⟨_, _, rfl, rfl, (r.mono g2.f).append (.cons r2 .nil)⟩))) .non⟩)⟩
theorem ee_popW (i : Nat) {x : Addr} (ho : ED c η o ρ (.ref x)) (h : ρ.w[i]? = some (x, .lst (ds ++ [d])) := by rfl)
    (hr : ∀ X to, PE X o to → PE X (.Call (.Attribute o "pop" apos) [] [] pos) (tBM0 X.K "list" rPop to) := by exact fun _ _ h1 => pe_bm0 PySem.F.plainAttrs_list PySem.F.slot_list_pop PySem.F.type_list_pop mt_pop h1) :
    EE c η (.Call (.Attribute o "pop" apos) [] [] pos) ρ (fun d' ρ' => d' = d ∧ ρ' = ρ.putW i x (.lst ds)) := ⟨fun F0 H0 σ F H S Q q =>
  WE.of (t := tBM0 c.K "list" rPop (WE c η o)) (fun X hX => by rw [← hX.K]; exact hr X _ (WE.pe hX)) (by
    refine ho.run F0 H0 σ F H S _ fun v F1 H1 g1 r1 => ?_
    cases r1
    have S1 := S.grow g1
    obtain ⟨n, n0, ob⟩ := S1.at h
    obtain ⟨vs, hA, r⟩ := ob.lst
    have hl := r.length
    rw [List.length_append, List.length_cons, List.length_nil] at hl
    obtain ⟨v, hv, rv⟩ := r.get (i := ds.length) (by rw [List.getElem?_append_right (Nat.le_refl _), Nat.sub_self]; rfl)
    refine ⟨.inl ⟨rfl, vs, SqL.of hA⟩, x, vs, v, rfl, rfl, hA, by rw [hl]; exact hv, q _ _ _ F1 _ ⟨rfl, rfl⟩ (S1.mutW h (.inl (.inl ⟨_, _, rfl, rfl, ?_⟩))) rv⟩
    rw [List.dropLast_eq_take, hl]
    have := r.take ds.length
    rw [List.take_left] at this
    exact this)⟩
end DL

set_option Elab.async false
set_option linter.all false
set_option maxRecDepth 100000
set_option maxHeartbeats 4000000
namespace DL
open PySem L2
variable {c : Cc} {η : Nm} {ρ ρ1 ρ2 : Rho} {a b e o : Expr} {es : List Expr} {pos p apos : Pos} {d d1 d2 : D} {ds : List D} {out : Out} {st : Stmt} {rest : List Stmt} {bs : List (List Stmt)}

mutual
inductive RT (x : Addr) (d0 : D) : D → D → Prop
  | same (d : D) : RT x d0 d d
  | here : RT x d0 (.ref x) d0
  | tup {ds ds' : List D} : RTL x d0 ds ds' → RT x d0 (.tup ds) (.tup ds')
inductive RTL (x : Addr) (d0 : D) : List D → List D → Prop
  | nil : RTL x d0 [] []
  | cons {d d' : D} {r r' : List D} : RT x d0 d d' → RTL x d0 r r' → RTL x d0 (d :: r) (d' :: r')
end
inductive RTK (x : Addr) (d0 : D) : List (Str × D) → List (Str × D) → Prop
  | nil : RTK x d0 [] []
  | cons {y : Str} {d d' : D} {r r' : List (Str × D)} : RT x d0 d d' → RTK x d0 r r' → RTK x d0 ((y, d) :: r) ((y, d') :: r')
inductive RTO (x : Addr) (d0 : D) : D → D → Prop
  | same (d : D) : RTO x d0 d d
  | lst {ds ds' : List D} : RTL x d0 ds ds' → RTO x d0 (.lst ds) (.lst ds')
  | ins {C dx : Addr} {N : List Str} {xs xs' : List D} : RTL x d0 xs xs' → RTO x d0 (.ins C dx N xs) (.ins C dx N xs')
  | dic {ks ks' : List (Str × D)} : RTK x d0 ks ks' → RTO x d0 (.dic ks) (.dic ks')
inductive RTW (x : Addr) (d0 : D) : List (Addr × D) → List (Addr × D) → Prop
  | nil : RTW x d0 [] []
  | cons {a : Addr} {d d' : D} {r r' : List (Addr × D)} : RTO x d0 d d' → RTW x d0 r r' → RTW x d0 ((a, d) :: r) ((a, d') :: r')
inductive RTS (x : Addr) (d0 : D) : List Sl → List Sl → Prop
  | nil : RTS x d0 [] []
  | same {s : Sl} {r r' : List Sl} : RTS x d0 r r' → RTS x d0 (s :: r) (s :: r')
  | va {d d' : D} {r r' : List Sl} : RT x d0 d d' → RTS x d0 r r' → RTS x d0 (.va d :: r) (.va d' :: r')
  | tup {ds ds' : List D} {r r' : List Sl} : RTL x d0 ds ds' → RTS x d0 r r' → RTS x d0 (.va (.tup ds) :: r) (.va (.tup ds') :: r')
section
variable {K : PySem.W.Frag} {F H : Hp} {x : Addr} {d0 : D}
mutual
theorem RT.rep (r : Rep K F (.ref x) d0) : ∀ {v : V} {d d' : D}, RT x d0 d d' → Rep K F v d → Rep K F v d'
  | _, _, _, .same _, h => h
  | _, _, _, .here, h => by cases h; exact r
  | _, _, _, .tup q, h => by
    cases h with
    | tup hf rr => exact .tup hf (RTL.rep r q rr)
theorem RTL.rep (r : Rep K F (.ref x) d0) : ∀ {vs : List V} {ds ds' : List D}, RTL x d0 ds ds' → RepL K F vs ds → RepL K F vs ds'
  | _, _, _, .nil, .nil => .nil
  | _, _, _, .cons t q, .cons h s => .cons (RT.rep r t h) (RTL.rep r q s)
end
theorem RTK.rep (r : Rep K F (.ref x) d0) : ∀ {vs : List (Key × V)} {ds ds' : List (Str × D)}, RTK x d0 ds ds' → RepK K F vs ds → RepK K F vs ds'
  | _, _, _, .nil, .nil => .nil
  | _, _, _, .cons t q, .cons h s => .cons (t.rep r h) (q.rep r s)
theorem RTO.ob (r : Rep K F (.ref x) d0) {o : Option HO} {d d' : D} (t : RTO x d0 d d') (h : ObjW K F o d) : ObjW K F o d' := by
  cases t with
  | same => exact h
  | lst q =>
    obtain ⟨vs, e, s⟩ := h.lst
    exact .inl (.inl ⟨vs, _, e, rfl, q.rep r s⟩)
  | ins q =>
    obtain ⟨fs, e, s1, s2⟩ := h.ins
    exact .inr (.inl ⟨_, _, fs, _, _, e, rfl, s1, q.rep r s2⟩)
  | dic q =>
    obtain ⟨vs, e, s⟩ := h.dic
    exact .inl (.inr ⟨vs, _, e, rfl, q.rep r s⟩)
theorem RTW.keys : ∀ {w w' : List (Addr × D)}, RTW x d0 w w' → w'.map (·.1) = w.map (·.1)
  | _, _, .nil => rfl
  | _, _, .cons _ q => by rw [List.map_cons, List.map_cons, q.keys]
theorem RTW.mem : ∀ {w w' : List (Addr × D)} {a : Addr} {d' : D}, RTW x d0 w w' → (a, d') ∈ w' → ∃ d, (a, d) ∈ w ∧ RTO x d0 d d'
  | _, _, _, _, .nil, h => by cases h
  | _, _, _, _, .cons t q, h => by
    rcases List.mem_cons.mp h with z | h
    · cases z; exact ⟨_, List.mem_cons_self, t⟩
    · obtain ⟨d, h1, h2⟩ := q.mem h
      exact ⟨d, List.mem_cons_of_mem _ h1, h2⟩
theorem RTS.len : ∀ {s s' : List Sl}, RTS x d0 s s' → s'.length = s.length
  | _, _, .nil => rfl
  | _, _, .same q => congrArg (· + 1) q.len
  | _, _, .va _ q => congrArg (· + 1) q.len
  | _, _, .tup _ q => congrArg (· + 1) q.len
inductive RT1 (x : Addr) (d0 : D) : Sl → Sl → Prop
  | same (s : Sl) : RT1 x d0 s s
  | va {d d' : D} : RT x d0 d d' → RT1 x d0 (.va d) (.va d')
  | tup {ds ds' : List D} : RTL x d0 ds ds' → RT1 x d0 (.va (.tup ds)) (.va (.tup ds'))
theorem RTS.get : ∀ {s s' : List Sl} {i : Nat} {t : Sl}, RTS x d0 s s' → s'[i]? = some t → ∃ t0, s[i]? = some t0 ∧ RT1 x d0 t0 t
  | _, _, _, _, .nil, h => by simp at h
  | _, _, 0, _, .same q, h => by simp at h; subst h; exact ⟨_, rfl, .same _⟩
  | _, _, 0, _, .va t q, h => by simp at h; subst h; exact ⟨_, rfl, .va t⟩
  | _, _, 0, _, .tup t q, h => by simp at h; subst h; exact ⟨_, rfl, .tup t⟩
  | _, _, i + 1, _, .same q, h => by obtain ⟨t0, h1, h2⟩ := q.get (i := i) (by simpa using h); exact ⟨t0, by simpa using h1, h2⟩
  | _, _, i + 1, _, .va t q, h => by obtain ⟨t0, h1, h2⟩ := q.get (i := i) (by simpa using h); exact ⟨t0, by simpa using h1, h2⟩
  | _, _, i + 1, _, .tup t q, h => by obtain ⟨t0, h1, h2⟩ := q.get (i := i) (by simpa using h); exact ⟨t0, by simpa using h1, h2⟩
end
structure Lend (ρ ρ' : Rho) (i : Nat) (x : Addr) (d0 : D) : Prop where
  at_ : ρ.w[i]? = some (x, d0)
  ob : (∃ ds, d0 = .lst ds) ∨ (∃ ks, d0 = .dic ks)
  s : RTS x d0 ρ.s ρ'.s
  w : RTW x d0 (ρ.w.eraseIdx i) ρ'.w
theorem erase_mem {w : List (Addr × D)} (nd : (w.map (·.1)).Nodup) {i : Nat} {x y : Addr} {d e : D} (h : w[i]? = some (x, d)) (m : (y, e) ∈ w.eraseIdx i) : y ≠ x ∧ (y, e) ∈ w := by
  obtain ⟨j, hne, hj⟩ := List.mem_eraseIdx_iff_getElem?.mp m
  refine ⟨fun q => ?_, List.mem_of_getElem? hj⟩
  subst q
  have hi : i < w.length := (List.getElem?_eq_some_iff.mp h).1
  have e1 : (w.map (·.1))[i]? = some y := by rw [List.getElem?_map, h]; rfl
  have e2 : (w.map (·.1))[j]? = some y := by rw [List.getElem?_map, hj]; rfl
  exact hne ((List.getElem?_inj (by rw [List.length_map]; exact hi) nd).mp (e1.trans e2.symm)).symm
theorem Stt.lend {K : PySem.W.Frag} {F0 H0 F H : Hp} {σ : St} {i : Nat} {x : Addr} {d0 : D} (S : Stt K F0 H0 ρ σ F H) (L : Lend ρ ρ1 i x d0) : ∃ F', Same F F' ∧ Stt K F0 H0 ρ1 σ F' H := by
  obtain ⟨n, n0, ow⟩ := S.at L.at_
  obtain ⟨u, hu⟩ := ow.some
  have ob : Obj K F (H x) d0 := by
    rcases L.ob with ⟨ds, rfl⟩ | ⟨ks, rfl⟩
    · obtain ⟨vs, h, r⟩ := ow.lst
      exact .inl ⟨vs, ds, h, rfl, r⟩
    · obtain ⟨vs, h, r⟩ := ow.dic
      exact .inr ⟨vs, ks, h, rfl, r⟩
  rw [hu] at ob
  have hm : (x, d0) ∈ ρ.w := List.mem_of_getElem? L.at_
  have s1 : Same F (upd F x u) := same_upd n
  have s2 : Same (upd F x u) H := fun b y z => by
    by_cases hb : b = x
    · subst hb; rw [upd_same] at z; cases z; exact hu
    · rw [upd_ne hb] at z; exact S.fh b y z
  have R := ob.froze n
  have slot : ∀ (j : Nat) (t : Sl), ρ1[j]? = some t → ∃ t0, ρ[j]? = some t0 ∧ RT1 x d0 t0 t := fun j t e => L.s.get e
  have own : ∀ (j : Nat) (e : D), ρ1[j]? = some (.ow e) → ρ[j]? = some (.ow e) := fun j e h => by
    obtain ⟨t0, h1, h2⟩ := slot j _ h
    cases h2
    exact h1
  refine ⟨upd F x u, s1, ⟨⟨S.g.f.trans s1, S.g.h, s2, fun b y z q => ?_⟩, S.len.trans (L.s.len).symm, fun j t e => ?_, fun j k e1 e2 a h1 h2 h3 h4 => S.ne j k e1 e2 a (own j e1 h1) (own k e2 h2) h3 h4, ⟨fun a d hd => ?_, ?_⟩, fun j d a h1 h2 e he => ?_⟩⟩
  · rw [upd_ne (ne_of_none z n0)]
    exact S.g.sep b y z q
  · obtain ⟨t0, h1, h2⟩ := slot j t e
    have q := S.sl j t0 h1
    have old : SlOk K H0 (upd F x u) H σ[j]? t0 := by
      cases t0 with
      | no => exact trivial
      | va d =>
        obtain ⟨v, e5, r⟩ := q
        exact ⟨v, e5, r.mono s1⟩
      | ow d2 =>
        obtain ⟨b, g1, g2, g3, g4⟩ := q
        have hne : b ≠ x := fun z => by subst z; exact S.ws j d2 b h1 g1 d0 hm
        exact ⟨b, g1, by rw [upd_ne hne]; exact g2, g3, g4.mono s1⟩
    cases h2 with
    | same => exact old
    | va t =>
      obtain ⟨v, e5, r⟩ := old
      exact ⟨v, e5, t.rep R r⟩
    | tup t =>
      obtain ⟨v, e5, r⟩ := old
      cases r with
      | tup h r => exact ⟨_, e5, .tup h (t.rep R r)⟩
  · obtain ⟨d', h1, h2⟩ := L.w.mem hd
    obtain ⟨hne, h1⟩ := erase_mem S.w.nd L.at_ h1
    obtain ⟨g1, g2, g3⟩ := S.w.ob a d' h1
    exact ⟨by rw [upd_ne hne]; exact g1, g2, h2.ob R (g3.mono s1)⟩
  · rw [L.w.keys]
    exact ((List.eraseIdx_sublist ρ.w i).map _).nodup S.w.nd
  · obtain ⟨d', g1, g2⟩ := L.w.mem he
    obtain ⟨_, g1⟩ := erase_mem S.w.nd L.at_ g1
    exact S.ws j d a (own j d h1) h2 d' g1
theorem sd_keep {i : Nat} {x : Addr} {d0 : D} (L : Lend ρ ρ1 i x d0) (h : SD c η bs ρ1 out) : SD c η bs ρ out := ⟨fun F0 H0 σ F H S E q => by
  obtain ⟨F', _, S'⟩ := S.lend L
  exact h.run F0 H0 σ F' H S' E q⟩
def hide (w : List (Addr × D)) (H : Hp) : Hp := fun a => if a ∈ w.map (·.1) then none else H a
theorem hide_in {w : List (Addr × D)} {H : Hp} {a : Addr} (h : a ∈ w.map (·.1)) : hide w H a = none := by unfold hide; rw [if_pos h]
theorem hide_out {w : List (Addr × D)} {H : Hp} {a : Addr} (h : a ∉ w.map (·.1)) : hide w H a = H a := by unfold hide; rw [if_neg h]
theorem hide_same (w : List (Addr × D)) (H : Hp) : Same (hide w H) H := fun a o e => by
  unfold hide at e
  split at e
  · cases e
  · exact e
def spW (K : PySem.W.Frag) (R : List D → List (Addr × D) → (D → List (Addr × D) → Prop) → Prop) : Sp := fun vs H Q _ => ∃ F ds w P, Same F H ∧ RepL K F vs ds ∧ WOk K (hide w H) F H w ∧ R ds w P ∧
  ∀ v d w' F' H', P d w' → Grow F (hide w H) F' H' → Rep K F' v d → WOk K (hide w H) F' H' w' → Q v H'
theorem Stt.back {K : PySem.W.Frag} {F0 H0 F H F' H' : Hp} {σ : St} {w1 w2 w' : List (Addr × D)} (S : Stt K F0 H0 ρ σ F H) (hw : ρ.w = w1 ++ w2) (g : Grow F (hide w1 H) F' H') (W : WOk K (hide w1 H) F' H' w') : Stt K F0 H0 ⟨ρ.s, w' ++ w2⟩ σ F' H' := by
  have in1 : ∀ {a : Addr}, a ∈ w1.map (·.1) → H0 a = none := fun {a} h => by
    rw [List.mem_map] at h
    obtain ⟨⟨b, d⟩, h1, rfl⟩ := h
    exact (S.w.ob b d (by rw [hw]; exact List.mem_append_left _ h1)).2.1
  have nd : (w1.map (·.1) ++ w2.map (·.1)).Nodup := by rw [← List.map_append, ← hw]; exact S.w.nd
  rw [List.nodup_append] at nd
  have far : ∀ {a : Addr} {o : HO}, H a = some o → a ∉ w1.map (·.1) → F a = none → H' a = some o ∧ F' a = none := fun {a o} h h1 h2 => by
    have e : hide w1 H a = some o := by rw [hide_out h1]; exact h
    exact ⟨g.h a o e, g.sep a o e h2⟩
  have old0 : ∀ {a : Addr} {o : HO}, H0 a = some o → a ∉ w1.map (·.1) := fun {a o} h z => by rw [in1 z] at h; cases h
  have slotW : ∀ (j : Nat) (d : D) (a : Addr), ρ[j]? = some (.ow d) → σ[j]? = some (some (.ref a)) → a ∉ w1.map (·.1) := fun j d a h1 h2 z => by
    rw [List.mem_map] at z
    obtain ⟨⟨b, e⟩, h3, rfl⟩ := z
    exact S.ws j d b h1 h2 e (by rw [hw]; exact List.mem_append_left _ h3)
  have out2 : ∀ {a : Addr} {d : D}, (a, d) ∈ w2 → a ∉ w1.map (·.1) := fun {a d} h z => nd.2.2 a z a (List.mem_map_of_mem (f := (·.1)) h) rfl
  refine ⟨⟨S.g.f.trans g.f, fun a o e => g.h a o ((hide_out (old0 e)).trans (S.g.h a o e)), g.fh, fun a o e n => (far (S.g.h a o e) (old0 e) (S.g.sep a o e n)).2⟩, S.len, fun j s e => ?_, S.ne, ⟨fun a d h => ?_, ?_⟩, fun j d a h1 h2 e h => ?_⟩
  · have q := S.sl j s e
    cases s with
    | no => exact trivial
    | va d =>
      obtain ⟨v, e5, r⟩ := q
      exact ⟨v, e5, r.mono g.f⟩
    | ow d =>
      obtain ⟨a, g1, g2, g3, g4⟩ := q
      obtain ⟨u, hu⟩ := g4.some
      obtain ⟨h5, h6⟩ := far hu (slotW j d a e g1) g2
      exact ⟨a, g1, h6, g3, by rw [h5, ← hu]; exact g4.mono g.f⟩
  · rcases List.mem_append.mp h with h | h
    · obtain ⟨g1, g2, g3⟩ := W.ob a d h
      refine ⟨g1, ?_, g3⟩
      by_cases z : a ∈ w1.map (·.1)
      · exact in1 z
      · rw [hide_out z] at g2
        exact S.g.h.free g2
    · obtain ⟨g1, g2, g3⟩ := S.w.ob a d (by rw [hw]; exact List.mem_append_right _ h)
      obtain ⟨u, hu⟩ := g3.some
      obtain ⟨h5, h6⟩ := far hu (out2 h) g1
      exact ⟨h6, g2, by rw [h5, ← hu]; exact g3.mono g.f⟩
  · show ((w' ++ w2).map (·.1)).Nodup
    rw [List.map_append, List.nodup_append]
    refine ⟨W.nd, nd.2.1, fun a h1 b h2 z => ?_⟩
    subst z
    rw [List.mem_map] at h1 h2
    obtain ⟨⟨a1, e1⟩, h1, rfl⟩ := h1
    obtain ⟨⟨a2, e2⟩, h2, z⟩ := h2
    have z : a2 = a1 := z
    subst z
    obtain ⟨_, q2, _⟩ := W.ob a2 e1 h1
    obtain ⟨_, _, q3⟩ := S.w.ob a2 e2 (by rw [hw]; exact List.mem_append_right _ h2)
    obtain ⟨u, hu⟩ := q3.some
    rw [hide_out (out2 h2), hu] at q2
    cases q2
  · rcases List.mem_append.mp h with h | h
    · obtain ⟨_, q2, _⟩ := W.ob a e h
      rw [hide_out (slotW j d a h1 h2)] at q2
      obtain ⟨⟨u, hu⟩, _⟩ := S.own_there h1 h2
      rw [hu] at q2
      cases q2
    · exact S.ws j d a h1 h2 e (by rw [hw]; exact List.mem_append_right _ h)
theorem WOk.left {K : PySem.W.Frag} {F0 H0 F H : Hp} {σ : St} {w1 w2 : List (Addr × D)} (S : Stt K F0 H0 ρ σ F H) (hw : ρ.w = w1 ++ w2) : WOk K (hide w1 H) F H w1 := by
  refine ⟨fun a d h => ?_, ?_⟩
  · obtain ⟨g1, _, g3⟩ := S.w.ob a d (by rw [hw]; exact List.mem_append_left _ h)
    exact ⟨g1, hide_in (List.mem_map_of_mem (f := (·.1)) h), g3⟩
  · have nd : ((w1 ++ w2).map (·.1)).Nodup := by rw [← hw]; exact S.w.nd
    rw [List.map_append, List.nodup_append] at nd
    exact nd.1
theorem ee_call {j : Nat} {x : Str} {R : List D → List (Addr × D) → (D → List (Addr × D) → Prop) → Prop} {P : D → List (Addr × D) → Prop} {w1 w2 : List (Addr × D)} (cl : Call c j x (spW c.K R)) (hj : j ≤ c.k) (hr : R ds w1 P) (hw : ρ.w = w1 ++ w2) (ha : EA c η (e :: es) ρ ds) (hg : glB η.sc x = true := by decide +kernel) (hdb : (x == ("__debug__" : Str)) = false := by decide)
    (he : isStar e = false := by rfl) (hpl : noStar es = true := by rfl) : EE c η (.Call (.Name x p) (e :: es) [] pos) ρ (fun d ρ' => ∃ w', P d w' ∧ ρ' = ⟨ρ.s, w' ++ w2⟩) := ⟨fun F0 H0 σ F H S Q q =>
  we_call cl hj (ha.run F0 H0 σ F H S _ fun vs F1 H1 g1 r1 => ⟨F1, ds, w1, P, g1.fh, r1, WOk.left (S.grow g1) hw, hr, fun v d w' F' H' hp g' r' W' => q v d _ F' H' ⟨w', hp, rfl⟩ ((S.grow g1).back hw g' W') r'⟩) hg hdb he hpl⟩
end DL

set_option Elab.async false
set_option linter.all false
set_option maxRecDepth 100000
set_option maxHeartbeats 4000000
namespace DL
open PySem L2
variable {c : Cc} {η : Nm} {ρ ρ1 ρ2 : Rho} {a b e o : Expr} {es : List Expr} {pos p apos : Pos} {d d1 d2 : D} {ds : List D} {out : Out} {st : Stmt} {rest : List Stmt} {bs : List (List Stmt)}
abbrev RW' := List D → List (Addr × D) → (D → List (Addr × D) → Prop) → Prop

def BodyW (c : Cc) (η : Nm) (st : Stmt) (ρ : Rho) (P : D → List (Addr × D) → Prop) : Prop := SD c η [defBody st] ρ (.rw P) ∨ SD c η [defBody st] ρ (.ex fun ρ' => P .non ρ'.w)
theorem stt_startW {K : PySem.W.Frag} {F H : Hp} {vs : List V} {N : List Str} {w : List (Addr × D)} (s : Same F H) (r : RepL K F vs ds) (W : WOk K (hide w H) F H w) : Stt K F (hide w H) ⟨(rho N ds).s, w⟩ (L2.start N vs) F H := by
  have S := stt_start (N := N) s r
  have no : ∀ (i : Nat) (d : D), (rho N ds)[i]? = some (.ow d) → False := fun i d e => by
    rcases rho_get e with ⟨_, _, z⟩ | z <;> cases z
  refine ⟨⟨Same.refl F, hide_same w H, s, fun _ _ _ n => n⟩, S.len, fun i sl e => ?_, fun i j d e a h1 => (no i d h1).elim, W, fun i d a h1 => (no i d h1).elim⟩
  have q := S.sl i sl e
  cases sl with
  | no => exact trivial
  | va d => exact q
  | ow d => exact (no i d e).elim
section
variable {P : Program} {w : World} {K : PySem.W.Frag} {mg : Str → Option Value} {base : Heap} {x q : Str} {st : Stmt} {f : Addr} {fd : FuncData} {N ps : List Str} {k : Nat} {R : RW'}
theorem fn_W (F : L2.Fun K x q st f fd) (S : FnScope N ps (defScope st)) (hl : ∀ ds w P, R ds w P → ds.length = ps.length) (hb : ∀ ds w' Q, R ds w' Q → BodyW ⟨P, w, K, mg, base, k⟩ ⟨N, defScope st, fun _ => true⟩ st ⟨(rho N ds).s, w'⟩ Q) : FnOk P w K mg base CX0 (k + 1) f fd ps (spW K R) := by
  refine F.ok S (fun vs H Q E h => ?_) fun cdv A outer s H vs Q E hr h => ?_
  · obtain ⟨F, ds, w', P', s, r, _, hR, _⟩ := h
    rw [r.length]
    exact hl ds _ _ hR
  · obtain ⟨F1, ds, w', P', s1, r, W, hR, q'⟩ := h
    let X : Cx := (cxOf CX0 P w K mg base N q (defScope st) f cdv A outer s H E).nox
    have hX : Cin ⟨P, w, K, mg, base, k⟩ ⟨N, defScope st, fun _ => true⟩ X := ⟨rfl, rfl, rfl, rfl, rfl, rfl, rfl, hr, rfl, fun _ _ => rfl, PassesOwn.never⟩
    refine ⟨_, WB.pb hX, ?_⟩
    rcases hb ds w' P' hR with h | h
    · exact h.run F1 (hide w' H) _ F1 H (stt_startW s1 r W) ⟨fun _ H' => Q .non H', Q, fun _ _ => False, fun _ _ => False⟩ fun v d w2 F' H' hp g r' W' => q' v d w2 F' H' hp g r' W'
    · exact h.run F1 (hide w' H) _ F1 H (stt_startW s1 r W) ⟨fun _ H' => Q .non H', Q, fun _ _ => False, fun _ _ => False⟩ fun ρ' σ' F' H' hp S' => q' .non .non ρ'.w F' H' hp S'.g .non S'.w
end
structure CallM (c : Cc) (j : Nat) (C : Addr) (m : Str) (sp : Sp) : Prop where
  ex : ∃ (f : Addr) (fd : FuncData) (ps : List Str), FnOk c.P c.w c.K c.mg c.base CX0 j f fd ps sp ∧ Cls c.K C ∧ Meth c.K C m f ∧ Binds c.K fd ps []
theorem CallM.at {c : Cc} {j : Nat} {C : Addr} {x : Str} {sp : Sp} (h : CallM c j C x sp) (k : Nat) : CallM ⟨c.P, c.w, c.K, c.mg, c.base, k⟩ j C x sp := ⟨h.ex⟩
end DL

set_option Elab.async false
set_option linter.all false
set_option maxRecDepth 100000
set_option maxHeartbeats 4000000
namespace DL
open PySem L2
variable {c : Cc} {η : Nm} {ρ ρ1 ρ2 : Rho} {a b e o : Expr} {es : List Expr} {pos p apos : Pos} {d d1 d2 : D} {ds : List D} {out : Out} {st : Stmt} {rest : List Stmt} {bs : List (List Stmt)}

theorem Stt.permW {K : PySem.W.Frag} {F0 H0 F H : Hp} {σ : St} {w : List (Addr × D)} (S : Stt K F0 H0 ρ σ F H) (h : w.Perm ρ.w) : Stt K F0 H0 ⟨ρ.s, w⟩ σ F H :=
  ⟨S.g, S.len, S.sl, S.ne, ⟨fun a d hm => S.w.ob a d (h.mem_iff.mp hm), (h.map (·.1)).nodup_iff.mpr S.w.nd⟩, fun i d a h1 h2 e hm => S.ws i d a h1 h2 e (h.mem_iff.mp hm)⟩
theorem sd_permW {w : List (Addr × D)} (h : w.Perm ρ.w) (hr : SD c η bs ⟨ρ.s, w⟩ out) : SD c η bs ρ out := ⟨fun F0 H0 σ F H S E q => hr.run F0 H0 σ F H (S.permW h) E q⟩
structure CallC (c : Cc) (j : Nat) (C : Addr) (x : Str) (sp : Sp) : Prop where
  ex : ∃ (f : Addr) (fd : FuncData) (ps : List Str), FnOk c.P c.w c.K c.mg c.base CX0 j f fd ps sp ∧ Mk c.K C f ∧ c.mg x = some (.ref C) ∧ Binds c.K fd ps []
theorem CallC.at {c : Cc} {j : Nat} {C : Addr} {x : Str} {sp : Sp} (h : CallC c j C x sp) (k : Nat) : CallC ⟨c.P, c.w, c.K, c.mg, c.base, k⟩ j C x sp := ⟨h.ex⟩
theorem s1_whileE {t : Expr} {body : List Stmt} {n : Nat} (I : Nat → Rho → Prop) (P : Rho → Prop) (h : ∀ m ρ, I m ρ → (ET c η t ρ false ∧ P ρ) ∨ (ET c η t ρ true ∧ SD c η [body] ρ (.ex fun ρ' => ∃ m', m' < m ∧ I m' ρ'))) (h0 : I n ρ) : S1 c η (.While t body [] pos) ρ (.ex P) := ⟨fun F0 H0 σ F H S E q =>
  WS.of (t := tWhile (WT c η t) (WB c η body)) (fun X hX => ps_while hX.po (WT.pt hX) (WB.pb hX)) (by
    refine ⟨fun m σ H => ∃ F ρ, Stt c.K F0 H0 ρ σ F H ∧ I m ρ, ⟨n, F, ρ, S, h0⟩, ?_⟩
    rintro m σ H ⟨F, ρ, S, hi⟩
    rcases h m ρ hi with ⟨ht, hp⟩ | ⟨ht, hb⟩
    · refine ht.run F0 H0 σ F H S _ fun F' H' g => ?_
      rw [if_neg Bool.false_ne_true]
      exact q ρ σ F' H' hp (S.grow g)
    · refine ht.run F0 H0 σ F H S _ fun F' H' g => ?_
      rw [if_pos rfl]
      refine ⟨fun σ' H' => ∃ m', m' < m ∧ ∃ F' ρ1, Stt c.K F0 H0 ρ1 σ' F' H' ∧ I m' ρ1, fun σ' H' ⟨m', hm, F', ρ1, S', hi'⟩ => ⟨m', hm, F', ρ1, S', hi'⟩, ?_⟩
      exact hb.run F0 H0 σ F' H' (S.grow g) ⟨fun σ' H' => ∃ m', m' < m ∧ ∃ F' ρ1, Stt c.K F0 H0 ρ1 σ' F' H' ∧ I m' ρ1, E.rt, E.nx, fun σ' H' => ∃ m', m' < m ∧ ∃ F' ρ1, Stt c.K F0 H0 ρ1 σ' F' H' ∧ I m' ρ1⟩ fun ρ2 σ2 F2 H2 hp S2 => let ⟨m', hm, hi'⟩ := hp; ⟨m', hm, F2, ρ2, S2, hi'⟩)⟩
theorem SD.fromE {P : Rho → Prop} (hb : SD c η bs ρ (.ex P)) {F0 H0 F H F1 : Hp} {σ : St} (S : Stt c.K F0 H0 ρ σ F H) (f : Same F0 F1) (s : Same F1 F) (E : Ends) (q : ∀ ρ' σ' F' H', P ρ' → Stt c.K F0 H0 ρ' σ' F' H' → Same F1 F' → E.nx σ' H') : WQ c η bs E σ H := by
  obtain ⟨S1, g⟩ := S.over f s
  exact hb.run F1 _ σ F H S1 E fun ρ' σ' F' H' hp S' => q ρ' σ' F' H' hp (S'.under g) S'.g.f
theorem s1_forE (j : Nat) {x : Str} {it : Expr} {body : List Stmt} (I : Nat → Rho → Prop) (hi : ID c η (.Name x p) it ρ ds) (hN : η.N.Nodup) (h0 : I 0 ρ) (hlen : ∀ i ρ', I i ρ' → j < ρ'.length) (h : ∀ i d ρ', ds[i]? = some d → I i ρ' → SD c η [body] (ρ'.set j (.va d)) (.ex (I (i + 1))))
    (hj : η.N[j]? = some x := by rfl) (hx : stoB η x = true := by decide +kernel) (hf : isSetD it = false := by rfl) : S1 c η (.For (.Name x p) it body [] pos) ρ (.ex (I ds.length)) := ⟨fun F0 H0 σ F H S0 E q =>
  WS.of (fun X hX => ps_for hX.po hX.calm (WI.pi hX) (WG.pg hX) (WB.pb hX) (fold_no hf X.env)) (hi.run F0 H0 σ F H S0 _ fun J F1 H1 g1 y => by
    refine ⟨fun i m σ' H => m = ds.length - i ∧ i ≤ ds.length ∧ ∃ F ρ', Stt c.K F0 H0 ρ' σ' F H ∧ Same F1 F ∧ I i ρ', ⟨_, rfl, Nat.zero_le _, F1, ρ, S0.grow g1, Same.refl F1, h0⟩, ?_⟩
    rintro i m σ H ⟨rfl, hle, F, ρ', S, s, hI⟩
    obtain ⟨y1, y2⟩ := y i F H s S.fh
    by_cases hi : i < ds.length
    · have e1 : ds[i]? = some ds[i] := List.getElem?_eq_getElem hi
      obtain ⟨go, yl⟩ := y1 _ e1
      refine .inr ⟨go, ?_⟩
      let N : L2.St → Hp → Prop := fun σ' H' => ∃ F' ρ2, Stt c.K F0 H0 ρ2 σ' F' H' ∧ Same F1 F' ∧ I (i + 1) ρ2
      have f01 : Same F0 F1 := (S0.grow g1).g.f
      refine ⟨N, fun σ' H' ⟨F', ρ2, S', s', hI'⟩ => ⟨_, by omega, rfl, hi, F', ρ2, S', s', hI'⟩, fun v H3 hv => ?_⟩
      obtain ⟨F3, g3, r3⟩ := yl v H3 hv
      refine (td_name (c := c) j hN hj hx (hlen i ρ' hI)).run F0 H0 σ F3 H3 v (S.grow g3) r3 _ fun σ' S' hl2 _ => ?_
      refine SD.fromE (h i _ ρ' e1 hI) S' f01 (s.trans g3.f) ⟨N, E.rt, E.nx, N⟩ fun ρ2 σ2 F2 H2 hp S2 s2 => ⟨F2, ρ2, S2, s2, hp⟩
    · have : i = ds.length := by omega
      subst this
      exact .inl ⟨y2 (Nat.le_refl _), q ρ' σ F H hI S⟩)⟩
end DL

set_option Elab.async false
set_option linter.all false
set_option maxRecDepth 100000
set_option maxHeartbeats 4000000
namespace DL
open PySem L2
variable {c : Cc} {η : Nm} {ρ ρ1 ρ2 : Rho} {a b e o : Expr} {es : List Expr} {pos p apos : Pos} {d d1 d2 : D} {ds : List D} {out : Out} {st : Stmt} {rest : List Stmt} {bs : List (List Stmt)}

theorem ee_mono {P P' : D → Rho → Prop} (h : EE c η e ρ P) (i : ∀ d ρ', P d ρ' → P' d ρ') : EE c η e ρ P' := ⟨fun F0 H0 σ F H S Q q => h.run F0 H0 σ F H S Q fun v d ρ' F' H' hp => q v d ρ' F' H' (i d ρ' hp)⟩
theorem s1_retR {x : Addr} (i : Nat) (he : ED c η e ρ (.ref x)) (h : ρ.w[i]? = some (x, .lst ds) := by rfl) : S1 c η (.Return (some e) pos) ρ (.ro (.lst ds)) := ⟨fun F0 H0 σ F H S E q =>
  WS.of (fun X hX => ps_ret (WE.pe hX)) (he.run F0 H0 σ F H S _ fun v F' H' g r => by
    cases r
    have S' := S.grow g
    obtain ⟨n, n0, ob⟩ := S'.at h
    obtain ⟨vs, hA, r⟩ := ob.lst
    exact q x F' H' S'.g n n0 (.inl ⟨vs, ds, hA, rfl, r⟩))⟩
end DL

set_option Elab.async false
set_option linter.all false
set_option maxRecDepth 100000
set_option maxHeartbeats 4000000
namespace DL
open PySem L2
variable {c : Cc} {η : Nm} {ρ ρ1 ρ2 : Rho} {a b e o : Expr} {es : List Expr} {pos p apos : Pos} {d d1 d2 : D} {ds : List D} {out : Out} {st : Stmt} {rest : List Stmt} {bs : List (List Stmt)}
theorem s1_pre (h : S1 c η st ρ1 out) (l : leR ρ1 ρ) : S1 c η st ρ out := ⟨fun F0 H0 σ F H S E q => h.run F0 H0 σ F H (S.weak l) E q⟩
end DL

set_option Elab.async false
set_option linter.all false
set_option maxRecDepth 100000
set_option maxHeartbeats 4000000
namespace DL
open PySem L2
variable {c : Cc} {η : Nm} {ρ ρ1 ρ2 : Rho} {a b e o : Expr} {es : List Expr} {pos p apos : Pos} {d d1 d2 : D} {ds : List D} {out : Out} {st : Stmt} {rest : List Stmt} {bs : List (List Stmt)}
structure Lk (x : Addr) (kvs : List (Key × V)) (F F' : Hp) : Prop where
  ne : ∀ a, a ≠ x → F' a = F a
  l : Rd F x (.dK kvs)
  r : Rd F' x (.dK kvs)
section
variable {K : PySem.W.Frag} {F F' : Hp} {x : Addr} {kvs : List (Key × V)}
theorem rdu_eq {H : Hp} {a : Addr} {u v : HO} (h : Rd H a u) (h2 : Rd H a v) (hu : ∀ o w, u ≠ .frz o w) (hv : ∀ o w, v ≠ .frz o w) : u = v := by
  rcases h with h | ⟨o, h⟩ <;> rcases h2 with h2 | ⟨o2, h2⟩
  · rw [h] at h2; cases h2; rfl
  · rw [h] at h2; cases h2; exact absurd rfl (hu _ _)
  · rw [h] at h2; cases h2; exact absurd rfl (hv _ _)
  · rw [h] at h2; cases h2; rfl
theorem Lk.rd (L : Lk x kvs F F') {a : Addr} {u : HO} (hu : ∀ o w, u ≠ .frz o w) (h : Rd F a u) : Rd F' a u := by
  by_cases e : a = x
  · subst e
    rw [rdu_eq h L.l hu (fun _ _ => nofun)]
    exact L.r
  · unfold Rd; rw [L.ne a e]; exact h
theorem Lk.rdK (L : Lk x kvs F F') {a : Addr} {ks : List (Key × V)} (h : Rd F a (.dK ks)) : Rd F' a (.dK ks) := L.rd (fun _ _ => nofun) h
theorem Lk.sqT (L : Lk x kvs F F') {a : Addr} {vs : List V} (h : SqT K F a vs) : SqT K F' a vs := by
  rcases h with h | h
  · exact .inl (L.rd (fun _ _ => nofun) h)
  · exact .inr h
theorem Lk.sqL (L : Lk x kvs F F') {a : Addr} {vs : List V} (h : SqL K F a vs) : SqL K F' a vs := by
  rcases h with h | h
  · exact .inl (L.rd (fun _ _ => nofun) h)
  · exact .inr h
theorem Lk.atL (L : Lk x kvs F F') {a : Addr} {vs : List V} (h : F a = some (.lst vs)) : F' a = some (.lst vs) := by
  have e : a ≠ x := fun z => by
    subst z
    have := rdu_eq (.inl h) L.l (fun _ _ => nofun) (fun _ _ => nofun)
    cases this
  rw [L.ne a e]; exact h
theorem Lk.atX (L : Lk x kvs F F') {a : Addr} {φ : Heap → Prop} (h : F a = some (.ext φ)) : F' a = some (.ext φ) := by
  have e : a ≠ x := fun z => by
    subst z
    have := rdu_eq (.inl h) L.l (fun _ _ => nofun) (fun _ _ => nofun)
    cases this
  rw [L.ne a e]; exact h
mutual
theorem Lk.rep (L : Lk x kvs F F') : ∀ {v : V} {d : D}, Rep K F v d → Rep K F' v d
  | _, _, .non => .non
  | _, _, .bl b => .bl b
  | _, _, .int i => .int i
  | _, _, .str x => .str x
  | _, _, .ty n => .ty n
  | _, _, .tup h r => .tup (Lk.sqT L h) (Lk.repL L r)
  | _, _, .lst h r => .lst (Lk.atL L h) (Lk.repL L r)
  | _, _, .dic h r => .dic (Lk.rdK L h) (Lk.repK L r)
  | _, _, .scr h => .scr (Lk.sqL L h)
  | _, _, .ref a => .ref a
  | _, _, .exc h1 h2 r => .exc (Lk.atX L h1) (Lk.atX L h2) (Lk.rep L r)
theorem Lk.repL (L : Lk x kvs F F') : ∀ {vs : List V} {ds : List D}, RepL K F vs ds → RepL K F' vs ds
  | _, _, .nil => .nil
  | _, _, .cons h r => .cons (Lk.rep L h) (Lk.repL L r)
theorem Lk.repK (L : Lk x kvs F F') : ∀ {vs : List (Key × V)} {ds : List (Str × D)}, RepK K F vs ds → RepK K F' vs ds
  | _, _, .nil => .nil
  | _, _, .cons h r => .cons (Lk.rep L h) (Lk.repK L r)
end
end
end DL

set_option Elab.async false
set_option linter.all false
set_option maxRecDepth 100000
set_option maxHeartbeats 4000000
namespace DL
open PySem L2
variable {c : Cc} {η : Nm} {ρ ρ1 ρ2 : Rho} {a b e o : Expr} {es : List Expr} {pos p apos : Pos} {d d1 d2 : D} {ds : List D} {out : Out} {st : Stmt} {rest : List Stmt} {bs : List (List Stmt)}
theorem s1_nxE {P : Rho → Prop} (h : S1 c η st ρ (.ex P)) (i : ∀ ρ', P ρ' → ρ' = ρ1) : S1 c η st ρ (.nx ρ1) := ⟨fun F0 H0 σ F H S E q => h.run F0 H0 σ F H S E fun ρ' σ' F' H' hp S' => q σ' F' H' (i ρ' hp ▸ S')⟩
theorem s1_appW (i : Nat) {x : Addr} (ho : ED c η o ρ (.ref x)) (he : ED c η e ρ d) (hz : ds.length < 100000) (h : ρ.w[i]? = some (x, .lst ds) := by rfl)
    (hr : ∀ X to t, PE X o to → PA X [e] t → PE X (.Call (.Attribute o "append" apos) [e] [] pos) (tBM X.K "list" rAppend to t) := by exact fun _ _ _ h1 h2 => pe_bm PySem.F.plainAttrs_list PySem.F.slot_list_append PySem.F.type_list_append mt_append h1 h2) (hst : isStar e = false := by rfl) :
    S1 c η (.Expr (.Call (.Attribute o "append" apos) [e] [] pos) p) ρ (.nx (ρ.putW i x (.lst (ds ++ [d])))) :=
  s1_nxE (s1_exprE (ee_appW i ho he hz h hr hst)) (by rintro ρ' ⟨_, _, rfl⟩; rfl)

def lkF (a : Addr) (o : PySem.Obj) (F : Hp) : Hp := fun b => if b = a then (F a).map (fun u => HO.frz o u) else F b
section
variable {K : PySem.W.Frag} {F H F0 H0 : Hp} {x : Addr} {o : PySem.Obj} {kvs : List (Key × V)} {σ : L2.St}
theorem lkF_ne {b : Addr} (h : b ≠ x) : lkF x o F b = F b := by unfold lkF; rw [if_neg h]
theorem lkF_at : lkF x o F x = (F x).map (fun u => HO.frz o u) := by unfold lkF; rw [if_pos rfl]
theorem lkF_upd {u : HO} (h : F x = some u) : lkF x o F = upd F x (.frz o u) := by
  funext b
  by_cases e : b = x
  · subst e; rw [lkF_at, h, upd_same]; rfl
  · rw [lkF_ne e, upd_ne e]
theorem lkF_none {b : Addr} : lkF x o F b = none ↔ F b = none := by
  by_cases e : b = x
  · subst e; rw [lkF_at]; cases F b <;> simp
  · rw [lkF_ne e]
theorem Same.lkF (s : Same F H) : Same (lkF x o F) (DL.lkF x o H) := fun b u e => by
  by_cases h : b = x
  · subst h
    rw [lkF_at] at e ⊢
    cases z : F b with
    | none => rw [z] at e; cases e
    | some v => rw [z] at e; rw [s b v z]; exact e
  · rw [lkF_ne h] at e ⊢; exact s b u e
theorem lk_of (h : F x = some (.dK kvs)) : Lk x kvs F (lkF x o F) := ⟨fun b e => lkF_ne e, .inl h, .inr ⟨o, by rw [lkF_at, h]; rfl⟩⟩
theorem Lk.obj {F' : Hp} (L : Lk x kvs F F') {u : Option HO} {d : D} (h : DL.Obj K F u d) : DL.Obj K F' u d := by
  rcases h with ⟨vs, ds, h1, h2, h3⟩ | ⟨vs, ds, h1, h2, h3⟩
  · exact .inl ⟨vs, ds, h1, h2, L.repL h3⟩
  · exact .inr ⟨vs, ds, h1, h2, L.repK h3⟩
theorem Lk.objW {F' : Hp} (L : Lk x kvs F F') {u : Option HO} {d : D} (h : ObjW K F u d) : ObjW K F' u d := by
  rcases h with h | ⟨C, dx, fs, N, xs, h1, h2, h3, h4⟩ | ⟨ob, vs, ds, h1, h2, h3, h4⟩
  · exact .inl (L.obj h)
  · exact .inr (.inl ⟨C, dx, fs, N, xs, h1, h2, h3, L.repL h4⟩)
  · exact .inr (.inr ⟨ob, vs, ds, h1, h2, h3, L.repL h4⟩)
theorem Stt.swap {F' H' F0' H0' : Hp} (S : Stt K F0 H0 ρ σ F H) (g : Grow F0' H0' F' H') (hx : F x ≠ none) (hx' : ∀ b, b ≠ x → F' b = F b ∧ H' b = H b ∧ (H0 b = none → H0' b = none)) (L : Lk x kvs F F') : Stt K F0' H0' ρ σ F' H' := by
  refine ⟨g, S.len, fun i s e => ?_, S.ne, ⟨fun b d hb => ?_, S.w.nd⟩, S.ws⟩
  · have q := S.sl i s e
    cases s with
    | no => exact trivial
    | va d =>
      obtain ⟨v, e5, r⟩ := q
      exact ⟨v, e5, L.rep r⟩
    | ow d =>
      obtain ⟨b, g1, g2, g3, g4⟩ := q
      have hne : b ≠ x := fun z => by subst z; exact hx g2
      obtain ⟨h1, h2, h3⟩ := hx' b hne
      exact ⟨b, g1, by rw [h1]; exact g2, h3 g3, by rw [h2]; exact L.obj g4⟩
  · obtain ⟨g2, g3, g4⟩ := S.w.ob b d hb
    have hne : b ≠ x := fun z => by subst z; exact hx g2
    obtain ⟨h1, h2, h3⟩ := hx' b hne
    exact ⟨by rw [h1]; exact g2, h3 g3, by rw [h2]; exact L.objW g4⟩
theorem Grow.lk (g : Grow F0 H0 F H) : Grow (lkF x o F0) (lkF x o H0) (lkF x o F) (lkF x o H) :=
  ⟨Same.lkF g.f, Same.lkF g.h, Same.lkF g.fh, fun b u e n => by
    have h1 : H0 b ≠ none := fun z => by rw [lkF_none.mpr z] at e; cases e
    cases q : H0 b with
    | none => exact absurd q h1
    | some v => exact lkF_none.mpr (g.sep b v q (lkF_none.mp n))⟩
theorem Stt.lock (S : Stt K F0 H0 ρ σ F H) (h : F x = some (.dK kvs)) : Stt K (lkF x o F0) (lkF x o H0) ρ σ (lkF x o F) (lkF x o H) :=
  S.swap S.g.lk (by rw [h]; nofun) (fun b hb => ⟨lkF_ne hb, lkF_ne hb, fun z => lkF_none.mpr z⟩) (lk_of h)
theorem lk_back (h : F x = some (.frz o (.dK kvs))) : Lk x kvs F (upd F x (.dK kvs)) := ⟨fun b e => upd_ne e, .inr ⟨o, h⟩, .inl upd_same⟩
theorem Grow.unlk (g : Grow (lkF x o F0) (lkF x o H0) F H) (h0 : ∀ u, F0 x = some u → u = .dK kvs) (h1 : ∀ u, H0 x = some u → u = .dK kvs) (h : F x = some (.frz o (.dK kvs))) : Grow F0 H0 (upd F x (.dK kvs)) (upd H x (.dK kvs)) := by
  refine ⟨fun b u e => ?_, fun b u e => ?_, same_updB g.fh, fun b u e n => ?_⟩
  · by_cases z : b = x
    · subst z; rw [upd_same, h0 u e]
    · rw [upd_ne z]; exact g.f b u (by rw [lkF_ne z]; exact e)
  · by_cases z : b = x
    · subst z; rw [upd_same, h1 u e]
    · rw [upd_ne z]; exact g.h b u (by rw [lkF_ne z]; exact e)
  · by_cases z : b = x
    · subst z
      have := g.sep b (.frz o u) (by rw [lkF_at, e]; rfl) (lkF_none.mpr n)
      rw [h] at this; cases this
    · rw [upd_ne z]
      exact g.sep b u (by rw [lkF_ne z]; exact e) (lkF_none.mpr n)
end
structure EL (c : Cc) (η : Nm) (e : Expr) (ρ : Rho) (ks : List (Str × D)) : Prop where
  run : ∀ F0 H0 σ F H, Stt c.K F0 H0 ρ σ F H → ∃ a kvs, Rd F a (.dK kvs) ∧ RepK c.K F kvs ks ∧ ∀ H' : Hp, (∀ b, b ≠ a → H' b = H b) → ∀ Q : VK, Q (.ref a) H' → WE c η e σ H' Q
theorem el_var (i : Nat) {x : Str} {ks : List (Str × D)} (hρ : ρ[i]? = some (.va (.dic ks))) (hN : η.N[i]? = some x := by rfl) (hv : visB η.sc x = true := by decide +kernel)
    (hd : (x == ("__debug__" : Str)) = false := by decide) (hcd : (x == ("__classdict__" : Str)) = false := by decide) : EL c η (.Name x pos) ρ ks := ⟨fun F0 H0 σ F H S => by
  obtain ⟨u, e1, r⟩ := S.sl i _ hρ
  cases r with
  | @dic a kvs _ h1 h2 => exact ⟨a, kvs, h1, h2, fun H' _ Q q => WE.of (t := tVar i) (fun X hX => pe_var (by rw [hX.N]; exact hN) (by rw [hX.sc]; exact vis_of hv) hd hcd) ⟨_, e1, q⟩⟩⟩
def keysD (ks : List (Str × D)) : List D := ks.map fun k => .str k.1
theorem RepK.len {K : PySem.W.Frag} {F : Hp} : ∀ {kvs : List (Key × V)} {ks : List (Str × D)}, RepK K F kvs ks → kvs.length = ks.length
  | _, _, .nil => rfl
  | _, _, .cons _ r => congrArg (· + 1) r.len
theorem RepK.key {K : PySem.W.Frag} {F : Hp} : ∀ {kvs : List (Key × V)} {ks : List (Str × D)} {i : Nat} {k : Str × D}, RepK K F kvs ks → ks[i]? = some k → ∃ v, kvs[i]? = some (Sum.inr k.1, v)
  | _, _, _, _, .nil, e => by simp at e
  | _, _, 0, _, .cons _ _, e => by simp at e; subst e; exact ⟨_, rfl⟩
  | _, _, i + 1, _, .cons _ r, e => by
    obtain ⟨v, h1⟩ := r.key (i := i) (by simpa using e)
    exact ⟨v, by simpa using h1⟩
theorem yld_keys {K : PySem.W.Frag} {F' : Hp} {x : Addr} {o : PySem.Obj} {kvs : List (Key × V)} {ks : List (Str × D)} (h : F' x = some (.frz o (.dK kvs))) (r : RepK K F' kvs ks) : Yld K (Itk x o kvs) F' (keysD ks) := fun i F H s s' => by
  have hH : H x = some (.frz o (.dK kvs)) := s' _ _ (s _ _ h)
  refine ⟨fun d hd => ?_, fun hi => ⟨hH, by rw [r.len]; simpa [keysD] using hi⟩⟩
  unfold keysD at hd
  rw [List.getElem?_map] at hd
  cases e : ks[i]? with
  | none => rw [e] at hd; cases hd
  | some k =>
    rw [e] at hd
    cases hd
    obtain ⟨v, hv⟩ := r.key e
    refine ⟨⟨hH, (List.getElem?_eq_some_iff.mp hv).1⟩, fun y H3 hy => ?_⟩
    obtain ⟨rfl, k', v', h1, rfl⟩ := hy
    rw [hv] at h1
    cases h1
    exact ⟨F, .refl s', .str _⟩
theorem wi_keys {x : Addr} {o : PySem.Obj} {kvs : List (Key × V)} {tg : Expr} {σ : St} {H : Hp} (hv : ∀ Q : VK, Q (.ref x) H → WE c η e σ H Q) (h : H x = some (.frz o (.dK kvs))) {R : It → Hp → Prop} (q : R (Itk x o kvs) H) : WI c η tg e σ H R :=
  WI.of (t := iKeys (WE c η e)) (fun X hX => pi_keys (WE.pe hX)) (hv _ ⟨x, o, rfl, .inl ⟨kvs, h, q⟩⟩)
end DL

set_option Elab.async false
set_option linter.all false
set_option maxRecDepth 100000
set_option maxHeartbeats 4000000
namespace DL
open PySem L2
section
variable {c : Cc} {η : Nm} {ρ ρ1 ρ2 : Rho} {a b e o : Expr} {es : List Expr} {pos p apos : Pos} {d d1 d2 : D} {ds : List D} {out : Out} {st : Stmt} {rest : List Stmt} {bs : List (List Stmt)}
theorem comp_raw {η' : Nm} {tg it elt : Expr} {ifs : List Expr} {vs : List Nat} {items res : List D} (h : CompD c η' tg elt ifs vs (wipeR ρ vs) items res) (hf : ifs.length ≤ 1) (hl : items.length ≤ 100000)
    {F0 H0 F H : Hp} {σ : St} (S : Stt c.K F0 H0 ρ σ F H) {J : It} {F1 H1 : Hp} (g1 : Grow F H F1 H1) (hw : ∀ R : It → Hp → Prop, R J H1 → WI c η tg it σ H R) (y : Yld c.K J F1 items) {Q : VK} (q : ∀ a F' H', Grow F H F' H' → F' a = none → H a = none → Obj c.K F' (H' a) (.lst res) → Q (.ref a) H') : tComp c η η' tg it elt ifs vs σ H Q := by
  refine hw _ fun A hA => ?_
  have S1 := (S.grow g1).wipe vs
  have out_ne : ∀ (i : Nat) (d : D) (b : Addr), (wipeR ρ vs)[i]? = some (.ow d) → (wipe σ vs)[i]? = some (some (.ref b)) → b ≠ A := fun i d b e1 e2 => by
    obtain ⟨⟨u, hu⟩, _⟩ := S1.own_there e1 e2
    exact ne_of_none hu hA
  have out_w : ∀ e, (A, e) ∉ (wipeR ρ vs).w := fun e h => by
    obtain ⟨_, _, o⟩ := S1.w.ob A e h
    obtain ⟨u, hu⟩ := o.some
    rw [hA] at hu; cases hu
  -- W: what is made so far at A, what is left of the items makes the rest
  refine ⟨fun i m H2 => m = items.length - i ∧ ∃ F2 done rest xs, Stt c.K F0 H0 (wipeR ρ vs) (wipe σ vs) F2 H2 ∧ Same F1 F2 ∧ (∀ a o, H a = some o → F a = none → F2 a = none) ∧ Same H H2 ∧ F2 A = none ∧ H2 A = some (.lst xs) ∧ RepL c.K F2 xs done ∧ done.length ≤ i ∧ res = done ++ rest ∧ CompD c η' tg elt ifs vs (wipeR ρ vs) (items.drop i) rest, ?_, ?_⟩
  · refine ⟨_, rfl, F1, [], res, [], S1.beside (g1.fh.free hA) (S1.g.h.free hA) out_ne out_w, Same.refl F1, g1.sep, g1.h.trans (same_upd hA), g1.fh.free hA, upd_same, .nil, Nat.zero_le _, rfl, by rw [List.drop_zero]; exact h⟩
  · rintro i m H2 ⟨rfl, F2, done, rest, xs, S2, s2, sep2, h2, n2, e2, r2, dl, er, h⟩
    obtain ⟨y1, y2⟩ := y i F2 H2 s2 S2.fh
    by_cases hi : i < items.length
    · obtain ⟨e1, e3⟩ : items[i]? = some items[i] ∧ items.drop i = items[i] :: items.drop (i + 1) := ⟨List.getElem?_eq_getElem hi, List.drop_eq_getElem_cons hi⟩
      obtain ⟨go, yl⟩ := y1 _ e1
      rw [e3] at h
      refine .inr ⟨go, fun H' => ∃ m', m' < items.length - i ∧ (m' = items.length - (i + 1) ∧ ∃ F2 done rest xs, Stt c.K F0 H0 (wipeR ρ vs) (wipe σ vs) F2 H' ∧ Same F1 F2 ∧ (∀ a o, H a = some o → F a = none → F2 a = none) ∧ Same H H' ∧ F2 A = none ∧ H' A = some (.lst xs) ∧ RepL c.K F2 xs done ∧ done.length ≤ i + 1 ∧ res = done ++ rest ∧ CompD c η' tg elt ifs vs (wipeR ρ vs) (items.drop (i + 1)) rest), fun H' z => z, fun x H3 hx => ?_⟩
      obtain ⟨F3, g3, r3⟩ := yl x H3 hx
      have hA0 : H A = none := g1.h.free hA
      have keepA : ∀ {Fa Ha : Hp}, Grow F2 H2 Fa Ha → Fa A = none ∧ Ha A = some (.lst xs) := fun g => ⟨g.sep A _ e2 n2, g.h A _ e2⟩
      cases h with
      | @keep _ d' _ rest' is ρ1 ht hsub hif hel hr =>
        refine ht.run F0 H0 _ F3 H3 x (S2.grow g3) r3 _ fun σ' S' hlen hsame => ⟨wipe_eq hlen hsame hsub, ?_⟩
        have goon : ∀ F4 H4, Grow F3 H3 F4 H4 → (if true = true then WE c η' elt σ' H4 fun y H4 => ∃ acc, H4 A = some (.lst acc) ∧ acc.length < sizeLine ∧ (fun H' => ∃ m', m' < items.length - i ∧ (m' = items.length - (i + 1) ∧ ∃ F2 done rest xs, Stt c.K F0 H0 (wipeR ρ vs) (wipe σ vs) F2 H' ∧ Same F1 F2 ∧ (∀ a o, H a = some o → F a = none → F2 a = none) ∧ Same H H' ∧ F2 A = none ∧ H' A = some (.lst xs) ∧ RepL c.K F2 xs done ∧ done.length ≤ i + 1 ∧ res = done ++ rest ∧ CompD c η' tg elt ifs vs (wipeR ρ vs) (items.drop (i + 1)) rest)) (upd H4 A (.lst (acc ++ [y]))) else False) := fun F4 H4 g4 => by
          rw [if_pos rfl]
          refine hel.run F0 H0 σ' F4 H4 (S'.grow g4) _ fun v F5 H5 g5 r5 => ?_
          have g25 := (g3.trans g4).trans g5
          obtain ⟨n5, e5⟩ := keepA g25
          have S5 := S2.grow g25
          refine ⟨xs, e5, ?_, _, by omega, rfl, F5, done ++ [d'], rest', xs ++ [v], S5.beside n5 (S.g.h.free hA0) out_ne out_w, s2.trans g25.f, fun a o z1 z2 => g25.sep a o (h2 a o z1) (sep2 a o z1 z2), fun a o z => by rw [upd_ne (ne_of_none z hA0)]; exact (h2.trans g25.h) a o z, n5, upd_same, (r2.mono g25.f).append (.cons r5 .nil), by rw [List.length_append, List.length_cons, List.length_nil]; omega, by rw [er, List.append_assoc]; rfl, hr⟩
          rw [r2.length]
          exact Nat.lt_of_lt_of_le (show done.length < 100000 by omega) (by decide)
        cases ifs with
        | nil => exact goon F3 H3 (.refl g3.fh)
        | cons t tl =>
          cases tl with
          | nil => exact (hif t rfl).run F0 H0 σ' F3 H3 S' _ fun F4 H4 g4 => goon F4 H4 g4
          | cons _ _ => simp at hf
      | @skip _ _ _ is ρ1 t ht hsub hif hte hr =>
        refine ht.run F0 H0 _ F3 H3 x (S2.grow g3) r3 _ fun σ' S' hlen hsame => ⟨wipe_eq hlen hsame hsub, ?_⟩
        subst hif
        refine hte.run F0 H0 σ' F3 H3 S' _ fun F4 H4 g4 => ?_
        rw [if_neg Bool.false_ne_true]
        have g24 := g3.trans g4
        obtain ⟨n4, e4⟩ := keepA g24
        exact ⟨_, by omega, rfl, F4, done, rest, xs, S2.grow g24, s2.trans g24.f, fun a o z1 z2 => g24.sep a o (h2 a o z1) (sep2 a o z1 z2), h2.trans g24.h, n4, e4, r2.mono g24.f, by omega, er, hr⟩
    · rw [List.drop_eq_nil_of_le (by omega)] at h
      cases h
      rw [List.append_nil] at er
      subst er
      refine .inl ⟨y2 (by omega), q A F2 H2 ⟨g1.f.trans s2, h2, S2.fh, sep2⟩ n2 (g1.h.free hA) (.inl ⟨xs, _, e2, rfl, r2⟩)⟩
theorem eo_compK {elt tg it : Expr} {ifs : List Expr} {scope : Scope} (own : List (Str × Nat)) {ks : List (Str × D)} {res : List D} (hN : η.N.Nodup) (hi : EL c η it ρ ks) (h : CompD c (η.blk scope) tg elt ifs (own.map (·.2)) (wipeR ρ (own.map (·.2))) (keysD ks) res) (hl : ks.length ≤ 100000) (hf : ifs.length ≤ 1 := by decide)
    (ok : blkC η.N η.sc scope own = true := by decide +kernel) (hfs : isSetD it = false := by rfl) : EO c η (.ListComp elt [⟨tg, it, ifs, 0⟩] scope pos) ρ (.lst res) := ⟨fun F0 H0 σ F H S Q q => by
  obtain ⟨x, kvs, rd, r, hv⟩ := hi.run F0 H0 σ F H S
  have hl' : (keysD ks).length ≤ 100000 := by unfold keysD; rw [List.length_map]; exact hl
  rcases rd with rd | ⟨o, rd⟩
  · refine WE.of (t := tLockE (tComp c η (η.blk scope) tg it elt ifs (own.map (·.2)))) (fun X hX => pe_lock (pe_comp hX hN hf ok hfs)) ⟨x, .dK kvs, S.fh _ _ rd, trivial, fun od => ?_⟩
    have S1 := S.lock (o := od) rd
    rw [← lkF_upd (S.fh _ _ rd)]
    have hF : lkF x od F x = some (.frz od (.dK kvs)) := by rw [lkF_at, rd]; rfl
    refine comp_raw (items := keysD ks) h hf hl' S1 (.refl S1.fh) (fun R q => wi_keys (fun Q q => hv _ (fun b hb => lkF_ne hb) Q q) (S1.fh _ _ hF) q) (yld_keys hF ((lk_of rd).repK r)) fun A F' H' g n n0 ob => ?_
    have hF' := g.f _ _ hF
    have ne : A ≠ x := fun z => by subst z; rw [n] at hF'; cases hF'
    refine ⟨g.fh _ _ hF', q A (upd F' x (.dK kvs)) (upd H' x (.dK kvs)) (g.unlk (fun u e => ?_) (fun u e => ?_) hF') (by rw [upd_ne ne]; exact n) (lkF_none.mp n0) (by rw [upd_ne ne]; exact (lk_back hF').obj ob)⟩
    · rw [rd] at e; cases e; rfl
    · rw [S.fh _ _ rd] at e; cases e; rfl
  · refine WE.of (fun X hX => pe_comp hX hN hf ok hfs) ?_
    exact comp_raw (items := keysD ks) h hf hl' S (.refl S.fh) (fun R q => wi_keys (fun Q q => hv _ (fun b hb => rfl) Q q) (S.fh _ _ rd) q) (yld_keys rd r) q⟩
theorem s1_forT (n : Nat) {tg it : Expr} {body : List Stmt} (ρs : Nat → Rho) (hi : ID c η tg it (ρs 0) ds) (hlen' : ds.length = n) (h0 : leR (ρs 0) ρ) (h : ∀ i d, ds[i]? = some d → ∃ is ρ1, TD c η tg d is (ρs i) ρ1 ∧ SD c η [body] ρ1 (.nx (ρs (i + 1)))) (hf : isSetD it = false := by rfl) : S1 c η (.For tg it body [] pos) ρ (.nx (ρs n)) := by
  subst hlen'
  have := for_nx (c := c) (η := η) (tg := tg) (body := body) ρs ds 0 fun i d hd => by rw [Nat.zero_add]; exact h i d hd
  rw [Nat.zero_add] at this
  exact s1_pre (s1_for hi this hf) h0
end
end DL

set_option Elab.async false
set_option linter.all false
set_option maxRecDepth 100000
set_option maxHeartbeats 4000000
namespace DL
open PySem L2
theorem rangeD_inv {lo : Int} {n i : Nat} {d : D} (h : (rangeD lo n)[i]? = some d) : i < n ∧ d = .int (lo + (i : Nat)) := by
  rw [rangeD_get] at h
  split at h
  · rename_i hi
    cases h
    exact ⟨hi, rfl⟩
  · cases h
theorem rangeD_len (lo : Int) (n : Nat) : (rangeD lo n).length = n := by unfold rangeD; rw [List.length_map, List.length_range]
theorem up_succ (f : Nat → Str) (i : Nat) : ((List.range (i + 1)).map f).map D.str = ((List.range i).map f).map D.str ++ [.str (f i)] := by
  rw [List.range_succ, List.map_append, List.map_append]; rfl
theorem cutL_map {α β : Type} (f : α → β) (xs : List α) (lo hi : Option Int) : cutL (xs.map f) lo hi = (cutL xs lo hi).map f := by
  unfold cutL
  rw [List.length_map, List.map_take, List.map_drop]
theorem cutL_len {α : Type} (xs : List α) (lo hi : Option Int) : (cutL xs lo hi).length ≤ xs.length := by
  unfold cutL
  rw [List.length_take, List.length_drop]
  omega
theorem not_dec {p : Prop} [Decidable p] (h : (!decide p) = true) : ¬ p := by simpa using h
theorem not_dec' {p : Prop} [Decidable p] (h : (!decide p) = false) : p := by simpa using h
def wholeD : D → Bool
  | .int _ => true
  | _ => false
def cellAt (ns : List Int) (k : Int) : Int := if k < (ns.length : Int) then ns.getD k.toNat 0 else 0
def mixed (x k : Int) : Int := ((x + 7 * k + 3) * 48271 % 2147483647) * ((x + 7 * k + 3) * 48271 % 2147483647) % 2147483647
inductive Th where
  | num (i : Int) | box (x : Str)
def Th.d : Th → D
  | .num i => .int i
  | .box x => .str x
def lawThing (n : Int) (own : Str) (names : List Str) : Th :=
  if n % 2 = 0 ∧ names.getD (n / 2 % 5).toNat default ≠ own then .box (names.getD (n / 2 % 5).toNat default) else .num ([n / 2 % 4, n / 2 % 1000, n / 2 % 1000000, 999999 - n / 2 % 3].getD (n / 20 % 4).toNat 0)
inductive Ak where
  | lt | eq | ge | ne
  deriving DecidableEq, Inhabited
inductive Sg where
  | plus | minus | times | ask (a : Ak)
  deriving DecidableEq
instance : Inhabited Sg := ⟨.plus⟩
def Ak.str : Ak → Str
  | .lt => "<" | .eq => "=" | .ge => ">=" | .ne => "!="
def Sg.str : Sg → Str
  | .plus => "+" | .minus => "-" | .times => "*" | .ask a => a.str
def sgs : List Sg := [.plus, .minus, .times, .ask .lt, .ask .eq, .ask .ge, .ask .ne]
def aks : List Ak := [.lt, .eq, .ge, .ne]
theorem sg_at : ∀ j : Nat, j < 7 → (["+", "-", "*", "<", "=", ">=", "!="] : List Str).getD j default = (sgs.getD j default).str := by decide +kernel
theorem ak_at : ∀ j : Nat, j < 4 → (["<", "=", ">=", "!="] : List Str).getD j default = (aks.getD j default).str := by decide +kernel
inductive Sm where
  | one (a : Th) | op (s : Sg) (a b : Th)
def Sm.d : Sm → D
  | .one a => .tup [a.d]
  | .op s a b => .tup [.str s.str, a.d, b.d]
structure Qn where
  s : Ak
  a : Th
  b : Th
def Qn.d (q : Qn) : D := .tup [.str q.s.str, q.a.d, q.b.d]
def lawSum (n : Int) (own : Str) (names : List Str) : Sm :=
  if n % 8 = 0 then .one (lawThing (n / 8) own names) else .op (sgs.getD (n % 8 - 1).toNat default) (lawThing (n / 8) own names) (lawThing (n / 640) own names)
def lawQuestion (n : Int) (names : List Str) : Qn := ⟨aks.getD (n % 4).toNat default, lawThing (n / 4) "" names, lawThing (n / 320) "" names⟩
abbrev Bx := List (Str × Int)
def bxD (bx : Bx) : List (Str × D) := bx.map fun p => (p.1, .int p.2)
def lookI : Bx → Str → Option Int
  | [], _ => none
  | (y, i) :: r, x => if y = x then some i else lookI r x
def hasI (bx : Bx) (x : Str) : Bool := bx.any fun p => decide (p.1 = x)
def putI (bx : Bx) (x : Str) (i : Int) : Bx := if hasI bx x then bx.map fun p => if p.1 = x then (p.1, i) else p else bx ++ [(x, i)]
theorem lookD_bx (x : Str) : ∀ bx : Bx, lookD (bxD bx) x = (lookI bx x).map .int
  | [] => rfl
  | (y, i) :: r => by
    show (if y = x then some (D.int i) else lookD (bxD r) x) = (if y = x then some i else lookI r x).map .int
    rw [lookD_bx x r]
    split <;> rfl
theorem putD_bx (bx : Bx) (x : Str) (i : Int) : putD (bxD bx) x (.int i) = bxD (putI bx x i) := by
  unfold putD putI
  have e : hasD (bxD bx) x = hasI bx x := by
    unfold hasD hasI bxD
    rw [List.any_map]
    rfl
  rw [e]
  split
  · unfold bxD
    rw [List.map_map, List.map_map]
    refine List.map_congr_left fun p _ => ?_
    show (if p.1 = x then (p.1, D.int i) else (p.1, D.int p.2)) = ((if p.1 = x then (p.1, i) else p).1, D.int (if p.1 = x then (p.1, i) else p).2)
    split <;> rfl
  · unfold bxD
    rw [List.map_append]
    rfl
def getI (bx : Bx) (x : Str) : Int := (lookI bx x).getD 0
theorem lookI_put (bx : Bx) (x y : Str) (i : Int) : lookI (putI bx x i) y = if y = x then some i else lookI bx y := by
  have h := lookD_put (bxD bx) x y (.int i)
  rw [putD_bx, lookD_bx, lookD_bx] at h
  split at h
  · rename_i e
    rw [if_pos e]
    cases z : lookI (putI bx x i) y with
    | none => rw [z] at h; cases h
    | some j => rw [z] at h; cases h; rfl
  · rename_i e
    rw [if_neg e]
    cases z : lookI (putI bx x i) y with
    | none =>
      rw [z] at h
      cases z2 : lookI bx y with
      | none => rfl
      | some j => rw [z2] at h; cases h
    | some j =>
      rw [z] at h
      cases z2 : lookI bx y with
      | none => rw [z2] at h; cases h
      | some j2 => rw [z2] at h; cases h; rfl
theorem getI_put (bx : Bx) (x y : Str) (i : Int) : getI (putI bx x i) y = if y = x then i else getI bx y := by
  unfold getI
  rw [lookI_put]
  split <;> rfl
def BxOk (bx : Bx) : Prop := ∀ p ∈ bx, 0 ≤ p.2 ∧ p.2 < 1000000
theorem BxOk.look {bx : Bx} (h : BxOk bx) {x : Str} {i : Int} (e : lookI bx x = some i) : 0 ≤ i ∧ i < 1000000 := by
  induction bx with
  | nil => cases e
  | cons p r ih =>
    obtain ⟨y, j⟩ := p
    simp only [lookI] at e
    split at e
    · cases e; exact h (y, _) List.mem_cons_self
    · exact ih (fun q hq => h q (List.mem_cons_of_mem _ hq)) e
theorem BxOk.get {bx : Bx} (h : BxOk bx) (x : Str) : 0 ≤ getI bx x ∧ getI bx x < 1000000 := by
  unfold getI
  cases e : lookI bx x with
  | none => exact ⟨by decide, by decide⟩
  | some i => exact h.look e
theorem BxOk.put {bx : Bx} (h : BxOk bx) (x : Str) {i : Int} (hi : 0 ≤ i ∧ i < 1000000) : BxOk (putI bx x i) := by
  unfold putI
  split
  · intro p hp
    rw [List.mem_map] at hp
    obtain ⟨q, hq, rfl⟩ := hp
    split
    · exact hi
    · exact h q hq
  · intro p hp
    rw [List.mem_append, List.mem_singleton] at hp
    rcases hp with hp | rfl
    · exact h p hp
    · exact hi
def Th.ok : Th → Prop
  | .num i => 0 ≤ i ∧ i < 1000000
  | .box _ => True
def Th.val (bx : Bx) : Th → Int
  | .num i => i
  | .box x => getI bx x
def Ak.holds : Ak → Int → Int → Bool
  | .lt, i, j => decide (i < j)
  | .eq, i, j => decide (i = j)
  | .ge, i, j => decide (j ≤ i)
  | .ne, i, j => !decide (i = j)
def Qn.asked (bx : Bx) (q : Qn) : Bool := q.s.holds (q.a.val bx) (q.b.val bx)
def Sm.reck (bx : Bx) : Sm → Int
  | .one a => a.val bx
  | .op .plus a b => (a.val bx + b.val bx) % 1000000
  | .op .minus a b => (a.val bx - b.val bx) % 1000000
  | .op .times a b => a.val bx * b.val bx % 1000000
  | .op (.ask s) a b => if s.holds (a.val bx) (b.val bx) then 1 else 0
def Sm.ok : Sm → Prop
  | .one a => a.ok
  | .op _ a b => a.ok ∧ b.ok
def Qn.ok (q : Qn) : Prop := q.a.ok ∧ q.b.ok
theorem getD4 {a b c d : Int} {k : Nat} {P : Int → Prop} (h : k < 4) (ha : P a) (hb : P b) (hc : P c) (hd : P d) : P ([a, b, c, d].getD k 0) := by
  match k, h with
  | 0, _ => exact ha
  | 1, _ => exact hb
  | 2, _ => exact hc
  | 3, _ => exact hd
theorem lawThing_ok (n : Int) (own : Str) (names : List Str) : (lawThing n own names).ok := by
  unfold lawThing
  split
  · exact trivial
  · exact getD4 (P := fun i => 0 ≤ i ∧ i < 1000000) (by omega) (by omega) (by omega) (by omega) (by omega)
theorem lawSum_ok (n : Int) (own : Str) (names : List Str) : (lawSum n own names).ok := by
  unfold lawSum
  split
  · exact lawThing_ok _ _ _
  · exact ⟨lawThing_ok _ _ _, lawThing_ok _ _ _⟩
theorem lawQuestion_ok (n : Int) (names : List Str) : (lawQuestion n names).ok := ⟨lawThing_ok _ _ _, lawThing_ok _ _ _⟩
def ltr (i : Int) : Str := ⟨#[("abcdefghijklmnopqrstuvwxyz" : Str).cps.toList.getD i.toNat 0]⟩
def lawTail (x : Int) : Str := Txt.join "" ((List.range 6).map fun j => ltr ((x / 72 + 5 * (0 + (j : Nat)) + 1) % 26))
def lawSize (x : Int) : Int := ([1, 3, 4, 5, 6] : List Int).getD (x / 3 % 5).toNat 0
def lawWord (x : Int) (i : Nat) : Str :=
  if x % 3 = 1 then cutS (lawTail x) none (some (x / 15 % lawSize x)) ++ ltr ((x / 72 + 5 * (0 + (i : Nat))) % 26) ++ cutS (lawTail x) (some (x / 15 % lawSize x + 1)) (some (lawSize x))
  else if x % 3 = 2 then ltr ((x / 72 + 7 * ((0 + (i : Nat)) / 4)) % 26) ++ cutS ("4" ++ lawTail x) none (some ((0 + (i : Nat)) % 4 + x / 18 % 3))
  else if 0 < (x / 26 + (0 + (i : Nat))) % 6 then ltr ((x / 72 + 5 * (0 + (i : Nat))) % 26) ++ toString ((x + (0 + (i : Nat))) % 10) ++ cutS (lawTail x) none (some ((x / 26 + (0 + (i : Nat))) % 6 - 1))
  else ltr ((x / 72 + 5 * (0 + (i : Nat))) % 26)
theorem lawWord_1 {x : Int} (h : x % 3 = 1) (i : Nat) : lawWord x i = cutS (lawTail x) none (some (x / 15 % lawSize x)) ++ ltr ((x / 72 + 5 * (0 + (i : Nat))) % 26) ++ cutS (lawTail x) (some (x / 15 % lawSize x + 1)) (some (lawSize x)) := by
  unfold lawWord; rw [if_pos h]
theorem lawWord_2 {x : Int} (h1 : ¬ x % 3 = 1) (h : x % 3 = 2) (i : Nat) : lawWord x i = ltr ((x / 72 + 7 * ((0 + (i : Nat)) / 4)) % 26) ++ cutS ("4" ++ lawTail x) none (some ((0 + (i : Nat)) % 4 + x / 18 % 3)) := by
  unfold lawWord; rw [if_neg h1, if_pos h]
theorem lawWord_3 {x : Int} (h1 : ¬ x % 3 = 1) (h2 : ¬ x % 3 = 2) (i : Nat) (h : 0 < (x / 26 + (0 + (i : Nat))) % 6) : lawWord x i = ltr ((x / 72 + 5 * (0 + (i : Nat))) % 26) ++ toString ((x + (0 + (i : Nat))) % 10) ++ cutS (lawTail x) none (some ((x / 26 + (0 + (i : Nat))) % 6 - 1)) := by
  unfold lawWord; rw [if_neg h1, if_neg h2, if_pos h]
theorem lawWord_4 {x : Int} (h1 : ¬ x % 3 = 1) (h2 : ¬ x % 3 = 2) (i : Nat) (h : ¬ 0 < (x / 26 + (0 + (i : Nat))) % 6) : lawWord x i = ltr ((x / 72 + 5 * (0 + (i : Nat))) % 26) := by
  unfold lawWord; rw [if_neg h1, if_neg h2, if_neg h]
theorem lawTail_eq (x : Int) : lawTail x = ltr ((x / 72 + 5 * (0 + (0 : Nat)) + 1) % 26) ++ ltr ((x / 72 + 5 * (0 + (1 : Nat)) + 1) % 26) ++ ltr ((x / 72 + 5 * (0 + (2 : Nat)) + 1) % 26) ++ ltr ((x / 72 + 5 * (0 + (3 : Nat)) + 1) % 26) ++ ltr ((x / 72 + 5 * (0 + (4 : Nat)) + 1) % 26) ++ ltr ((x / 72 + 5 * (0 + (5 : Nat)) + 1) % 26) := by rfl
instance {i : Int} : Sz (ltr i) 1 := ⟨Nat.le_refl _⟩
theorem ltr_len (i : Int) : (ltr i).length = 1 := rfl
theorem lawTail_len (x : Int) : (lawTail x).length = 6 := by rw [lawTail_eq]; simp only [len_append, ltr_len]
instance {x : Int} : Sz (lawTail x) 6 := ⟨Nat.le_of_eq (lawTail_len x)⟩
theorem lawSize_mem : ∀ j : Nat, j < 5 → 1 ≤ ([1, 3, 4, 5, 6] : List Int).getD j 0 ∧ ([1, 3, 4, 5, 6] : List Int).getD j 0 ≤ 6 := by decide
theorem lawSize_ok (x : Int) : 1 ≤ lawSize x ∧ lawSize x ≤ 6 := lawSize_mem _ (by omega)
def lawSpecial : List Str := ["ifx", "fix", "undone", "pulled", "pushes", "blocks", "loops", "put", "swap", "round"]
def lawNames0 (x : Int) : List Str := (List.range 12).map (lawWord x)
def lawNames1 (x : Int) : List Str := if x % 5 = 3 ∧ lawSpecial.getD (x / 40 % 10).toNat default ∉ lawNames0 x then (lawNames0 x).set (x / 5 % 8).toNat (lawSpecial.getD (x / 40 % 10).toNat default) else lawNames0 x
def lawNames (x : Int) : List Str := if x % 7 = 2 then cutL (lawNames1 x) none (some 8) ++ cutL (lawNames1 x) none (some 4) else lawNames1 x
theorem lawNames1_pos {x : Int} (h : x % 5 = 3) (h2 : lawSpecial.getD (x / 40 % 10).toNat default ∉ lawNames0 x) : lawNames1 x = (lawNames0 x).set (x / 5 % 8).toNat (lawSpecial.getD (x / 40 % 10).toNat default) := by
  unfold lawNames1; rw [if_pos ⟨h, h2⟩]
theorem lawNames1_neg {x : Int} (h : ¬ (x % 5 = 3 ∧ lawSpecial.getD (x / 40 % 10).toNat default ∉ lawNames0 x)) : lawNames1 x = lawNames0 x := by
  unfold lawNames1; rw [if_neg h]
theorem lawNames0_len (x : Int) : (lawNames0 x).length = 12 := by unfold lawNames0; rw [List.length_map, List.length_range]
theorem lawNames1_len (x : Int) : (lawNames1 x).length = 12 := by
  unfold lawNames1
  split
  · rw [List.length_set, lawNames0_len]
  · exact lawNames0_len x
theorem cut_to {α : Type} (xs : List α) (k : Nat) (h : k ≤ xs.length) : cutL xs none (some (k : Int)) = xs.take k := by
  unfold cutL
  rw [HT.sIx_none, HT.sIx_nat, Nat.min_eq_left h]
  simp
theorem lawNames_len (x : Int) : (lawNames x).length = 12 := by
  unfold lawNames
  have h := lawNames1_len x
  split
  · rw [List.length_append]
    rw [show ((8 : Int)) = ((8 : Nat) : Int) from rfl, show ((4 : Int)) = ((4 : Nat) : Int) from rfl, cut_to _ 8 (by omega), cut_to _ 4 (by omega), List.length_take, List.length_take]
    omega
  · exact h
def TAKENs : List Str := ["block", "if", "else", "fi", "from", "loop", "until", "call", "undo", "push", "pull"]
def smallD : D → Prop
  | .ty _ => False
  | .ref _ => False
  | .ins _ _ _ _ => False
  | .exc _ _ _ => False
  | .str z => z.length ≤ 100000
  | _ => True
def isNameS (z : Str) : Bool := ((decide (1 ≤ (z.length : Int)) && decide ((z.length : Int) ≤ 6)) && !decide (z ∈ TAKENs)) && (decide (z.cps.toList.getD (0 : Int).toNat 0 ∈ ("abcdefghijklmnopqrstuvwxyz" : Str).cps.toList) && (z.cps.toList.map fun n => decide (n ∈ (("abcdefghijklmnopqrstuvwxyz" : Str) ++ ("0123456789" : Str)).cps.toList)).all id)
theorem name_and {a b : Bool} (h : (!true || (!a || b)) = false) : a = true ∧ b = false := by cases a <;> cases b <;> simp_all
theorem isNameS_out {z : Str} (h : (!true || (!(decide (1 ≤ (z.length : Int)) && decide ((z.length : Int) ≤ 6)) || inD (.str z) (TAKENs.map .str))) = true) : isNameS z = false := by
  rw [inD_strs] at h
  unfold isNameS
  generalize (decide (1 ≤ (z.length : Int)) && decide ((z.length : Int) ≤ 6)) = a at h ⊢
  generalize decide (z ∈ TAKENs) = b at h ⊢
  cases a <;> cases b <;> first | rfl | exact absurd h (by decide)
theorem isNameS_in {z : Str} (h : (!true || (!(decide (1 ≤ (z.length : Int)) && decide ((z.length : Int) ≤ 6)) || inD (.str z) (TAKENs.map .str))) = false) : isNameS z = (decide (z.cps.toList.getD (0 : Int).toNat 0 ∈ ("abcdefghijklmnopqrstuvwxyz" : Str).cps.toList) && (z.cps.toList.map fun n => decide (n ∈ (("abcdefghijklmnopqrstuvwxyz" : Str) ++ ("0123456789" : Str)).cps.toList)).all id) := by
  rw [inD_strs] at h
  unfold isNameS
  generalize (decide (1 ≤ (z.length : Int)) && decide ((z.length : Int) ≤ 6)) = a at h ⊢
  generalize decide (z ∈ TAKENs) = b at h ⊢
  cases a <;> cases b <;> first | rfl | exact absurd h (by decide)
def isNameD : D → Bool
  | .str z => isNameS z
  | _ => false
def isNumD : D → Bool
  | .int i => decide (0 ≤ i) && decide (i < 1000000)
  | _ => false
theorem smallD.ty {d : D} (h : smallD d) : d.tyn ≠ "type" := by
  cases d <;> first | (simp [D.tyn]; done) | exact False.elim h
end DL

set_option Elab.async false
set_option linter.all false
set_option maxRecDepth 100000
set_option maxHeartbeats 4000000
namespace DL
open PySem L2
inductive Row where
  | put (x : Str) (plus : Bool) (m : Sm) | swap (x y : Str) | push (x : Str) | pull (x : Str)
  | iff (q1 : Qn) (a b : List Row) (q2 : Qn) | round (q1 : Qn) (a b : List Row) (q2 : Qn)
  | call (x : Str) | undo (x : Str)
def pmS (plus : Bool) : Str := if plus then "+" else "-"
mutual
def Row.d : Row → D
  | .put x s m => .tup [.str "put", .str x, .str (pmS s), m.d]
  | .swap x y => .tup [.str "swap", .str x, .str y]
  | .push x => .tup [.str "push", .str x]
  | .pull x => .tup [.str "pull", .str x]
  | .iff q1 a b q2 => .tup [.str "if", q1.d, .lst (rowsD a), .lst (rowsD b), q2.d]
  | .round q1 a b q2 => .tup [.str "round", q1.d, .lst (rowsD a), .lst (rowsD b), q2.d]
  | .call x => .tup [.str "call", .str x]
  | .undo x => .tup [.str "undo", .str x]
def rowsD : List Row → List D
  | [] => []
  | r :: rs => r.d :: rowsD rs
end
theorem rowsD_map : ∀ rs : List Row, rowsD rs = rs.map Row.d
  | [] => by rw [rowsD]; rfl
  | r :: rs => by rw [rowsD, rowsD_map rs]; rfl
abbrev Prog := List (Str × List Row)
def progD (pr : Prog) : List D := pr.map fun b => .tup [.str b.1, .lst (rowsD b.2)]
def blocksD (pr : Prog) : List (Str × D) := pr.map fun b => (b.1, .lst (rowsD b.2))
structure Plc where
  x : Str
  is : List Int
def Plc.d (p : Plc) : D := .tup (.str p.x :: p.is.map .int)
def Plc.at (p : Plc) (i : Int) : Plc := ⟨p.x, p.is ++ [i]⟩
inductive Tk where
  | row (r : Row) (p : Plc) (back : Bool) | last (r : Row) (p : Plc) (back truth : Bool) | body (r : Row) (p : Plc) (back : Bool) | again (r : Row) (p : Plc) (back : Bool) | leave
def Tk.d : Tk → D
  | .row r p b => .tup [.str "row", r.d, p.d, .bl b]
  | .last r p b t => .tup [.str "last", r.d, p.d, .bl b, .bl t]
  | .body r p b => .tup [.str "body", r.d, p.d, .bl b]
  | .again r p b => .tup [.str "back", r.d, p.d, .bl b]
  | .leave => .tup [.str "leave"]
inductive Wd where
  | long | against | deep
def Wd.str : Wd → Str
  | .long => "long" | .against => "against" | .deep => "deep"
def optD {α : Type} (f : α → D) : Option α → D
  | none => .non
  | some a => f a
structure Gs where
  blocks : Prog
  boxes : Bx
  pile : List Int
  steps : Int
  most : Int
  calls : Int
  todo : List Tk
  word : Option Wd
  place : Option Plc
def Gs.over (g : Gs) (w : Wd) (p : Option Plc) : Gs := { g with word := some w, place := p, todo := [] }
def Gs.may (g : Gs) : Bool × Gs := if g.steps = g.most then (false, g.over .long none) else (true, { g with steps := g.steps + 1 })
def dueAt (rows : List Row) (p : Plc) (back : Bool) (k : Nat) : Tk := let a := if back then k else rows.length - 1 - k; .row (rows.getD a (.call "")) (p.at (a : Nat)) back
def dueL (rows : List Row) (p : Plc) (back : Bool) : List Tk := (List.range rows.length).map (dueAt rows p back)
def Gs.due (g : Gs) (rows : List Row) (p : Plc) (back : Bool) : Gs := { g with todo := g.todo ++ dueL rows p back }
def Gs.wants (g : Gs) (q : Qn) (p : Plc) (due : Bool) : Bool × Gs :=
  if g.may.1 = true then (if q.asked g.may.2.boxes = due then (true, g.may.2) else (false, g.may.2.over .against (some p))) else (false, g.may.2)
def Row.q1 : Row → Qn
  | .iff q _ _ _ => q | .round q _ _ _ => q | _ => ⟨.lt, .num 0, .num 0⟩
def Row.q2 : Row → Qn
  | .iff _ _ _ q => q | .round _ _ _ q => q | _ => ⟨.lt, .num 0, .num 0⟩
def Row.ra : Row → List Row
  | .iff _ a _ _ => a | .round _ a _ _ => a | _ => []
def Row.rb : Row → List Row
  | .iff _ _ b _ => b | .round _ _ b _ => b | _ => []
def Row.asks : Row → Bool
  | .iff .. => true | .round .. => true | _ => false
def firstQ (r : Row) (back : Bool) : Qn := if back then r.q2 else r.q1
def lastQ (r : Row) (back : Bool) : Qn := if back then r.q1 else r.q2
def Gs.bodyDue (g : Gs) (r : Row) (p : Plc) (back : Bool) : Gs := ({ g with todo := g.todo ++ [.body r p back] } : Gs).due r.ra (p.at 0) back
def Gs.behind (g : Gs) (r : Row) (p : Plc) (back : Bool) : Gs :=
  if g.may.1 = true then (if (lastQ r back).asked g.may.2.boxes = true then g.may.2 else ({ g.may.2 with todo := g.may.2.todo ++ [.again r p back] } : Gs).due r.rb (p.at 1) back) else g.may.2
def plainDone (boxes : Bx) (pile : List Int) (r : Row) (back : Bool) : Option (Bx × List Int) :=
  match r with
  | .put x s m => some (putI boxes x ((getI boxes x + (if back ≠ !s then 0 - m.reck boxes else m.reck boxes)) % 1000000), pile)
  | .swap x y => some (putI (putI boxes x (getI boxes y)) y (getI boxes x), pile)
  | .push x => if back then (if pile = [] ∨ getI boxes x ≠ 0 then none else some (putI boxes x (pile.getLastD 0), pile.dropLast)) else some (putI boxes x 0, pile ++ [getI boxes x])
  | .pull x => if back then some (putI boxes x 0, pile ++ [getI boxes x]) else (if pile = [] ∨ getI boxes x ≠ 0 then none else some (putI boxes x (pile.getLastD 0), pile.dropLast))
  | _ => some (boxes, pile)
def rowsOf (pr : Prog) (x : Str) : List Row := ((pr.find? fun b => b.1 = x).map (·.2)).getD []
def Gs.enter (g : Gs) (x : Str) (undo : Bool) (p : Plc) (back : Bool) : Gs :=
  if g.calls = 10 then g.over .deep (some p)
  else ({ g with calls := g.calls + 1, todo := g.todo ++ [.leave] } : Gs).due (rowsOf g.blocks x) ⟨x, []⟩ (back != undo)
def Gs.begun (g : Gs) (r : Row) (p : Plc) (back : Bool) : Gs :=
  match r with
  | .iff .. =>
    let t := (firstQ r back).asked g.boxes
    ({ g with todo := g.todo ++ [.last r p back t] } : Gs).due (if t then r.ra else r.rb) (p.at (if t then 0 else 1)) back
  | .call x => g.enter x false p back
  | .undo x => g.enter x true p back
  | _ => match plainDone g.boxes g.pile r back with
    | some (b, l) => { g with boxes := b, pile := l }
    | none => g.over .against (some p)
def Row.isRound : Row → Bool
  | .round .. => true | _ => false
def Gs.doRow (g : Gs) (r : Row) (p : Plc) (back : Bool) : Gs :=
  if r.isRound = true then (if (g.wants (firstQ r back) p true).1 = true then (g.wants (firstQ r back) p true).2.bodyDue r p back else (g.wants (firstQ r back) p true).2)
  else if g.may.1 = true then g.may.2.begun r p back else g.may.2
def Gs.turn (g : Gs) (t : Tk) : Gs :=
  match t with
  | .leave => { g with calls := g.calls - 1 }
  | .row r p b => g.doRow r p b
  | .last r p b t => (g.wants (lastQ r b) p t).2
  | .body r p b => g.behind r p b
  | .again r p b => if (g.wants (firstQ r b) p false).1 = true then (g.wants (firstQ r b) p false).2.bodyDue r p b else (g.wants (firstQ r b) p false).2
end DL

set_option Elab.async false
set_option linter.all false
set_option maxRecDepth 100000
set_option maxHeartbeats 4000000
namespace DL
open PySem L2
def goN : List Str := ["blocks", "boxes", "pile", "steps", "most", "calls", "todo", "word", "place"]
structure GoC (c : Cc) (C : Addr) : Prop where
  cl : Cls c.K C
  na : ∀ f, f ∈ goN → NoAttr c.K C f
section
variable {c : Cc} {C : Addr} (G : GoC c C) {η : Nm} {s : List Sl} {x dx b p t : Addr} {g : Gs} {e k : Expr} {es : List Expr} {ps ps1 ps2 ps3 ps4 : Pos} {i : Int} {d : D} {ds : List D} {rest : List Stmt} {bs : List (List Stmt)} {out : Out} {y : Str}
include G
end
theorem RTS.refl {x : Addr} {d0 : D} : ∀ s : List Sl, RTS x d0 s s
  | [] => .nil
  | _ :: r => .same (RTS.refl r)
theorem RTL.refl {x : Addr} {d0 : D} : ∀ s : List D, RTL x d0 s s
  | [] => .nil
  | d :: r => .cons (.same d) (RTL.refl r)
theorem RTW.refl {x : Addr} {d0 : D} : ∀ s : List (Addr × D), RTW x d0 s s
  | [] => .nil
  | (_, d) :: r => .cons (.same d) (RTW.refl r)
section
variable {s : List Sl} {x C dx b p t : Addr} {g : Gs}
end
section
variable {c : Cc} {C : Addr} (G : GoC c C) {η : Nm} {s : List Sl} {x dx b p t : Addr} {g : Gs} {ps ps1 : Pos} {d : D}
include G
end
end DL

set_option Elab.async false
set_option linter.all false
set_option maxRecDepth 100000
set_option maxHeartbeats 4000000
namespace DL
open PySem L2
variable {c : Cc} {η : Nm} {ρ ρ1 ρ2 : Rho} {a b e o : Expr} {es : List Expr} {pos p apos : Pos} {d d1 d2 : D} {ds : List D} {out : Out} {st : Stmt} {rest : List Stmt} {bs : List (List Stmt)}
theorem s1_retS {w1 w2 : List (Addr × D)} (he : ED c η e ρ d) (h1 : w1.Sublist ρ.w) (h2 : w2.Perm w1) : S1 c η (.Return (some e) pos) ρ (.rw fun d' w => d' = d ∧ w = w2) := ⟨fun F0 H0 σ F H S E q =>
  WS.of (fun X hX => ps_ret (WE.pe hX)) (he.run F0 H0 σ F H S _ fun v F' H' g r => by
    have S1 := (S.grow g).less (ρ' := ⟨ρ.s, w1⟩) rfl (fun _ _ e => .inr e) h1
    exact q v d _ F' H' ⟨rfl, rfl⟩ (S.grow g).g r (S1.permW h2).w)⟩
end DL

set_option Elab.async false
set_option linter.all false
set_option maxRecDepth 100000
set_option maxHeartbeats 4000000
namespace DL
open PySem L2
structure Gs.fit (g : Gs) : Prop where
  bx : BxOk g.boxes
  bl : g.boxes.length < 90000
  pl : g.pile.length < 90000
  tl : g.todo.length < 50000
def Row.plainB : Row → Bool
  | .put .. => true | .swap .. => true | .push .. => true | .pull .. => true | _ => false
def Row.putOk : Row → Prop
  | .put _ _ m => m.ok
  | _ => True
def Row.fine (pr : Prog) : Row → Prop
  | .put _ _ m => m.ok
  | .iff _ a b _ => a.length ≤ 30000 ∧ b.length ≤ 30000
  | .round _ a b _ => a.length ≤ 30000 ∧ b.length ≤ 30000
  | .call y => (rowsOf pr y).length ≤ 30000 ∧ lookD (blocksD pr) y = some (.lst (rowsD (rowsOf pr y)))
  | .undo y => (rowsOf pr y).length ≤ 30000 ∧ lookD (blocksD pr) y = some (.lst (rowsD (rowsOf pr y)))
  | _ => True
def Tk.fine (pr : Prog) : Tk → Prop
  | .row r p _ => r.fine pr ∧ p.is.length ≤ 8000
  | .last r _ _ _ => r.asks = true
  | .body r p _ => r.isRound = true ∧ r.fine pr ∧ p.is.length ≤ 8000
  | .again r p _ => r.isRound = true ∧ r.fine pr ∧ p.is.length ≤ 8000
  | .leave => True
inductive Runs : Nat → Gs → Gs → Prop
  | done (g : Gs) (n : Nat) (h : g.todo = []) : Runs n g g
  | turn {n : Nat} {g g' : Gs} {l : List Tk} {t : Tk} (h : g.todo = l ++ [t]) (f : g.fit) (ok : t.fine g.blocks) (r : Runs n ((({ g with todo := l } : Gs)).turn t) g') : Runs (n + 1) g g'
section
variable {c : Cc} {C : Addr} {η : Nm} {s : List Sl} {x dx b p t : Addr} {g g' : Gs} {e : Expr} {pos : Pos} {k : Bool} {rest a b1 : List Stmt} {bs : List (List Stmt)} {out : Out}
end
section
variable {c : Cc} {C : Addr} (G : GoC c C) {η : Nm} {s : List Sl} {x dx b p t : Addr} {g g1 : Gs} {e k : Expr} {ps ps1 ps2 ps3 : Pos} {i : Int} {y : Str}
include G
end
def leftN (bx : Bx) : Nat → Bx
  | 0 => []
  | i + 1 => match bx[i]? with
    | some k => if getI bx k.1 ≠ 0 then putI (leftN bx i) k.1 (getI bx k.1) else leftN bx i
    | none => leftN bx i
def leftB (bx : Bx) : Bx := leftN bx bx.length
def wordD : Option Wd → D
  | none => .str "done"
  | some w => .str w.str
theorem atI_zero (x : D) (xs : List D) : L2.atI (x :: xs) 0 = some x := by
  rw [atI_get' (x :: xs) 0 x ⟨by omega, by rw [List.length_cons]; omega⟩]
  rfl
end DL

set_option Elab.async false
set_option linter.all false
set_option maxRecDepth 100000
set_option maxHeartbeats 4000000
namespace DL
open PySem L2
structure GRes where
  word : Option Wd
  bx : Bx
  pile : List Int
  steps : Int
  place : Option Plc
def GRes.d (r : GRes) : D := .tup [wordD r.word, .dic (bxD (leftB r.bx)), .lst (r.pile.map .int), .int r.steps, optD Plc.d r.place]
section
variable (rows : List Row) (nm : Str) (bx : Bx) (pile : List Int) (most : Int) (back : Bool)
end
def PlainRows (rows : List Row) : Prop := ∀ r ∈ rows, r.plainB = true ∧ r.putOk
section
variable {rows : List Row} {nm : Str} {bx : Bx} {pile : List Int} {most : Int} {back : Bool}
end
end DL

set_option Elab.async false
set_option linter.all false
set_option maxRecDepth 100000
set_option maxHeartbeats 4000000
namespace DL
open PySem L2
variable {c : Cc} {η : Nm} {ρ ρ1 ρ2 : Rho} {a b e o elt : Expr} {es : List Expr} {pos p apos : Pos} {d d1 d2 : D} {ds : List D} {out : Out} {st : Stmt} {rest : List Stmt} {bs : List (List Stmt)} {x : Str}
theorem call_lenR {X : Cx} : CallR X (.builtin "len") (fun xs H Q => ∃ a kvs, xs = [V.ref a] ∧ Rd H a (.dK kvs) ∧ Q (.int kvs.length) H) := by
  intro pins s σ H xs us Q I r h
  obtain ⟨a, kvs, rfl, ha, q⟩ := h
  obtain ⟨u, rfl, ru⟩ := vals1 r
  cases ru
  exact d_len I ha fun t s' I' => ⟨.int kvs.length, H, I', ⟨t, rfl⟩, q⟩
theorem ed_lenK {ks : List (Str × D)} (hm : c.mg "len" = none) (ha : EA c η [e] ρ [.dic ks]) (hg : glB η.sc "len" = true := by decide +kernel)
    (he : isStar e = false := by rfl) : ED c η (.Call (.Name "len" p) [e] [] pos) ρ (.int ks.length) := ed_blt (fun X hX => call_lenR) (fun F H vs s r Q k => by
    obtain ⟨v, rfl, r1⟩ := r.one
    cases r1 with
    | dic hd r2 => exact ⟨_, _, rfl, same_rd s hd, by rw [r2.len]; exact k _ F H (.refl s) (.int _)⟩) ha hm PySem.boot_len hg (by decide) (by decide) he rfl
theorem comp_keys {ks : List (Str × D)} (j : Nat) (f : Str × D → D) (hN : η.N.Nodup) (hl : j < ρ.length := by first | decide | (simp [rho, wipeR]; done)) (h : ∀ k ∈ ks, ED c η elt (ρ.set j (.va (.str k.1))) (f k)) (hi : η.N[j]? = some x := by rfl) (hx : stoB η x = true := by decide +kernel) : CompD c η (.Name x pos) elt [] [j] ρ (keysD ks) (ks.map f) := by
  unfold keysD
  induction ks with
  | nil => exact .nil
  | cons z r ih => exact .keep (td_name j hN hi hx hl) (fun i hi => hi) (fun t e => nomatch e) (h z List.mem_cons_self) (ih fun k hk' => h k (List.mem_cons_of_mem _ hk'))
theorem comp_keysB {ks : List (Str × D)} (j : Nat) (f : Str × D → Bool) (hN : η.N.Nodup) (hl : j < ρ.length := by first | decide | (simp [rho, wipeR]; done)) (h : ∀ k ∈ ks, ED c η elt (ρ.set j (.va (.str k.1))) (.bl (f k))) (hi : η.N[j]? = some x := by rfl) (hx : stoB η x = true := by decide +kernel) : CompD c η (.Name x pos) elt [] [j] ρ (keysD ks) ((ks.map f).map .bl) := by rw [List.map_map]; exact comp_keys j (fun k => .bl (f k)) hN hl h hi hx
inductive Alk : Nat → D → D → Prop
  | non (n : Nat) : Alk n .non .non
  | int (n : Nat) (i : Int) : Alk n (.int i) (.int i)
  | str (n : Nat) (z : Str) : Alk n (.str z) (.str z)
  | tup (n : Nat) (xs ys : List D) (hl : xs.length = ys.length) (hs : xs.length ≤ 90000) (h : ∀ i, i < ys.length → Alk n (xs.getD i .non) (ys.getD i .non)) : Alk (n + 1) (.tup xs) (.tup ys)
  | lst (n : Nat) (xs ys : List D) (hl : xs.length = ys.length) (hs : xs.length ≤ 90000) (h : ∀ i, i < ys.length → Alk n (xs.getD i .non) (ys.getD i .non)) : Alk (n + 1) (.lst xs) (.lst ys)
  | dic (n : Nat) (xs ys : List (Str × D)) (hl : xs.length = ys.length) (hs : xs.length ≤ 90000) (h1 : ∀ k ∈ ys, (lookD xs k.1).isSome = true ∧ (lookD ys k.1).isSome = true) (h : ∀ k ∈ ys, ∀ d e, lookD xs k.1 = some d → lookD ys k.1 = some e → Alk n d e) : Alk (n + 1) (.dic xs) (.dic ys)
def R_alike (n : Nat) (ds : List D) (d : D) : Prop := ∃ x y, ds = [x, y] ∧ Alk n x y ∧ d = .bl true
theorem all_trueB {α : Type} (l : List α) : ((l.map fun _ => true).all id) = true := List.all_eq_true.mpr fun b hb => by
  rw [List.mem_map] at hb
  obtain ⟨_, _, rfl⟩ := hb
  rfl
end DL

set_option Elab.async false
set_option linter.all false
set_option maxRecDepth 100000
set_option maxHeartbeats 4000000
namespace DL
open PySem L2
def nmAt (names : List Str) (i : Int) : Str := names.getD i.toNat default
def lawSimple (n : Int) (names : List Str) : List Row :=
  if n % 8 < 4 then [.put (nmAt names (n / 8 % 5)) (decide (n % 2 = 0)) (lawSum (n / 40) (nmAt names (n / 8 % 5)) names)]
  else if n % 8 < 6 then [.swap (nmAt names (n / 8 % 5)) (nmAt names (n / 40 % 5))]
  else if n % 8 = 6 then [.push (nmAt names (n / 8 % 5))]
  else [.pull (nmAt names 6), .put (nmAt names (n / 8 % 5)) (decide (n / 40 % 2 = 0)) (.one (.box (nmAt names 6))), .push (nmAt names 6)]
theorem pm_at (n : Int) : (D.str ⟨#[("+-" : Str).cps.toList.getD (n % 2).toNat 0]⟩) = .str (pmS (decide (n % 2 = 0))) := by
  have h : n % 2 = 0 ∨ n % 2 = 1 := by omega
  rcases h with h | h <;> rw [h] <;> exact congrArg D.str (by decide +kernel)
theorem lawSimple_plain (n : Int) (names : List Str) : PlainRows (lawSimple n names) := by
  intro r hr
  unfold lawSimple at hr
  split at hr
  · rw [List.mem_singleton] at hr; subst hr; exact ⟨rfl, lawSum_ok _ _ _⟩
  · split at hr
    · rw [List.mem_singleton] at hr; subst hr; exact ⟨rfl, trivial⟩
    · split at hr
      · rw [List.mem_singleton] at hr; subst hr; exact ⟨rfl, trivial⟩
      · simp only [List.mem_cons, List.not_mem_nil, or_false] at hr
        rcases hr with rfl | rfl | rfl
        · exact ⟨rfl, trivial⟩
        · exact ⟨rfl, trivial⟩
        · exact ⟨rfl, trivial⟩
theorem lawSimple_len (n : Int) (names : List Str) : (lawSimple n names).length ≤ 3 := by
  unfold lawSimple
  split
  · simp
  · split
    · simp
    · split <;> simp
section
variable {a b : Addr} {bx : Bx} {pile : List Int} {s : List Sl} {s0 : Sl}
variable {c : Cc} {η : Nm} {e k o : Expr} {ps ps1 ps2 ps3 ps4 : Pos} {i : Int} {y : Str} {ρ : List Sl}
end
end DL

set_option Elab.async false
set_option linter.all false
set_option maxRecDepth 100000
set_option maxHeartbeats 4000000
namespace DL
open PySem L2
def takenL : List (List Nat) := [[98, 108, 111, 99, 107], [105, 102], [101, 108, 115, 101], [102, 105], [102, 114, 111, 109], [108, 111, 111, 112], [117, 110, 116, 105, 108], [99, 97, 108, 108], [117, 110, 100, 111], [112, 117, 115, 104], [112, 117, 108, 108]]
theorem takenL_eq : TAKENs.map (fun z => z.cps.toList) = takenL := by decide +kernel
theorem letters_eq : ("abcdefghijklmnopqrstuvwxyz" : Str).cps.toList = (List.range 26).map (97 + ·) := by decide +kernel
theorem figures_eq : ("0123456789" : Str).cps.toList = (List.range 10).map (48 + ·) := by decide +kernel
def ltrB (n : Nat) : Bool := decide (97 ≤ n) && decide (n < 123)
def figB (n : Nat) : Bool := decide (48 ≤ n) && decide (n < 58)
def isNameL (w : List Nat) : Bool := (decide (1 ≤ w.length) && decide (w.length ≤ 6)) && !takenL.contains w && (ltrB (w.getD 0 0) && w.all fun n => ltrB n || figB n)
theorem mem_letters {n : Nat} (h : ltrB n = true) : n ∈ ("abcdefghijklmnopqrstuvwxyz" : Str).cps.toList := by
  rw [letters_eq, List.mem_map]
  unfold ltrB at h
  simp at h
  exact ⟨n - 97, by rw [List.mem_range]; omega, by omega⟩
theorem mem_figures {n : Nat} (h : figB n = true) : n ∈ ("0123456789" : Str).cps.toList := by
  rw [figures_eq, List.mem_map]
  unfold figB at h
  simp at h
  exact ⟨n - 48, by rw [List.mem_range]; omega, by omega⟩
theorem isNameS_of {z : Str} (h : isNameL z.cps.toList = true) : isNameS z = true := by
  unfold isNameL at h
  rw [Bool.and_eq_true, Bool.and_eq_true, Bool.and_eq_true, Bool.and_eq_true] at h
  obtain ⟨⟨⟨h1, h2⟩, h3⟩, h4, h5⟩ := h
  have l : z.cps.toList.length = z.length := rfl
  have e1 := of_decide_eq_true h1
  have e2 := of_decide_eq_true h2
  rw [l] at e1 e2
  have e3 : z ∉ TAKENs := fun hm => by
    have : z.cps.toList ∈ takenL := by rw [← takenL_eq]; exact List.mem_map_of_mem hm
    rw [List.contains_iff_mem.mpr this] at h3
    cases h3
  unfold isNameS
  rw [decide_eq_true (show 1 ≤ (z.length : Int) by omega), decide_eq_true (show (z.length : Int) ≤ 6 by omega), decide_eq_false e3, show (0 : Int).toNat = 0 from rfl, decide_eq_true (mem_letters h4)]
  show (z.cps.toList.map _).all id = true
  rw [List.all_map, List.all_eq_true]
  intro n hn
  rw [List.all_eq_true] at h5
  have := h5 n hn
  show decide (n ∈ ((_ : Str).cps ++ (_ : Str).cps).toList) = true
  rw [Array.toList_append, decide_eq_true_eq, List.mem_append]
  rw [Bool.or_eq_true] at this
  exact this.elim (fun h => .inl (mem_letters h)) fun h => .inr (mem_figures h)
theorem isNameL_fig {l f : Nat} {r : List Nat} (hl : ltrB l = true) (hf : figB f = true) (hr : r.all ltrB = true) (hn : r.length ≤ 4) : isNameL (l :: f :: r) = true := by
  unfold isNameL
  have e : takenL.contains (l :: f :: r) = false := by
    rw [Bool.eq_false_iff]
    intro h
    rw [List.contains_iff_mem] at h
    have : ∀ w ∈ takenL, figB (w.getD 1 0) = false := by decide +kernel
    have := this _ h
    rw [show (l :: f :: r).getD 1 0 = f from rfl, hf] at this
    cases this
  rw [e, decide_eq_true (show 1 ≤ (l :: f :: r).length by simp), decide_eq_true (show (l :: f :: r).length ≤ 6 by simp; omega)]
  show (((true && true) && !false) && (ltrB l && ((ltrB l || figB l) && ((ltrB f || figB f) && r.all fun n => ltrB n || figB n)))) = true
  rw [hl, hf]
  simp only [Bool.or_true, Bool.true_or, Bool.true_and, Bool.and_true, Bool.not_false]
  rw [List.all_eq_true] at hr ⊢
  intro n h
  rw [hr n h]
  rfl
theorem isNameL_one {l : Nat} (hl : ltrB l = true) : isNameL [l] = true := by
  unfold isNameL
  have e : takenL.contains [l] = false := by
    rw [Bool.eq_false_iff]
    intro h
    rw [List.contains_iff_mem] at h
    have : ∀ w ∈ takenL, w.length ≠ 1 := by decide +kernel
    exact this _ h rfl
  rw [e]
  show (((true && true) && !false) && (ltrB l && ((ltrB l || figB l) && true))) = true
  rw [hl]
  rfl
theorem ltr_cps {i : Int} (h0 : 0 ≤ i) (h : i < 26) : (ltr i).cps.toList = [97 + i.toNat] := by
  have := letters_eq
  unfold ltr
  rw [this, List.getD_eq_getElem?_getD, List.getElem?_map, List.getElem?_range (by omega)]
  rfl
def tailL (a : Nat) : List Nat := (List.range 6).map fun j => 97 + (a + 5 * j + 1) % 26
theorem append_cps (x y : Str) : (x ++ y).cps.toList = x.cps.toList ++ y.cps.toList := Array.toList_append
theorem lawTail_cps (x : Int) : (lawTail x).cps.toList = tailL (x / 72 % 26).toNat := by
  rw [lawTail_eq]
  rw [append_cps, append_cps, append_cps, append_cps, append_cps, ltr_cps (by omega) (by omega), ltr_cps (by omega) (by omega), ltr_cps (by omega) (by omega), ltr_cps (by omega) (by omega), ltr_cps (by omega) (by omega), ltr_cps (by omega) (by omega)]
  show [97 + ((x / 72 + 5 * (0 + (0 : Nat)) + 1) % 26).toNat, 97 + ((x / 72 + 5 * (0 + (1 : Nat)) + 1) % 26).toNat, 97 + ((x / 72 + 5 * (0 + (2 : Nat)) + 1) % 26).toNat, 97 + ((x / 72 + 5 * (0 + (3 : Nat)) + 1) % 26).toNat, 97 + ((x / 72 + 5 * (0 + (4 : Nat)) + 1) % 26).toNat, 97 + ((x / 72 + 5 * (0 + (5 : Nat)) + 1) % 26).toNat] = tailL (x / 72 % 26).toNat
  have e : ∀ j : Nat, ((x / 72 + 5 * (0 + (j : Nat)) + 1) % 26).toNat = ((x / 72 % 26).toNat + 5 * j + 1) % 26 := fun j => by omega
  rw [e 0, e 1, e 2, e 3, e 4, e 5]
  rfl

theorem cutS_cps (z : Str) (lo hi : Option Int) : (cutS z lo hi).cps.toList = (z.cps.toList.drop (HT.sIx z.length 0 lo)).take (HT.sIx z.length z.length hi - HT.sIx z.length 0 lo) := rfl
theorem cutS_to (z : Str) {p : Int} (h0 : 0 ≤ p) : (cutS z none (some p)).cps.toList = z.cps.toList.take p.toNat := by
  obtain ⟨k, rfl⟩ := Int.eq_ofNat_of_zero_le h0
  rw [cutS_cps, HT.sIx_none, HT.sIx_nat, List.drop_zero, Nat.sub_zero, List.take_eq_take_iff]
  show min (min k z.length) z.cps.toList.length = min (k : Int).toNat z.cps.toList.length
  rw [show z.cps.toList.length = z.length from rfl]
  omega
theorem cutS_mid (z : Str) {p q : Int} (h0 : 0 ≤ p) (h1 : p ≤ q) (hq : q ≤ z.length) : (cutS z (some p) (some q)).cps.toList = (z.cps.toList.drop p.toNat).take (q.toNat - p.toNat) := by
  obtain ⟨k, rfl⟩ := Int.eq_ofNat_of_zero_le h0
  obtain ⟨j, rfl⟩ := Int.eq_ofNat_of_zero_le (Int.le_trans h0 h1)
  rw [cutS_cps, HT.sIx_nat, HT.sIx_nat, Nat.min_eq_left (by omega), Nat.min_eq_left (by omega)]
  rfl
def all1 : Bool := (List.range 26).all fun a => [1, 3, 4, 5, 6].all fun s => (List.range s).all fun p => (List.range 12).all fun k => isNameL ((tailL a).take p ++ [97 + (a + 5 * k) % 26] ++ ((tailL a).drop (p + 1)).take (s - (p + 1)))
theorem all1_ok : all1 = true := by decide +kernel
theorem word1 {a s p k : Nat} (ha : a < 26) (hs : s ∈ [1, 3, 4, 5, 6]) (hp : p < s) (hk : k < 12) : isNameL ((tailL a).take p ++ [97 + (a + 5 * k) % 26] ++ ((tailL a).drop (p + 1)).take (s - (p + 1))) = true := by
  have h := all1_ok
  unfold all1 at h
  rw [List.all_eq_true] at h
  have h := h a (List.mem_range.mpr ha)
  rw [List.all_eq_true] at h
  have h := h s hs
  rw [List.all_eq_true] at h
  have h := h p (List.mem_range.mpr hp)
  rw [List.all_eq_true] at h
  exact h k (List.mem_range.mpr hk)
theorem tailL_ltr (a : Nat) : (tailL a).all ltrB = true := by
  unfold tailL
  rw [List.all_map, List.all_eq_true]
  intro j _
  show (decide (97 ≤ 97 + (a + 5 * j + 1) % 26) && decide (97 + (a + 5 * j + 1) % 26 < 123)) = true
  rw [decide_eq_true (by omega), decide_eq_true (by omega)]
  rfl
theorem all_take {p : Nat → Bool} {xs : List Nat} (h : xs.all p = true) (n : Nat) : (xs.take n).all p = true := by
  rw [List.all_eq_true] at h ⊢
  exact fun x hx => h x (List.mem_of_mem_take hx)
theorem ltr_ok {i : Int} (h0 : 0 ≤ i) (h : i < 26) : ltrB (97 + i.toNat) = true := by
  unfold ltrB
  rw [decide_eq_true (by omega), decide_eq_true (by omega)]
  rfl
theorem size_mem : ∀ j : Nat, j < 5 → (([1, 3, 4, 5, 6] : List Int).getD j 0).toNat ∈ [1, 3, 4, 5, 6] := by decide
theorem digit_cps : ∀ i : Nat, i < 10 → (Str.ofString (toString (i : Int))).cps.toList = [48 + i] := by decide +kernel
theorem lawWord_ok (x : Int) {i : Nat} (hi : i < 12) : isNameS (lawWord x i) = true := by
  apply isNameS_of
  have hz := lawSize_ok x
  by_cases h1 : x % 3 = 1
  · have p0 : 0 ≤ x / 15 % lawSize x := Int.emod_nonneg _ (by omega)
    have p1 : x / 15 % lawSize x < lawSize x := Int.emod_lt_of_pos _ (by omega)
    rw [lawWord_1 h1, append_cps, append_cps, cutS_to _ p0, cutS_mid _ (by omega) (by omega) (by rw [lawTail_len]; omega), lawTail_cps, ltr_cps (by omega) (by omega)]
    have e : ((x / 72 + 5 * (0 + (i : Nat))) % 26).toNat = ((x / 72 % 26).toNat + 5 * i) % 26 := by omega
    rw [e, show (x / 15 % lawSize x + 1).toNat = (x / 15 % lawSize x).toNat + 1 by omega]
    exact word1 (by omega) (size_mem _ (by omega)) (by omega) hi
  · by_cases h2 : x % 3 = 2
    · rw [lawWord_2 h1 h2, append_cps, cutS_to _ (by omega), ltr_cps (by omega) (by omega), append_cps, lawTail_cps, show ("4" : Str).cps.toList = [52] from by decide +kernel]
      cases e : ((0 + (i : Int)) % 4 + x / 18 % 3).toNat with
      | zero => exact isNameL_one (ltr_ok (by omega) (by omega))
      | succ m =>
        have hm : m ≤ 4 := by omega
        exact isNameL_fig (ltr_ok (by omega) (by omega)) (by decide) (all_take (tailL_ltr _) m) (Nat.le_trans (List.length_take_le _ _) hm)
    · by_cases h3 : 0 < (x / 26 + (0 + (i : Nat))) % 6
      · rw [lawWord_3 h1 h2 i h3, append_cps, append_cps, cutS_to _ (by omega), ltr_cps (by omega) (by omega), lawTail_cps]
        obtain ⟨m, hm⟩ := Int.eq_ofNat_of_zero_le (show 0 ≤ (x + (0 + (i : Nat))) % 10 by omega)
        rw [hm, digit_cps m (by omega)]
        refine isNameL_fig (ltr_ok (by omega) (by omega)) ?_ (all_take (tailL_ltr _) _) (Nat.le_trans (List.length_take_le _ _) (by omega))
        unfold figB
        rw [decide_eq_true (by omega), decide_eq_true (by omega)]
        rfl
      · rw [lawWord_4 h1 h2 i h3, ltr_cps (by omega) (by omega)]
        exact isNameL_one (ltr_ok (by omega) (by omega))
theorem special_ok : ∀ z ∈ lawSpecial, isNameL z.cps.toList = true := by decide +kernel
theorem getD_mem {z : Str} {xs : List Str} {j : Nat} (h : j < xs.length) : xs.getD j z ∈ xs := by
  rw [List.getD_eq_getElem?_getD, List.getElem?_eq_getElem h]
  exact List.getElem_mem h
theorem lawNames1_ok (x : Int) : ∀ z ∈ lawNames1 x, isNameS z = true := by
  have h0 : ∀ z ∈ lawNames0 x, isNameS z = true := by
    intro z hz
    unfold lawNames0 at hz
    rw [List.mem_map] at hz
    obtain ⟨i, hi, rfl⟩ := hz
    exact lawWord_ok x (List.mem_range.mp hi)
  unfold lawNames1
  split
  · intro z hz
    rcases List.mem_or_eq_of_mem_set hz with h | rfl
    · exact h0 z h
    · exact isNameS_of (special_ok _ (getD_mem (by show _ < 10; omega)))
  · exact h0
theorem lawNames_ok (x : Int) : ∀ z ∈ lawNames x, isNameS z = true := by
  intro z hz
  unfold lawNames at hz
  split at hz
  · rw [List.mem_append] at hz
    rcases hz with h | h
    · exact lawNames1_ok x z (List.mem_of_mem_drop (List.mem_of_mem_take h))
    · exact lawNames1_ok x z (List.mem_of_mem_drop (List.mem_of_mem_take h))
  · exact lawNames1_ok x z hz
end DL

set_option Elab.async false
set_option linter.all false
set_option maxRecDepth 100000
set_option maxHeartbeats 4000000
namespace DL
open PySem L2
mutual
/-- no types, no places, no booleans; nothing longer than 90000 -/
def D.okA : D → Bool
  | .non => true
  | .int _ => true
  | .str _ => true
  | .tup xs => decide (xs.length ≤ 90000) && D.okAs xs
  | .lst xs => decide (xs.length ≤ 90000) && D.okAs xs
  | .dic ks => decide (ks.length ≤ 90000) && D.okAk ks
  | _ => false
def D.okAs : List D → Bool
  | [] => true
  | d :: r => d.okA && D.okAs r
def D.okAk : List (Str × D) → Bool
  | [] => true
  | (_, d) :: r => d.okA && D.okAk r
end
theorem okAs_mem : ∀ {xs : List D} {d : D}, D.okAs xs = true → d ∈ xs → d.okA = true
  | x :: r, d, h, hm => by
    rw [D.okAs, Bool.and_eq_true] at h
    rcases List.mem_cons.mp hm with rfl | hm
    · exact h.1
    · exact okAs_mem h.2 hm
theorem depths_mem : ∀ {xs : List D} {d : D}, d ∈ xs → d.depth ≤ D.depths xs
  | x :: r, d, hm => by
    rw [D.depths]
    rcases List.mem_cons.mp hm with rfl | hm
    · omega
    · have := depths_mem hm; omega
theorem okAk_mem : ∀ {ks : List (Str × D)} {x : Str} {d : D}, D.okAk ks = true → lookD ks x = some d → d.okA = true ∧ d.depth ≤ D.depthk ks
  | (y, e) :: r, x, d, h, hm => by
    rw [D.okAk, Bool.and_eq_true] at h
    rw [D.depthk]
    unfold lookD at hm
    split at hm
    · cases hm; exact ⟨h.1, by omega⟩
    · obtain ⟨h1, h2⟩ := okAk_mem h.2 hm
      exact ⟨h1, by omega⟩
theorem look_of_mem : ∀ {ks : List (Str × D)} {k : Str × D}, k ∈ ks → (lookD ks k.1).isSome = true
  | (y, e) :: r, k, hm => by
    unfold lookD
    split
    · rfl
    · rename_i hne
      rcases List.mem_cons.mp hm with rfl | hm
      · exact absurd rfl hne
      · exact look_of_mem hm
theorem alk_same : ∀ (n : Nat) (d : D), d.depth ≤ n → d.okA = true → Alk n d d
  | n, .non, _, _ => .non n
  | n, .int i, _, _ => .int n i
  | n, .str z, _, _ => .str n z
  | 0, .tup xs, h, _ => by rw [D.depth] at h; omega
  | 0, .lst xs, h, _ => by rw [D.depth] at h; omega
  | 0, .dic xs, h, _ => by rw [D.depth] at h; omega
  | n + 1, .tup xs, h, ok => by
    rw [D.depth] at h
    rw [D.okA, Bool.and_eq_true] at ok
    refine .tup n xs xs rfl (of_decide_eq_true ok.1) fun i hi => ?_
    have hm : xs.getD i .non ∈ xs := by rw [List.getD_eq_getElem?_getD, List.getElem?_eq_getElem hi]; exact List.getElem_mem hi
    have := depths_mem hm
    exact alk_same n _ (by omega) (okAs_mem ok.2 hm)
  | n + 1, .lst xs, h, ok => by
    rw [D.depth] at h
    rw [D.okA, Bool.and_eq_true] at ok
    refine .lst n xs xs rfl (of_decide_eq_true ok.1) fun i hi => ?_
    have hm : xs.getD i .non ∈ xs := by rw [List.getD_eq_getElem?_getD, List.getElem?_eq_getElem hi]; exact List.getElem_mem hi
    have := depths_mem hm
    exact alk_same n _ (by omega) (okAs_mem ok.2 hm)
  | n + 1, .dic ks, h, ok => by
    rw [D.depth] at h
    rw [D.okA, Bool.and_eq_true] at ok
    refine .dic n ks ks rfl (of_decide_eq_true ok.1) (fun k hk => ⟨look_of_mem hk, look_of_mem hk⟩) fun k hk d e h1 h2 => ?_
    rw [h1] at h2
    cases h2
    obtain ⟨q1, q2⟩ := okAk_mem ok.2 h1
    exact alk_same n _ (by omega) q1
theorem int_depth (i : Int) : (D.int i).depth = 0 := by rw [D.depth]; all_goals nofun
theorem okAs_ints : ∀ l : List Int, D.okAs (l.map D.int) = true
  | [] => by rw [List.map_nil, D.okAs]
  | i :: r => by rw [List.map_cons, D.okAs, okAs_ints r, D.okA]; rfl
theorem depths_ints : ∀ l : List Int, D.depths (l.map D.int) = 0
  | [] => by rw [List.map_nil, D.depths]
  | i :: r => by rw [List.map_cons, D.depths, depths_ints r, int_depth]; rfl
section
variable {rows : List Row} {nm : Str} {bx : Bx} {pile : List Int} {most : Int} {back : Bool}
end
theorem rowsD_app (a b : List Row) : rowsD (a ++ b) = rowsD a ++ rowsD b := by rw [rowsD_map, rowsD_map, rowsD_map, List.map_append]
theorem rowsD_len (a : List Row) : (rowsD a).length = a.length := by rw [rowsD_map, List.length_map]
theorem Th.depth (t : Th) : t.d.depth = 0 := by cases t <;> (show D.depth _ = 0) <;> (rw [Th.d]; rw [D.depth]) <;> nofun
theorem Sm.depth (m : Sm) : m.d.depth ≤ 1 := by
  cases m with
  | one a => rw [Sm.d, D.depth, D.depths, D.depths, Th.depth]; omega
  | op s a b => rw [Sm.d, D.depth, D.depths, D.depths, D.depths, D.depths, Th.depth, Th.depth, show (D.str s.str).depth = 0 by rw [D.depth]; all_goals nofun]; omega
theorem str_depth (x : Str) : (D.str x).depth = 0 := by rw [D.depth]; all_goals nofun
theorem cut_len {α : Type} (xs : List α) (lo hi : Option Int) : (cutL xs lo hi).length ≤ xs.length := by
  unfold cutL
  rw [List.length_take, List.length_drop]
  omega
end DL

set_option Elab.async false
set_option linter.all false
set_option maxRecDepth 100000
set_option maxHeartbeats 4000000
namespace DL
open PySem L2
section
variable {c : Cc} {η : Nm} {ρ ρ1 ρ2 : Rho} {a b e o k : Expr} {es : List Expr} {pos p p2 apos : Pos} {d d1 d2 : D} {ds : List D} {out : Out} {st : Stmt} {rest : List Stmt} {bs : List (List Stmt)} {x : Addr}
theorem ed_ixW (i : Nat) {j : Int} (h : ρ.w[i]? = some (x, .lst ds)) (hj : L2.atI ds j = some d) (ho : ED c η o ρ (.ref x)) (hk : ED c η k ρ (.int j)) (hs : isSlc k = false := by rfl) : ED c η (.Subscript o k pos) ρ d := ⟨fun F0 H0 σ F H S Q q =>
  WE.of (t := tOp (rIxL c.K) (WE c η o) (WE c η k)) (fun X hX => by rw [← hX.K]; exact pe_ix ix_list (WE.pe hX) (WE.pe hX) (ix_plain hs)) (tOp_of ho hk S fun F1 H1 v1 v2 g r1 r2 => by
    cases r1
    cases r2
    obtain ⟨n, n0, ob⟩ := (S.grow g).at h
    obtain ⟨vs, hA, r⟩ := ob.lst
    obtain ⟨v, hv, rv⟩ := r.atI hj
    exact ⟨x, vs, j, v, rfl, rfl, SqL.of hA, hv, q v F1 H1 g rv⟩)⟩
theorem s1_extW (i : Nat) {zs : List D} (h : ρ.w[i]? = some (x, .lst ds)) (ho : ED c η o ρ (.ref x)) (he : ED c η e ρ (.lst zs)) (hz : ds.length + zs.length ≤ 100000)
    (hr : ∀ X to t, PE X o to → PA X [e] t → PE X (.Call (.Attribute o "extend" apos) [e] [] pos) (tBM X.K "list" rExtend to t) := by exact fun _ _ _ h1 h2 => pe_bm PySem.F.plainAttrs_list PySem.F.slot_list_extend PySem.F.type_list_extend mt_extend h1 h2) (hst : isStar e = false := by rfl) :
    S1 c η (.Expr (.Call (.Attribute o "extend" apos) [e] [] pos) p) ρ (.nx (ρ.putW i x (.lst (ds ++ zs)))) := ⟨fun F0 H0 σ F H S E q =>
  WS.of (t := tDrop (tBM c.K "list" rExtend (WE c η o) (WA c η [e]))) (fun X hX => by rw [← hX.K]; exact ps_expr (hr X _ _ (WE.pe hX) (WA.pa hX)) (swap_no rfl _ _ X.env)) (by
    refine ho.run F0 H0 σ F H S _ fun v F1 H1 g1 r1 => ?_
    cases r1
    have S1 := S.grow g1
    obtain ⟨n, n0, ob⟩ := S1.at h
    obtain ⟨vs, hA, r⟩ := ob.lst
    refine ⟨.inl ⟨rfl, vs, SqL.of hA⟩, ?_⟩
    refine (ea_cons he ea_nil hst).run F0 H0 σ F1 H1 S1 _ fun ws F2 H2 g2 rw2 => ?_
    obtain ⟨v, rfl, r2⟩ := rw2.one
    cases r2 with
    | @lst b us _ hb r2 =>
      exact ⟨x, b, vs, us, rfl, rfl, g2.h _ _ hA, g2.fh _ _ hb, by rw [r.length, r2.length]; exact len_line hz, q σ F2 _ ((S1.grow g2).mutW h (.inl (.inl ⟨_, _, rfl, rfl, (r.mono g2.f).append r2⟩)))⟩)⟩
theorem s1_setixW (i : Nat) {j : Int} (h : ρ.w[i]? = some (x, .lst ds)) (ho : ED c η o ρ (.ref x)) (he : ED c η e ρ d) (hk : ED c η k ρ (.int j)) (hj : 0 ≤ j ∧ j < (ds.length : Int))
    (hr : ∀ X to ti te, PE X o to → PE X k ti → PE X e te → PS X (.Assign [.Subscript o k p2] e pos) (tAsg te (gSub to ti rSetL)) := by exact fun _ _ _ _ h1 h2 h3 => ps_asg h3 (pg_sub h1 h2 set_list)) :
    S1 c η (.Assign [.Subscript o k p2] e pos) ρ (.nx (ρ.putW i x (.lst (ds.set j.toNat d)))) := ⟨fun F0 H0 σ F H S E q =>
  WS.of (t := tAsg (WE c η e) (gSub (WE c η o) (WE c η k) rSetL)) (fun X hX => hr X _ _ _ (WE.pe hX) (WE.pe hX) (WE.pe hX)) (by
    refine he.run F0 H0 σ F H S _ fun v F1 H1 g1 r1 => ho.run F0 H0 σ F1 H1 (S.grow g1) _ fun u F2 H2 g2 r2 => hk.run F0 H0 σ F2 H2 ((S.grow g1).grow g2) _ fun w F3 H3 g3 r3 => ?_
    cases r2
    cases r3
    have S3 := ((S.grow g1).grow g2).grow g3
    obtain ⟨n, n0, ob⟩ := S3.at h
    obtain ⟨vs, hA, r⟩ := ob.lst
    refine ⟨x, vs, _, j.toNat, rfl, rfl, hA, ?_, q σ F3 _ (S3.mutW h (.inl (.inl ⟨_, _, rfl, rfl, RepL.set ((r1.mono g2.f).mono g3.f) j.toNat r⟩)))⟩
    unfold ixN
    rw [if_pos hj.1, if_pos (by rw [r.length]; exact hj.2)])⟩
structure EAE (c : Cc) (η : Nm) (es : List Expr) (ρ : Rho) (P : List D → Rho → Prop) : Prop where
  run : ∀ F0 H0 σ F H, Stt c.K F0 H0 ρ σ F H → ∀ Q : List V → Hp → Prop, (∀ vs ds ρ' F' H', P ds ρ' → Stt c.K F0 H0 ρ' σ F' H' → RepL c.K F' vs ds → Q vs H') → WA c η es σ H Q
theorem eae_nil : EAE c η [] ρ (fun ds ρ' => ds = [] ∧ ρ' = ρ) := ⟨fun F0 H0 σ F H S Q q => WA.of (fun _ _ => pa_nil) (q [] [] ρ F H ⟨rfl, rfl⟩ S .nil)⟩
theorem eae_cons {P1 : D → Rho → Prop} {P : List D → Rho → Prop} (h : EE c η e ρ P1) (hr : ∀ d ρ1, P1 d ρ1 → EAE c η es ρ1 (fun r ρ' => P (d :: r) ρ')) (hs : isStar e = false := by rfl) : EAE c η (e :: es) ρ P := ⟨fun F0 H0 σ F H S Q q =>
  WA.of (fun X hX => pa_cons (WE.pe hX) (WA.pa hX) (star_cons hs X.env)) (h.run F0 H0 σ F H S _ fun v d ρ1 F1 H1 hp S1 r1 => by
    obtain ⟨S1', g⟩ := S1.over S1.g.f (Same.refl F1)
    exact (hr d ρ1 hp).run F1 _ σ F1 H1 S1' _ fun vs r ρ2 F2 H2 hp2 S2 r2 => q (v :: vs) (d :: r) ρ2 F2 H2 hp2 (S2.under g) (.cons (r1.mono S2.g.f) r2))⟩
theorem eae_mono {P P' : List D → Rho → Prop} (h : EAE c η es ρ P) (i : ∀ ds ρ', P ds ρ' → P' ds ρ') : EAE c η es ρ P' := ⟨fun F0 H0 σ F H S Q q => h.run F0 H0 σ F H S Q fun vs ds ρ' F' H' hp => q vs ds ρ' F' H' (i ds ρ' hp)⟩
theorem eae_d {P : List D → Rho → Prop} (h : ED c η e ρ d) (hr : EAE c η es ρ (fun r ρ' => P (d :: r) ρ')) (hs : isStar e = false := by rfl) : EAE c η (e :: es) ρ P :=
  eae_cons (ee_of h) (by rintro d' ρ1 ⟨rfl, rfl⟩; exact hr) hs
theorem eae_o {P : List D → Rho → Prop} (h : EO c η e ρ d) (hr : ∀ y, EAE c η es (ρ.addW y d) (fun r ρ' => P (.ref y :: r) ρ')) (hs : isStar e = false := by rfl) : EAE c η (e :: es) ρ P :=
  eae_cons (ee_new h) (by rintro d' ρ1 ⟨y, rfl, rfl⟩; exact hr y) hs
theorem eae_end {P : List D → Rho → Prop} (h : P [] ρ) : EAE c η [] ρ P := eae_mono eae_nil (by rintro ds ρ' ⟨rfl, rfl⟩; exact h)
theorem ee_lst {P : List D → Rho → Prop} (h : EAE c η es ρ P) (hl : ∀ ds ρ', P ds ρ' → ds.length ≤ 100000) : EE c η (.List es pos) ρ (fun d ρ' => ∃ y ds ρ1, P ds ρ1 ∧ d = .ref y ∧ ρ' = ρ1.addW y (.lst ds)) := ⟨fun F0 H0 σ F H S Q q =>
  WE.of (fun X hX => pe_lst (WA.pa hX)) (h.run F0 H0 σ F H S _ fun vs ds ρ1 F1 H1 hp S1 r1 => ⟨by rw [r1.length]; exact len_line (hl ds ρ1 hp), fun y hy =>
    q (.ref y) _ _ F1 _ ⟨y, ds, ρ1, hp, rfl, rfl⟩ (S1.newW (.apart S1.fh hy) (S1.fh.free hy) hy (.inl (obj_lst r1))) (.ref y)⟩)⟩
theorem s1_appWE (i : Nat) {P : D → Rho → Prop} (ho : ∀ ρ', ρ'.s = ρ.s → ED c η o ρ' (.ref x)) (he : EE c η e ρ P) (hp : ∀ d ρ', P d ρ' → ρ'.s = ρ.s ∧ ρ'.w[i]? = some (x, .lst ds)) (h : ρ.w[i]? = some (x, .lst ds)) (hz : ds.length < 100000)
    (hr : ∀ X to t, PE X o to → PA X [e] t → PE X (.Call (.Attribute o "append" apos) [e] [] pos) (tBM X.K "list" rAppend to t) := by exact fun _ _ _ h1 h2 => pe_bm PySem.F.plainAttrs_list PySem.F.slot_list_append PySem.F.type_list_append mt_append h1 h2) (hst : isStar e = false := by rfl) :
    S1 c η (.Expr (.Call (.Attribute o "append" apos) [e] [] pos) p) ρ (.ex fun ρ2 => ∃ d ρ', P d ρ' ∧ ρ2 = ρ'.putW i x (.lst (ds ++ [d]))) := ⟨fun F0 H0 σ F H S E q =>
  WS.of (t := tDrop (tBM c.K "list" rAppend (WE c η o) (WA c η [e]))) (fun X hX => by rw [← hX.K]; exact ps_expr (hr X _ _ (WE.pe hX) (WA.pa hX)) (swap_no rfl _ _ X.env)) (by
    refine (ho ρ rfl).run F0 H0 σ F H S _ fun v F1 H1 g1 r1 => ?_
    cases r1
    have S1 := S.grow g1
    obtain ⟨n, n0, ob⟩ := S1.at h
    obtain ⟨vs, hA, r⟩ := ob.lst
    refine ⟨.inl ⟨rfl, vs, SqL.of hA⟩, ?_⟩
    refine (eae_cons (P := fun l ρ' => ∃ d, l = [d] ∧ P d ρ') he (fun d ρ1 h1 => eae_end ⟨d, rfl, h1⟩) hst).run F0 H0 σ F1 H1 S1 _ fun ws l ρ2 F2 H2 hq S2 rw2 => ?_
    obtain ⟨d, rfl, hq⟩ := hq
    obtain ⟨v, rfl, r2⟩ := rw2.one
    obtain ⟨hs, h2⟩ := hp d ρ2 hq
    obtain ⟨n2, n02, ob2⟩ := S2.at h2
    obtain ⟨vs2, hA2, rr⟩ := ob2.lst
    exact ⟨x, vs2, v, rfl, rfl, hA2, by rw [rr.length]; exact Nat.lt_of_lt_of_le hz (by decide), q _ σ F2 _ ⟨d, ρ2, hq, rfl⟩ (S2.mutW h2 (.inl (.inl ⟨_, _, rfl, rfl, rr.append (.cons r2 .nil)⟩)))⟩)⟩
theorem atI_last (xs : List D) (d : D) : L2.atI (xs ++ [d]) (-1) = some d := by
  unfold L2.atI ixN
  rw [if_neg (by omega), if_pos (by rw [List.length_append, List.length_singleton]; omega)]
  have : ((-1 : Int) + ((xs ++ [d]).length : Nat)).toNat = xs.length := by rw [List.length_append, List.length_singleton]; omega
  rw [this]
  show (xs ++ [d])[xs.length]? = _
  rw [List.getElem?_append_right (Nat.le_refl _), Nat.sub_self]
  rfl
end
end DL

set_option Elab.async false
set_option linter.all false
set_option maxRecDepth 100000
set_option maxHeartbeats 4000000
namespace DL
open PySem L2
section
variable {c : Cc} {η : Nm} {ρ : Rho} {a b e o k : Expr} {es : List Expr} {pos p p2 apos : Pos} {d : D} {ds : List D} {x : Addr}
theorem ed_lenW (i : Nat) (h : ρ.w[i]? = some (x, .lst ds)) (hm : c.mg "len" = none) (ho : ED c η o ρ (.ref x)) (hg : glB η.sc "len" = true := by decide +kernel) (he : isStar o = false := by rfl) : ED c η (.Call (.Name "len" p) [o] [] pos) ρ (.int ds.length) := ⟨fun F0 H0 σ F H S Q q =>
  WE.of (t := tCB (fun xs H Q => ∃ x n, xs = [x] ∧ LenV c.K x H n ∧ Q (.int n) H) (WA c η [o])) (fun X hX => by rw [← hX.K]; exact pe_callB (call_len (X := X)) (gl_of hX hg) (by rw [hX.mg]; exact hm) PySem.boot_len (WA.pa hX) (by decide) (by decide) (star_cons he X.env) (star_any rfl pos X.env)) ((ea_cons ho ea_nil he).run F0 H0 σ F H S _ fun vs F1 H1 g1 r1 => by
    obtain ⟨v, rfl, r2⟩ := r1.one
    cases r2
    obtain ⟨n, n0, ob⟩ := (S.grow g1).at h
    obtain ⟨us, hA, r⟩ := ob.lst
    exact ⟨_, ds.length, rfl, .inl ⟨us, SqL.of hA, r.length.symm⟩, q _ F1 H1 g1 (.int _)⟩)⟩
end
structure Fr (α : Type) where
  k : Str
  s : Int
  a : List α
  b : List α
  n : Int
structure FrA where
  x : Addr
  a : Addr
  b : Addr
section
variable {α : Type} (rd : α → D)
def Fr.cur (f : Fr α) : List α := if f.s = 0 then f.a else f.b
def Fr.app (f : Fr α) (rs : List α) : Fr α := if f.s = 0 then { f with a := f.a ++ rs } else { f with b := f.b ++ rs }
def frD (t : FrA) (f : Fr α) : D := .lst [.str f.k, .int f.s, .ref t.a, .ref t.b, .int f.n]
def frP (f : Fr α) : D := .lst [.str f.k, .int f.s, .lst (f.a.map rd), .lst (f.b.map rd), .int f.n]
def frW : List (FrA × Fr α) → List (Addr × D)
  | [] => []
  | (t, f) :: r => (t.x, frD t f) :: (t.a, .lst (f.a.map rd)) :: (t.b, .lst (f.b.map rd)) :: frW r
def frL (fs : List (FrA × Fr α)) : List D := (fs.map fun p => D.ref p.1.x).reverse
def frsW (fl : Addr) (fs : List (FrA × Fr α)) : List (Addr × D) := (fl, .lst (frL fs)) :: frW rd fs
def curA (t : FrA) (f : Fr α) : Addr := if f.s = 0 then t.a else t.b
end
section
variable {α : Type} {rd : α → D} {c : Cc} {η : Nm} {s : List Sl} {a b e o o2 k : Expr} {es : List Expr} {p p1 p2 p3 p4 apos : Pos} {d : D} {ds : List D} {fl : Addr} {t : FrA} {f : Fr α} {r : List (FrA × Fr α)} {out : Out} {bs : List (List Stmt)}
theorem fr_top {j : Nat} (ho : ED c η o ⟨s, frsW rd fl ((t, f) :: r)⟩ (.ref fl)) : ED c η (.Subscript o (.UnaryOp .USub (.Constant (.int 1) j p1) p2) p3) ⟨s, frsW rd fl ((t, f) :: r)⟩ (.ref t.x) :=
  ed_ixW 0 (ds := frL ((t, f) :: r)) rfl (by unfold frL; rw [List.map_cons, List.reverse_cons]; exact atI_last _ _) ho (ed_neg ed_int)
theorem fr_fld {n : Int} (ho : ED c η o ⟨s, frsW rd fl ((t, f) :: r)⟩ (.ref t.x)) (hk : ED c η k ⟨s, frsW rd fl ((t, f) :: r)⟩ (.int n)) (h : L2.atI [D.str f.k, .int f.s, .ref t.a, .ref t.b, .int f.n] n = some d) (hs : isSlc k = false := by rfl) : ED c η (.Subscript o k p) ⟨s, frsW rd fl ((t, f) :: r)⟩ d :=
  ed_ixW 1 (ds := [D.str f.k, .int f.s, .ref t.a, .ref t.b, .int f.n]) rfl h ho hk hs
theorem fr_cur {j1 j2 : Nat} {p5 : Pos} (hs : f.s = 0 ∨ f.s = 1) (ho : ED c η o ⟨s, frsW rd fl ((t, f) :: r)⟩ (.ref t.x)) (ho2 : ED c η o2 ⟨s, frsW rd fl ((t, f) :: r)⟩ (.ref t.x)) : ED c η (.Subscript o (.BinOp (.Constant (.int 2) j1 p1) .Add (.Subscript o2 (.Constant (.int 1) j2 p2) p3) p4) p5) ⟨s, frsW rd fl ((t, f) :: r)⟩ (.ref (curA t f)) :=
  fr_fld ho (ed_add ed_int (fr_fld ho2 ed_int rfl)) (by
    unfold curA
    rcases hs with h | h <;> rw [h] <;> rfl)
theorem frsW_ext (fl : Addr) (t : FrA) (f : Fr α) (r : List (FrA × Fr α)) (rs : List α) (hs : f.s = 0 ∨ f.s = 1) : (frsW rd fl ((t, f) :: r)).set (if f.s = 0 then 2 else 3) (curA t f, .lst (f.cur.map rd ++ rs.map rd)) = frsW rd fl ((t, f.app rs) :: r) := by
  unfold curA Fr.cur Fr.app
  rcases hs with h | h
  · rw [if_pos h, if_pos h, if_pos h, if_pos h]
    unfold frsW frW frL frD
    rw [List.map_append]
    rfl
  · have h0 : ¬ f.s = 0 := by omega
    rw [if_neg h0, if_neg h0, if_neg h0, if_neg h0]
    unfold frsW frW frL frD
    rw [List.map_append]
    rfl
theorem fr_at (hs : f.s = 0 ∨ f.s = 1) : (Rho.mk s (frsW rd fl ((t, f) :: r))).w[if f.s = 0 then 2 else 3]? = some (curA t f, .lst (f.cur.map rd)) := by
  unfold curA Fr.cur
  rcases hs with h | h
  · rw [if_pos h, if_pos h, if_pos h]; rfl
  · have h0 : ¬ f.s = 0 := by omega
    rw [if_neg h0, if_neg h0, if_neg h0]; rfl
theorem fr_ext {rs : List α} (hs : f.s = 0 ∨ f.s = 1) (ho : ED c η o ⟨s, frsW rd fl ((t, f) :: r)⟩ (.ref (curA t f))) (he : ED c η e ⟨s, frsW rd fl ((t, f) :: r)⟩ (.lst (rs.map rd))) (hz : f.cur.length + rs.length ≤ 100000)
    (hr : ∀ X to t, PE X o to → PA X [e] t → PE X (.Call (.Attribute o "extend" apos) [e] [] p1) (tBM X.K "list" rExtend to t) := by exact fun _ _ _ h1 h2 => pe_bm PySem.F.plainAttrs_list PySem.F.slot_list_extend PySem.F.type_list_extend mt_extend h1 h2) (hst : isStar e = false := by rfl) :
    S1 c η (.Expr (.Call (.Attribute o "extend" apos) [e] [] p1) p) ⟨s, frsW rd fl ((t, f) :: r)⟩ (.nx ⟨s, frsW rd fl ((t, f.app rs) :: r)⟩) := by
  have h := s1_extW (c := c) (η := η) (p := p) (apos := apos) (pos := p1) (if f.s = 0 then 2 else 3) (fr_at hs) ho he (by rw [List.length_map, List.length_map]; exact hz) hr hst
  have e2 : (Rho.mk s (frsW rd fl ((t, f) :: r))).putW (if f.s = 0 then 2 else 3) (curA t f) (.lst (f.cur.map rd ++ rs.map rd)) = ⟨s, frsW rd fl ((t, f.app rs) :: r)⟩ := congrArg (Rho.mk s) (frsW_ext fl t f r rs hs)
  rw [e2] at h
  exact h
theorem fr_app1 {q : α} (hs : f.s = 0 ∨ f.s = 1) (ho : ED c η o ⟨s, frsW rd fl ((t, f) :: r)⟩ (.ref (curA t f))) (he : ED c η e ⟨s, frsW rd fl ((t, f) :: r)⟩ (rd q)) (hz : f.cur.length < 100000)
    (hr : ∀ X to t, PE X o to → PA X [e] t → PE X (.Call (.Attribute o "append" apos) [e] [] p1) (tBM X.K "list" rAppend to t) := by exact fun _ _ _ h1 h2 => pe_bm PySem.F.plainAttrs_list PySem.F.slot_list_append PySem.F.type_list_append mt_append h1 h2) (hst : isStar e = false := by rfl) :
    S1 c η (.Expr (.Call (.Attribute o "append" apos) [e] [] p1) p) ⟨s, frsW rd fl ((t, f) :: r)⟩ (.nx ⟨s, frsW rd fl ((t, f.app [q]) :: r)⟩) := by
  have h := s1_appW (c := c) (η := η) (p := p) (apos := apos) (pos := p1) (if f.s = 0 then 2 else 3) ho he (by rw [List.length_map]; exact hz) (fr_at hs) hr hst
  have e2 : (Rho.mk s (frsW rd fl ((t, f) :: r))).putW (if f.s = 0 then 2 else 3) (curA t f) (.lst (f.cur.map rd ++ [rd q])) = ⟨s, frsW rd fl ((t, f.app [q]) :: r)⟩ := congrArg (Rho.mk s) (frsW_ext fl t f r [q] hs)
  rw [e2] at h
  exact h
theorem fr_side {j1 j2 : Nat} (ho : ED c η o ⟨s, frsW rd fl ((t, f) :: r)⟩ (.ref t.x))
    (hr : ∀ X to ti te, PE X o to → PE X (.Constant (.int 1) j1 p1) ti → PE X (.Constant (.int 1) j2 p2) te → PS X (.Assign [.Subscript o (.Constant (.int 1) j1 p1) p3] (.Constant (.int 1) j2 p2) p4) (tAsg te (gSub to ti rSetL)) := by exact fun _ _ _ _ h1 h2 h3 => ps_asg h3 (pg_sub h1 h2 set_list)) :
    S1 c η (.Assign [.Subscript o (.Constant (.int 1) j1 p1) p3] (.Constant (.int 1) j2 p2) p4) ⟨s, frsW rd fl ((t, f) :: r)⟩ (.nx ⟨s, frsW rd fl ((t, { f with s := 1 }) :: r)⟩) := by
  have h := s1_setixW (c := c) (η := η) (pos := p4) (p2 := p3) 1 (ds := [D.str f.k, .int f.s, .ref t.a, .ref t.b, .int f.n]) rfl ho ed_int ed_int (by constructor <;> simp) hr
  exact h
def popW (rd : α → D) (fl : Addr) (t : FrA) (f : Fr α) (r : List (FrA × Fr α)) : List (Addr × D) := (fl, .lst (frL r)) :: (t.x, frD t f) :: (t.a, .lst (f.a.map rd)) :: (t.b, .lst (f.b.map rd)) :: frW rd r
theorem fr_pop (ho : ED c η o ⟨s, frsW rd fl ((t, f) :: r)⟩ (.ref fl))
    (hr : ∀ X to, PE X o to → PE X (.Call (.Attribute o "pop" apos) [] [] p1) (tBM0 X.K "list" rPop to) := by exact fun _ _ h1 => pe_bm0 PySem.F.plainAttrs_list PySem.F.slot_list_pop PySem.F.type_list_pop mt_pop h1) :
    S1 c η (.Expr (.Call (.Attribute o "pop" apos) [] [] p1) p) ⟨s, frsW rd fl ((t, f) :: r)⟩ (.nx ⟨s, popW rd fl t f r⟩) := by
  have h := ee_popW (c := c) (η := η) (apos := apos) (pos := p1) 0 ho (ds := frL r) (d := .ref t.x) (by show some (fl, D.lst (frL ((t, f) :: r))) = _; unfold frL; rw [List.map_cons, List.reverse_cons]) hr
  exact s1_nxE (s1_exprE h) (by rintro ρ' ⟨_, _, rfl⟩; rfl)
theorem RTS.mid {x : Addr} {d0 d d' : D} (h : RT x d0 d d') : ∀ (pre post : List Sl), RTS x d0 (pre ++ .va d :: post) (pre ++ .va d' :: post)
  | [], post => .va h (RTS.refl post)
  | _ :: pre, post => .same (RTS.mid h pre post)
theorem sd_popped (pre post : List Sl) (h : SD c η bs ⟨pre ++ .va (frP rd f) :: post, frsW rd fl r⟩ out) : SD c η bs ⟨pre ++ .va (.ref t.x) :: post, popW rd fl t f r⟩ out :=
  sd_keep (ρ1 := ⟨pre ++ .va (.ref t.x) :: post, (fl, .lst (frL r)) :: (t.x, .lst [.str f.k, .int f.s, .lst (f.a.map rd), .ref t.b, .int f.n]) :: (t.b, .lst (f.b.map rd)) :: frW rd r⟩) (i := 2) (x := t.a) (d0 := .lst (f.a.map rd)) ⟨rfl, .inl ⟨_, rfl⟩, RTS.refl _, .cons (.same _) (.cons (.lst (.cons (.same _) (.cons (.same _) (.cons .here (RTL.refl _))))) (RTW.refl _))⟩
    (sd_keep (ρ1 := ⟨pre ++ .va (.ref t.x) :: post, (fl, .lst (frL r)) :: (t.x, frP rd f) :: frW rd r⟩) (i := 2) (x := t.b) (d0 := .lst (f.b.map rd)) ⟨rfl, .inl ⟨_, rfl⟩, RTS.refl _, .cons (.same _) (.cons (.lst (.cons (.same _) (.cons (.same _) (.cons (.same _) (.cons .here (RTL.refl _)))))) (RTW.refl _))⟩
      (sd_keep (ρ1 := ⟨pre ++ .va (frP rd f) :: post, frsW rd fl r⟩) (i := 1) (x := t.x) (d0 := frP rd f) ⟨rfl, .inl ⟨_, rfl⟩, RTS.mid .here pre post, RTW.refl _⟩ h))
theorem ee_frame {e0 e4 : Expr} {k0 : Str} {n0 : Int} {j : Nat} {pa pb : Pos} {w : List (Addr × D)} (h0 : ED c η e0 ⟨s, w⟩ (.str k0)) (h4 : ∀ w2, ED c η e4 ⟨s, w ++ w2⟩ (.int n0)) (hs0 : isStar e0 = false := by rfl) (hs4 : isStar e4 = false := by rfl) :
    EE c η (.List [e0, .Constant (.int 0) j p, .List [] pa, .List [] pb, e4] p1) ⟨s, w⟩ (fun d ρ' => ∃ t : FrA, d = .ref t.x ∧ ρ' = ⟨s, w ++ [(t.a, .lst []), (t.b, .lst []), (t.x, frD t (⟨k0, 0, [], [], n0⟩ : Fr α))]⟩) := by
  refine ee_mono (ee_lst (P := fun ds ρ' => ∃ y z, ds = [.str k0, .int 0, .ref y, .ref z, .int n0] ∧ ρ' = ⟨s, w ++ [(y, .lst []), (z, .lst [])]⟩) (eae_d h0 (eae_d ed_int (eae_o (eo_lst ea_nil) fun y => (eae_o (eo_lst ea_nil) fun z => (eae_d (d := .int n0) ?_ (eae_end ⟨y, z, rfl, ?_⟩) hs4)))) hs0) ?_) ?_
  · have := h4 [(y, .lst []), (z, .lst [])]
    have e : (w ++ [(y, D.lst [])]) ++ [(z, D.lst [])] = w ++ [(y, .lst []), (z, .lst [])] := by rw [List.append_assoc]; rfl
    show ED c η e4 ⟨s, (w ++ [(y, D.lst [])]) ++ [(z, D.lst [])]⟩ _
    rw [e]
    exact this
  · show Rho.mk s ((w ++ [(y, D.lst [])]) ++ [(z, D.lst [])]) = _
    rw [List.append_assoc]
    rfl
  · rintro ds ρ' ⟨y, z, rfl, rfl⟩
    simp
  · rintro d ρ' ⟨x, ds, ρ1, ⟨y, z, rfl, rfl⟩, rfl, rfl⟩
    refine ⟨⟨x, y, z⟩, rfl, ?_⟩
    show Rho.mk s ((w ++ [(y, D.lst []), (z, D.lst [])]) ++ [(x, _)]) = _
    rw [List.append_assoc]
    rfl
end
end DL

set_option Elab.async false
set_option linter.all false
set_option maxRecDepth 100000
set_option maxHeartbeats 4000000
namespace DL
open PySem L2
variable {c : Cc} {η : Nm} {ρ ρ1 ρ2 : Rho} {a b e o : Expr} {es : List Expr} {pos p apos : Pos} {d d1 d2 : D} {ds : List D} {out : Out} {st : Stmt} {rest : List Stmt} {bs : List (List Stmt)} {P P1 : Rho → Prop} {R : D → List (Addr × D) → Prop}
end DL

set_option Elab.async false
set_option linter.all false
set_option maxRecDepth 100000
set_option maxHeartbeats 4000000
namespace DL
open PySem L2
section
variable {c : Cc} {η : Nm} {ρ ρ1 ρ2 : Rho} {a b e o : Expr} {es : List Expr} {pos p apos : Pos} {d d1 d2 : D} {ds : List D} {out : Out} {st : Stmt} {rest : List Stmt} {bs : List (List Stmt)}
end
end DL

set_option Elab.async false
set_option linter.all false
set_option maxRecDepth 100000
set_option maxHeartbeats 4000000
namespace DL
open PySem L2
mutual
/-- how deep ifs and rounds stand in one another -/
def Row.dep : Row → Nat
  | .iff _ a b _ => max (rowsDep a) (rowsDep b) + 1
  | .round _ a b _ => max (rowsDep a) (rowsDep b) + 1
  | _ => 0
def rowsDep : List Row → Nat
  | [] => 0
  | r :: rs => max r.dep (rowsDep rs)
end
mutual
/-- all sums are right, no list is long, calls go to what cs says -/
def Row.good (cs : Str → Prop) : Row → Prop
  | .put _ _ m => m.ok
  | .iff _ a b _ => (a.length ≤ 300 ∧ b.length ≤ 300) ∧ rowsGood cs a ∧ rowsGood cs b
  | .round _ a b _ => (a.length ≤ 300 ∧ b.length ≤ 300) ∧ rowsGood cs a ∧ rowsGood cs b
  | .call y => cs y
  | .undo y => cs y
  | _ => True
def rowsGood (cs : Str → Prop) : List Row → Prop
  | [] => True
  | r :: rs => r.good cs ∧ rowsGood cs rs
end
theorem rowsDep_mem : ∀ {rs : List Row} {r : Row}, r ∈ rs → r.dep ≤ rowsDep rs
  | q :: rs, r, h => by
    rw [rowsDep]
    rcases List.mem_cons.mp h with rfl | h
    · omega
    · have := rowsDep_mem h; omega
theorem rowsGood_mem {cs : Str → Prop} : ∀ {rs : List Row} {r : Row}, rowsGood cs rs → r ∈ rs → r.good cs
  | q :: rs, r, hf, h => by
    rw [rowsGood] at hf
    rcases List.mem_cons.mp h with rfl | h
    · exact hf.1
    · exact rowsGood_mem hf.2 h
theorem rowsDep_le {n : Nat} : ∀ {rs : List Row}, (∀ r ∈ rs, r.dep ≤ n) → rowsDep rs ≤ n
  | [], _ => by rw [rowsDep]; omega
  | q :: rs, h => by
    rw [rowsDep]
    have h1 := h q List.mem_cons_self
    have h2 := rowsDep_le (rs := rs) fun r hr => h r (List.mem_cons_of_mem _ hr)
    omega
theorem rowsGood_of {cs : Str → Prop} : ∀ {rs : List Row}, (∀ r ∈ rs, r.good cs) → rowsGood cs rs
  | [], _ => by rw [rowsGood]; trivial
  | q :: rs, h => by
    rw [rowsGood]
    exact ⟨h q List.mem_cons_self, rowsGood_of fun r hr => h r (List.mem_cons_of_mem _ hr)⟩
theorem plain_good {cs : Str → Prop} {r : Row} (h : r.plainB = true ∧ r.putOk) : r.good cs ∧ r.dep = 0 := by
  obtain ⟨h1, h2⟩ := h
  cases r <;> first | exact ⟨h2, rfl⟩ | exact ⟨trivial, rfl⟩ | cases h1
theorem perm4 {α : Type} (a b x f : α) : [f, x, a, b].Perm [a, b, x, f] :=
  (((List.Perm.swap b a []).cons x).cons f).trans (List.reverse_perm [a, b, x, f])
theorem perm_new {α : Type} {rd : α → D} (fl : Addr) (t2 : FrA) (k : Str) (n : Int) (d : D) (ps : List (FrA × Fr α)) : ((fl, d) :: (t2.x, frD t2 (⟨k, 0, [], [], n⟩ : Fr α)) :: (t2.a, .lst []) :: (t2.b, .lst []) :: frW rd ps).Perm ((fl, d) :: (frW rd ps ++ [(t2.a, .lst []), (t2.b, .lst []), (t2.x, frD t2 (⟨k, 0, [], [], n⟩ : Fr α))])) := by
  refine List.Perm.cons _ ?_
  have h1 : ([(t2.x, frD t2 (⟨k, 0, [], [], n⟩ : Fr α)), (t2.a, D.lst []), (t2.b, D.lst [])] : List (Addr × D)).Perm [(t2.a, .lst []), (t2.b, .lst []), (t2.x, frD t2 (⟨k, 0, [], [], n⟩ : Fr α))] :=
    (List.perm_append_comm (l₁ := [(t2.x, frD t2 (⟨k, 0, [], [], n⟩ : Fr α))]) (l₂ := [(t2.a, D.lst []), (t2.b, D.lst [])]))
  exact (h1.append_right (frW rd ps)).trans List.perm_append_comm
abbrev RFr := Fr Row
def rCount (block level : Int) : Str := "r" ++ toString block ++ toString level
def rQ0 (n : Int) (names : List Str) : Qn := ⟨if n % 2 = 0 then .eq else .lt, .box (nmAt names 5), .num (n / 2 % 4)⟩
def rQ (n : Int) (names : List Str) (q : Qn) : Qn := if n / 8 % 16 = 0 then lawQuestion (n / 128) names else q
def rClosed (f : RFr) (block level : Int) (names : List Str) : List Row :=
  if f.k = "if" then [.iff (rQ0 f.n names) f.a f.b (rQ f.n names (rQ0 f.n names))]
  else [.round (rQ f.n names ⟨.eq, .box (rCount block level), .num 0⟩) f.a (f.b ++ [.put (rCount block level) true (.one (.num 1))]) ⟨if f.n / 4 % 2 = 0 then .eq else .ge, .box (rCount block level), .num (f.n % 4)⟩, .put (rCount block level) false (.one (.num (f.n % 4)))]
def rClose (block : Int) (names : List Str) : List RFr → List RFr
  | t :: u :: r => if t.s = 0 then { t with s := 1 } :: u :: r else u.app (rClosed t block ((r.length + 1 : Nat) : Int) names) :: r
  | l => l
theorem rClose_cons (block : Int) (names : List Str) (t u : RFr) (r : List RFr) : rClose block names (t :: u :: r) = if t.s = 0 then { t with s := 1 } :: u :: r else u.app (rClosed t block ((r.length + 1 : Nat) : Int) names) :: r := rfl
def rNew (rest : Int) : RFr := ⟨if rest % 3 < 2 then "if" else "round", 0, [], [], rest / 3⟩
def rGoal (block many n : Int) (names : List Str) : Str := nmAt names (8 + block + 1 + n / 16 % (many - block - 1))
def rCall (block many n : Int) (names : List Str) : Row := if n / 16 / 8 % 2 = 0 then .call (rGoal block many n names) else .undo (rGoal block many n names)
def rStep (block many : Int) (names : List Str) (n : Int) : List RFr → List RFr
  | t :: r =>
    if n % 16 < 8 then t.app (lawSimple (n / 16) names) :: r
    else if n % 16 = 8 ∧ block + 1 < many then t.app [rCall block many n names] :: r
    else if n % 16 < 13 ∧ (r.length + 1 < 4) then rNew (n / 16) :: t :: r
    else if 1 < r.length + 1 then rClose block names (t :: r) else t :: r
  | [] => []
theorem rStep_cons (block many : Int) (names : List Str) (n : Int) (t : RFr) (r : List RFr) : rStep block many names n (t :: r) = if n % 16 < 8 then t.app (lawSimple (n / 16) names) :: r else if n % 16 = 8 ∧ block + 1 < many then t.app [rCall block many n names] :: r else if n % 16 < 13 ∧ (r.length + 1 < 4) then rNew (n / 16) :: t :: r else if 1 < r.length + 1 then rClose block names (t :: r) else t :: r := rfl
theorem str_digit {i : Int} (h : 0 ≤ i ∧ i < 10) : (toString i : Str).length ≤ 1 := by
  obtain ⟨n, rfl⟩ := Int.eq_ofNat_of_zero_le h.1
  exact Nat.le_of_eq (digit_text n (by omega))
theorem rq0_d (n : Int) (names : List Str) : D.tup [.str ((["=", "<"] : List Str).getD (n % 2).toNat default), .str (nmAt names 5), .int (n / 2 % 4)] = (rQ0 n names).d := by
  have h : n % 2 = 0 ∨ n % 2 = 1 := by omega
  unfold rQ0 Qn.d
  rcases h with h | h <;> rw [h] <;> rfl
theorem rlast_d (n : Int) (x : Str) : D.tup [.str ((["=", ">="] : List Str).getD (n / 4 % 2).toNat default), .str x, .int (n % 4)] = (⟨if n / 4 % 2 = 0 then .eq else .ge, .box x, .num (n % 4)⟩ : Qn).d := by
  have h : n / 4 % 2 = 0 ∨ n / 4 % 2 = 1 := by omega
  unfold Qn.d
  rcases h with h | h <;> rw [h] <;> rfl
theorem rcall_d (block many n : Int) (names : List Str) : D.tup [.str ((["call", "undo"] : List Str).getD (n / 16 / 8 % 2).toNat default), .str (rGoal block many n names)] = (rCall block many n names).d := by
  have h : n / 16 / 8 % 2 = 0 ∨ n / 16 / 8 % 2 = 1 := by omega
  unfold rCall
  rcases h with h | h <;> rw [h] <;> rfl
theorem rnew_k (rest : Int) : (["if", "if", "round"] : List Str).getD (rest % 3).toNat default = (rNew rest).k := by
  have h : rest % 3 = 0 ∨ rest % 3 = 1 ∨ rest % 3 = 2 := by omega
  show _ = if rest % 3 < 2 then _ else _
  rcases h with h | h | h <;> rw [h] <;> rfl
def rFrames (block many : Int) (names : List Str) (cells : List Int) : Nat → List RFr
  | 0 => [⟨"", 0, [], [], 0⟩]
  | i + 1 => rStep block many names (mixed (cells.getD i 0) i) (rFrames block many names cells i)
def rMeas : List RFr → Nat
  | [] => 0
  | t :: r => (if t.s = 0 then 2 else 1) + rMeas r
theorem rapp_s (f : RFr) (rs : List Row) : (f.app rs).s = f.s := by unfold Fr.app; split <;> rfl
theorem rClose_meas (block : Int) (names : List Str) {fs : List RFr} (h : 1 < fs.length) : rMeas (rClose block names fs) < rMeas fs := by
  match fs, h with
  | t :: u :: r, _ =>
    rw [rClose_cons]
    split
    · rename_i hc
      have h1 : ¬ ((1 : Int) = 0) := by omega
      simp only [rMeas, hc, if_neg h1, if_true]
      omega
    · simp only [rMeas, rapp_s]
      split <;> (try split) <;> omega
def rFinal (block : Int) (names : List Str) (fs : List RFr) : List RFr := if h : 1 < fs.length then rFinal block names (rClose block names fs) else fs
termination_by rMeas fs
decreasing_by exact rClose_meas block names h
theorem rFinal_one {block : Int} {names : List Str} {fs : List RFr} (h : ¬ 1 < fs.length) : rFinal block names fs = fs := by rw [rFinal, dif_neg h]
theorem rFinal_more {block : Int} {names : List Str} {fs : List RFr} (h : 1 < fs.length) : rFinal block names fs = rFinal block names (rClose block names fs) := by rw [rFinal, dif_pos h]
def rBot : List RFr → List Row
  | [] => []
  | f :: _ => f.a
def lawBlock (block many : Int) (names : List Str) (cells : List Int) : List Row := rBot (rFinal block names (rFrames block many names cells cells.length))
def RInv (cs : Str → Prop) (B : Nat) : List RFr → Prop
  | [] => True
  | f :: r => (f.s = 0 ∨ f.s = 1) ∧ f.a.length ≤ B ∧ f.b.length ≤ B ∧ (∀ q ∈ f.a, q.good cs ∧ q.dep + r.length ≤ 3) ∧ (∀ q ∈ f.b, q.good cs ∧ q.dep + r.length ≤ 3) ∧ r.length ≤ 3 ∧ RInv cs B r
theorem RInv.mono {cs : Str → Prop} {B B' : Nat} (h : B ≤ B') : ∀ {fs : List RFr}, RInv cs B fs → RInv cs B' fs
  | [], _ => trivial
  | f :: r, ⟨h1, h2, h3, h4, h5, h6, h7⟩ => ⟨h1, by omega, by omega, h4, h5, h6, RInv.mono h h7⟩
theorem RInv.app {cs : Str → Prop} {B m : Nat} {f : RFr} {r : List RFr} {rs : List Row} (h : RInv cs B (f :: r)) (hl : rs.length ≤ m) (hr : ∀ q ∈ rs, q.good cs ∧ q.dep + r.length ≤ 3) : RInv cs (B + m) (f.app rs :: r) := by
  obtain ⟨h1, h2, h3, h4, h5, h6, h7⟩ := h
  unfold Fr.app
  split
  · refine ⟨h1, by show (f.a ++ rs).length ≤ _; rw [List.length_append]; omega, by show f.b.length ≤ _; omega, fun q hq => ?_, h5, h6, h7.mono (by omega)⟩
    rcases List.mem_append.mp hq with hq | hq
    · exact h4 q hq
    · exact hr q hq
  · refine ⟨h1, by show f.a.length ≤ _; omega, by show (f.b ++ rs).length ≤ _; rw [List.length_append]; omega, h4, fun q hq => ?_, h6, h7.mono (by omega)⟩
    rcases List.mem_append.mp hq with hq | hq
    · exact h5 q hq
    · exact hr q hq
theorem rClosed_ok {cs : Str → Prop} {B : Nat} {f : RFr} {r : List RFr} {block level : Int} {names : List Str} (h : RInv cs B (f :: r)) (hr : 1 ≤ r.length) (hB : B ≤ 280) : (rClosed f block level names).length ≤ 2 ∧ ∀ q ∈ rClosed f block level names, q.good cs ∧ q.dep + (r.length - 1) ≤ 3 := by
  obtain ⟨h1, h2, h3, h4, h5, h6, h7⟩ := h
  have da : rowsDep f.a ≤ 3 - r.length := rowsDep_le fun q hq => by have := (h4 q hq).2; omega
  have db : rowsDep f.b ≤ 3 - r.length := rowsDep_le fun q hq => by have := (h5 q hq).2; omega
  have fa : rowsGood cs f.a := rowsGood_of fun q hq => (h4 q hq).1
  have fb : rowsGood cs f.b := rowsGood_of fun q hq => (h5 q hq).1
  unfold rClosed
  split
  · refine ⟨by simp, fun q hq => ?_⟩
    rw [List.mem_singleton] at hq
    subst hq
    exact ⟨by rw [Row.good]; exact ⟨⟨by omega, by omega⟩, fa, fb⟩, by rw [Row.dep]; omega⟩
  · refine ⟨by simp, fun q hq => ?_⟩
    simp only [List.mem_cons, List.not_mem_nil, or_false] at hq
    rcases hq with rfl | rfl
    · refine ⟨?_, ?_⟩
      · rw [Row.good]
        refine ⟨⟨by omega, by rw [List.length_append, List.length_singleton]; omega⟩, fa, ?_⟩
        refine rowsGood_of fun q hq => ?_
        rcases List.mem_append.mp hq with hq | hq
        · exact (h5 q hq).1
        · rw [List.mem_singleton] at hq; subst hq
          exact show (0 : Int) ≤ 1 ∧ (1 : Int) < 1000000 by omega
      · rw [Row.dep]
        have : rowsDep (f.b ++ [Row.put (rCount block level) true (.one (.num 1))]) ≤ 3 - r.length := rowsDep_le fun q hq => by
          rcases List.mem_append.mp hq with hq | hq
          · have := (h5 q hq).2; omega
          · rw [List.mem_singleton] at hq; subst hq; exact Nat.zero_le _
        omega
    · exact ⟨show (0 : Int) ≤ f.n % 4 ∧ f.n % 4 < 1000000 by omega, by show 0 + _ ≤ 3; omega⟩
theorem RInv.close {cs : Str → Prop} {B : Nat} {block : Int} {names : List Str} (hB : B ≤ 280) : ∀ {fs : List RFr}, RInv cs B fs → RInv cs (B + 2) (rClose block names fs)
  | [], h => trivial
  | [f], h => h.mono (by omega)
  | t :: u :: r, h => by
    rw [rClose_cons]
    split
    · obtain ⟨h1, h2, h3, h4, h5, h6, h7⟩ := h
      exact ⟨.inr rfl, by show t.a.length ≤ _; omega, by show t.b.length ≤ _; omega, h4, h5, h6, h7.mono (by omega)⟩
    · obtain ⟨c1, c2⟩ := rClosed_ok (block := block) (level := ((r.length + 1 : Nat) : Int)) (names := names) h (by simp) hB
      obtain ⟨h1, h2, h3, h4, h5, h6, h7⟩ := h
      exact h7.app c1 fun q hq => by have := c2 q hq; rw [List.length_cons] at this; exact ⟨this.1, by omega⟩
theorem RInv.step {cs : Str → Prop} {B : Nat} {block many : Int} {names : List Str} {n : Int} (hB : B ≤ 280) (hcs : block + 1 < many → cs (rGoal block many n names)) : ∀ {fs : List RFr}, RInv cs B fs → RInv cs (B + 3) (rStep block many names n fs)
  | [], h => trivial
  | t :: r, h => by
    have hr3 := h.2.2.2.2.2.1
    rw [rStep_cons]
    split
    · exact h.app (m := 3) (lawSimple_len _ _) fun q hq => by
        obtain ⟨g1, g2⟩ := plain_good (cs := cs) (lawSimple_plain _ _ q hq)
        exact ⟨g1, by omega⟩
    · split
      · rename_i hc
        exact h.app (m := 3) (by simp) fun q hq => by
          rw [List.mem_singleton] at hq; subst hq
          unfold rCall
          split
          · exact ⟨hcs hc.2, by show 0 + _ ≤ 3; omega⟩
          · exact ⟨hcs hc.2, by show 0 + _ ≤ 3; omega⟩
      · split
        · rename_i hc
          exact ⟨.inl rfl, Nat.zero_le _, Nat.zero_le _, (fun q hq => by cases hq), (fun q hq => by cases hq), by show (t :: r).length ≤ 3; rw [List.length_cons]; omega, h.mono (by omega)⟩
        · split
          · exact (RInv.close hB h).mono (by omega)
          · exact h.mono (by omega)
theorem rClose_ne (block : Int) (names : List Str) : ∀ {fs : List RFr}, fs ≠ [] → rClose block names fs ≠ []
  | [], h => absurd rfl h
  | [f], _ => by intro h; cases h
  | t :: u :: r, _ => by rw [rClose_cons]; split <;> (intro h; cases h)
theorem rStep_ne (block many : Int) (names : List Str) (n : Int) : ∀ {fs : List RFr}, fs ≠ [] → rStep block many names n fs ≠ []
  | [], h => absurd rfl h
  | t :: r, _ => by
    rw [rStep_cons]
    split
    · intro h; cases h
    · split
      · intro h; cases h
      · split
        · intro h; cases h
        · split
          · exact rClose_ne block names (by intro h; cases h)
          · intro h; cases h
theorem rFrames_ok {cs : Str → Prop} (block many : Int) (names : List Str) (cells : List Int) (hcs : ∀ n, block + 1 < many → cs (rGoal block many n names)) : ∀ i, i ≤ 80 → RInv cs (3 * i) (rFrames block many names cells i) ∧ rFrames block many names cells i ≠ []
  | 0, _ => ⟨⟨.inl rfl, Nat.le_refl _, Nat.le_refl _, (fun q h => by cases h), (fun q h => by cases h), Nat.zero_le _, trivial⟩, by intro h; cases h⟩
  | i + 1, hi => by
    obtain ⟨h1, h2⟩ := rFrames_ok block many names cells hcs i (by omega)
    rw [rFrames]
    exact ⟨RInv.step (show 3 * i ≤ 280 by omega) (hcs _) h1, rStep_ne _ _ _ _ h2⟩
theorem rMeas_le {cs : Str → Prop} {B : Nat} : ∀ {fs : List RFr}, RInv cs B fs → rMeas fs ≤ 8
  | [], _ => by rw [rMeas]; omega
  | t :: r, h => by
    have : ∀ fs : List RFr, rMeas fs ≤ 2 * fs.length := fun fs => by
      induction fs with
      | nil => rw [rMeas]; omega
      | cons f r ih => rw [rMeas, List.length_cons]; split <;> omega
    have h1 := this (t :: r)
    have h2 := h.2.2.2.2.2.1
    rw [List.length_cons] at h1
    omega
theorem rFinal_ok {cs : Str → Prop} (block : Int) (names : List Str) : ∀ (m : Nat) (B : Nat) (fs : List RFr), rMeas fs ≤ m → B + 2 * m ≤ 280 → RInv cs B fs → fs ≠ [] → RInv cs (B + 2 * m) (rFinal block names fs) ∧ ∃ f, rFinal block names fs = [f]
  | m, B, fs, hm, hB, h, hne => by
    by_cases h1 : 1 < fs.length
    · rw [rFinal_more h1]
      have h2 := rClose_meas block names h1
      match m, hm, hB with
      | 0, hm, _ => omega
      | m + 1, hm, hB =>
        obtain ⟨q1, q2⟩ := rFinal_ok (cs := cs) block names m (B + 2) (rClose block names fs) (by omega) (by omega) (RInv.close (by omega) h) (rClose_ne block names hne)
        exact ⟨q1.mono (by omega), q2⟩
    · rw [rFinal_one h1]
      refine ⟨h.mono (by omega), ?_⟩
      match fs, hne, h1 with
      | [f], _, _ => exact ⟨f, rfl⟩
      | t :: u :: r, _, h1 => simp at h1
theorem lawBlock_ok {cs : Str → Prop} (block many : Int) (names : List Str) (cells : List Int) (hl : cells.length ≤ 63) (hcs : ∀ n, block + 1 < many → cs (rGoal block many n names)) : rowsDep (lawBlock block many names cells) ≤ 3 ∧ rowsGood cs (lawBlock block many names cells) ∧ (lawBlock block many names cells).length ≤ 250 := by
  obtain ⟨h1, h2⟩ := rFrames_ok (cs := cs) block many names cells hcs cells.length (by omega)
  obtain ⟨h3, f, hf⟩ := rFinal_ok block names 8 _ _ (rMeas_le h1) (by omega) h1 h2
  unfold lawBlock
  rw [hf] at h3 ⊢
  obtain ⟨i1, i2, i3, i4, i5, i6, i7⟩ := h3
  exact ⟨rowsDep_le fun q hq => by have := (i4 q hq).2; omega, rowsGood_of fun q hq => (i4 q hq).1, by show f.a.length ≤ 250; omega⟩
end DL

set_option Elab.async false
set_option linter.all false
set_option maxRecDepth 100000
set_option maxHeartbeats 4000000
namespace DL
open PySem L2 PyProof.Rows
def idxL (n : Nat) (i j : Int) : List Nat := sliceRange (sliceBounds (some i) none (some j) n).1 (sliceBounds (some i) none (some j) n).2.1 (sliceBounds (some i) none (some j) n).2.2
def stepL {α : Type} (xs : List α) (i j : Int) : List α := (idxL xs.length i j).filterMap (xs[·]?)
theorem pick_eq (items : Array Value) (i j : Int) : slicePick items (some i) none (some j) = (stepL items.toList i j).toArray := by
  unfold slicePick stepL idxL
  simp
def qStep (K : PySem.W.Frag) (Q : VK) (x : V) (i : Int) : Option Int → Hp → Prop
  | some j, H3 => ∃ a xs, x = .ref a ∧ SqL K H3 a xs ∧ j ≠ 0 ∧ (stepL xs i j).length ≤ sizeLine ∧ ∀ p, H3 p = none → Q (.ref p) (upd H3 p (.lst (stepL xs i j)))
  | none, _ => False
def qLo (K : PySem.W.Frag) (ts : TE) (σ : L2.St) (Q : VK) (x : V) : Option Int → Hp → Prop
  | some i, H2 => tPart ts σ H2 (qStep K Q x i)
  | none, _ => False
def tStepL (K : PySem.W.Frag) (te tl ts : TE) : TE := fun σ H Q => te σ H fun x H1 => tPart tl σ H1 (qLo K ts σ Q x)
theorem vals_pick {xs : List V} {us : List Value} (r : Vals xs us) : ∀ is : List Nat, Vals (is.filterMap (xs[·]?)) (is.filterMap (us[·]?))
  | [] => .nil
  | i :: is => by
    have hl := r.length
    rw [List.filterMap_cons, List.filterMap_cons]
    cases e : xs[i]? with
    | none =>
      have : us[i]? = none := by rw [List.getElem?_eq_none_iff] at e ⊢; omega
      rw [this]
      exact vals_pick r is
    | some x =>
      obtain ⟨u, h1, h2⟩ := r.get e
      rw [h1]
      exact .cons h2 (vals_pick r is)
theorem rep_pick {K : PySem.W.Frag} {F : Hp} {vs : List V} {ds : List D} (r : RepL K F vs ds) : ∀ is : List Nat, RepL K F (is.filterMap (vs[·]?)) (is.filterMap (ds[·]?))
  | [] => .nil
  | i :: is => by
    have hl := r.length
    rw [List.filterMap_cons, List.filterMap_cons]
    cases e : ds[i]? with
    | none =>
      have : vs[i]? = none := by rw [List.getElem?_eq_none_iff] at e ⊢; omega
      rw [this]
      exact rep_pick r is
    | some x =>
      obtain ⟨u, h1, h2⟩ := r.get e
      rw [h1]
      exact .cons h2 (rep_pick r is)
theorem stepL_len {α : Type} (xs : List α) {i j : Int} (hi : 0 ≤ i) (hj : 0 < j) : (stepL xs i j).length ≤ xs.length := by
  unfold stepL
  refine Nat.le_trans (List.length_filterMap_le _ _) ?_
  unfold idxL
  refine Nat.le_trans (sliceRange_len_le _ _ _ (by show j ≠ 0; omega)) ?_
  have e1 : (sliceBounds (some i) none (some j) xs.length).2.2 = j := rfl
  have e2 : (sliceBounds (some i) none (some j) xs.length).1 = max 0 (min i (xs.length : Int)) := by
    show (if j > 0 then max 0 (min (if i < 0 then i + (xs.length : Int) else i) (xs.length : Int)) else _) = _
    rw [if_pos hj, if_neg (by omega)]
  have e3 : (sliceBounds (some i) none (some j) xs.length).2.1 = (xs.length : Int) := by
    show (if j > 0 then (xs.length : Int) else -1) = _
    rw [if_pos hj]
  rw [e1, e2, e3, if_pos hj]
  omega
theorem stepL_map {α β : Type} (f : α → β) (xs : List α) (i j : Int) : stepL (xs.map f) i j = (stepL xs i j).map f := by
  unfold stepL
  rw [List.length_map]
  generalize idxL xs.length i j = is
  induction is with
  | nil => rfl
  | cons k r ih =>
    rw [List.filterMap_cons, List.filterMap_cons, List.getElem?_map]
    cases xs[k]? with
    | none => exact ih
    | some x => exact congrArg (f x :: ·) ih
theorem pe_stepL {X : Cx} {e l st : Expr} {te tl ts : TE} {p2 pos : Pos} (he : PE X e te) (hl : PE X l tl) (hs : PE X st ts) : PE X (.Subscript e (.Slice (some l) none (some st) p2) pos) (tStepL X.K te tl ts) := by
  refine ⟨fun pins s σ H Q I h => ?_⟩
  refine Subscript_ (thn (he.run pins s σ H _ I h) fun v s1 ⟨x, H1, I1, r1, q1⟩ => ?_)
  refine wpAny_Slice (thn ((po_some hl).run pins s1 σ H1 _ I1 q1) fun vl s2 ⟨o, H2, I2, pl, q2⟩ => ?_)
  obtain ⟨i, rfl⟩ : ∃ i, o = some i := by cases o with | none => exact q2.elim | some i => exact ⟨i, rfl⟩
  refine thn (po_none.run pins s2 σ H2 (fun o H3 => o = none ∧ H3 = H2) I2 ⟨rfl, rfl⟩) fun vu s3 ⟨u, H3, I3, pu, eu, e3⟩ => ?_
  subst eu e3
  refine thn ((po_some hs).run pins s3 σ H3 _ I3 q2) fun vs s4 ⟨o, H4, I4, ps, q4⟩ => ?_
  obtain ⟨j, rfl⟩ : ∃ j, o = some j := by cases o with | none => exact q4.elim | some j => exact ⟨j, rfl⟩
  obtain ⟨a, xs, ex, hx, h0, hz, q⟩ := q4
  subst ex
  cases r1
  have I5 : Inv X pins σ H4 { s4 with heap := s4.heap.push { cls := .type "slice", data := .fields #[vl, vu, vs] } } := I4.kept (t' := s4.toks) fun b ob q => Heap.get?_push_of_some _ q
  obtain ⟨its, r, ht, hz2⟩ := I5.list hx
  have hlen := r.length
  show wpAny (model X.prog X.w) X.A (subscriptTail e (.Slice (some l) none (some st) p2) (.ref a) (.ref s4.heap.objs.size)) (EP X pins σ Q) X.xe { s4 with heap := s4.heap.push { cls := .type "slice", data := .fields #[vl, vu, vs] } }
  refine tail_any (ops := [.ref a, .ref s4.heap.objs.size]) ht.isList.typeIs (PySem.slot_list_getitem.lookup) ?_ (by with_unfolding_all rfl)
  refine wpAny_getItem_list_slice ht.isList (Heap.IsSliceOf.new _ vl vu vs) pl pu ps (by simpa using h0) ?_ (by rw [List.size_toArray]; omega)
  rw [pick_eq]
  have rp : Vals (stepL xs i j) (stepL its.toArray.toList i j) := by
    show Vals (stepL xs i j) (stepL its i j)
    unfold stepL
    rw [hlen]
    exact vals_pick r _
  refine ⟨.ref _, _, I5.laid (t' := s4.toks) (o := .lst (stepL xs i j)) (fun b ob q => Heap.get?_push_of_some _ q) (Nat.le_refl _) ?_, rfl, q _ (I5.hok.fresh (Nat.le_refl _))⟩
  exact ⟨hz, _, 0, rp, Heap.get?_push_size _ rfl⟩
variable {c : Cc} {η : Nm} {ρ : Rho} {a l st : Expr} {ds : List D} {pos p2 : Pos} {i j : Int}
theorem eo_slStep (hi : 0 ≤ i) (hj : 0 < j) (hz : ds.length ≤ 100000) (ha : ED c η a ρ (.lst ds)) (hl : ED c η l ρ (.int i)) (hs : ED c η st ρ (.int j)) : EO c η (.Subscript a (.Slice (some l) none (some st) p2) pos) ρ (.lst (stepL ds i j)) := ⟨fun F0 H0 σ F H S Q q =>
  WE.of (t := tStepL c.K (WE c η a) (WE c η l) (WE c η st)) (fun X hX => by rw [← hX.K]; exact pe_stepL (WE.pe hX) (WE.pe hX) (WE.pe hX)) (ha.run F0 H0 σ F H S _ fun v F1 H1 g1 r1 => hl.run F0 H0 σ F1 H1 (S.grow g1) _ fun u F2 H2 g2 r2 => by
    cases r2
    refine ⟨i, rfl, hs.run F0 H0 σ F2 H2 ((S.grow g1).grow g2) _ fun w F3 H3 g3 r3 => ?_⟩
    cases r3
    have r1 := r1.mono (g2.f.trans g3.f)
    have S3 := ((S.grow g1).grow g2).grow g3
    cases r1 with
    | @lst b vs _ hf r =>
      have hln := r.length
      refine ⟨j, rfl, b, vs, rfl, SqL.of (S3.fh _ _ hf), by omega, ?_, fun p hp => ?_⟩
      · exact Nat.le_trans (stepL_len vs hi hj) (by rw [hln]; exact len_line hz)
      · have e : RepL c.K F3 (stepL vs i j) (stepL ds i j) := by
          unfold stepL
          rw [hln]
          exact rep_pick r _
        exact q p F3 _ (((g1.trans g2).trans g3).trans (.apart S3.fh hp)) (S3.fh.free hp) (((g1.trans g2).trans g3).h.free hp) (obj_lst e))⟩
end DL


set_option Elab.async false
set_option linter.all false
set_option maxRecDepth 100000
set_option maxHeartbeats 4000000
namespace DL
open PySem L2
section
variable {c : Cc} {η : Nm} {ρ : Rho} {es : List Expr} {pos : Pos}
theorem ee_tup {x1 : Nat} {P : List D → Rho → Prop} (h : EAE c η es ρ P) (hl : ∀ ds ρ', P ds ρ' → ds.length ≤ 100000) : EE c η (.Tuple es x1 pos) ρ (fun d ρ' => ∃ ds, P ds ρ' ∧ d = .tup ds) := ⟨fun F0 H0 σ F H S Q q =>
  WE.of (fun X hX => pe_tup (WA.pa hX)) (h.run F0 H0 σ F H S _ fun vs ds ρ1 F1 H1 hp S1 r1 => ⟨by rw [r1.length]; exact len_line (hl ds ρ1 hp), fun y hy =>
    q (.ref y) _ ρ1 _ _ ⟨ds, hp, rfl⟩ (S1.grow (.new S1.fh hy)) (.tup (.inl (.inl upd_same)) (r1.mono (same_upd (S1.fh.free hy))))⟩)⟩
end
abbrev PB := Addr × (Str × List Row)
def pbT (bs : List PB) : List D := bs.map fun b => .tup [.str b.2.1, .ref b.1]
def pbW (bs : List PB) : List (Addr × D) := bs.map fun b => (b.1, .lst (rowsD b.2.2))
def pbD (bs : List PB) : List D := bs.map fun b => .tup [.str b.2.1, .lst (rowsD b.2.2)]
theorem pbD_prog (bs : List PB) : pbD bs = progD (bs.map (·.2)) := by unfold pbD progD; rw [List.map_map]; rfl
theorem RTL.app {x : Addr} {d0 : D} : ∀ {a : List D} {b b' : List D}, RTL x d0 b b' → RTL x d0 (a ++ b) (a ++ b')
  | [], _, _, h => h
  | d :: a, _, _, h => .cons (.same d) (RTL.app h)
def blockAt (cells : List Int) (names : List Str) (many : Int) (j : Nat) : Str × List Row := (nmAt names (8 + (j : Nat)), lawBlock j many names (stepL cells j many))
def lawProg0 (cells : List Int) (names : List Str) (many : Int) : Prog := (List.range many.toNat).map (blockAt cells names many)
def lawLast0 (names : List Str) (way many : Int) : Row := if way / 72 % 2 = 0 then .call (nmAt names (8 + way / 24 % many)) else .undo (nmAt names (8 + way / 24 % many))
def sureQ (names : List Str) : Qn := ⟨.ge, .box (nmAt names 5), .num 0⟩
def lawLast (names : List Str) (way many : Int) : Row :=
  if 0 < way / 144 % 3 then (if way / 144 % 3 = 1 then .iff (sureQ names) [lawLast0 names way many] [] (sureQ names) else .round (sureQ names) [lawLast0 names way many] [] (sureQ names)) else lawLast0 names way many
def addLast (r : Row) : Prog → Prog
  | [] => []
  | [b] => [(b.1, b.2 ++ [r])]
  | b :: bs => b :: addLast r bs
def lawMany (way : Int) : Int := 1 + way % 3
def lawProg (cells : List Int) (names : List Str) (way : Int) : Prog := if way / 3 % 8 = 5 then addLast (lawLast names way (lawMany way)) (lawProg0 cells names (lawMany way)) else lawProg0 cells names (lawMany way)
theorem addLast_app (r : Row) : ∀ (bs : Prog) (b : Str × List Row), addLast r (bs ++ [b]) = bs ++ [(b.1, b.2 ++ [r])]
  | [], b => rfl
  | [a], b => rfl
  | a :: a2 :: bs, b => by
    have := addLast_app r (a2 :: bs) b
    exact congrArg (a :: ·) this
theorem lawLast0_d (names : List Str) (way many : Int) : D.tup [.str ((["call", "undo"] : List Str).getD (way / 72 % 2).toNat default), .str (nmAt names (8 + way / 24 % many))] = (lawLast0 names way many).d := by
  have h : way / 72 % 2 = 0 ∨ way / 72 % 2 = 1 := by omega
  unfold lawLast0
  rcases h with h | h <;> rw [h] <;> rfl
theorem lawLast_d (names : List Str) (way many : Int) (h : 0 < way / 144 % 3) : D.tup [.str ((["if", "round"] : List Str).getD (way / 144 % 3 - 1).toNat default), (sureQ names).d, .lst [(lawLast0 names way many).d], .lst [], (sureQ names).d] = (lawLast names way many).d := by
  have h2 : way / 144 % 3 = 1 ∨ way / 144 % 3 = 2 := by omega
  unfold lawLast
  rw [if_pos h]
  rcases h2 with h2 | h2
  · rw [h2]; rfl
  · rw [h2]; rfl
theorem pbT_snoc (bs : List PB) (b : PB) : pbT (bs ++ [b]) = pbT bs ++ [.tup [.str b.2.1, .ref b.1]] := by unfold pbT; rw [List.map_append]; rfl
theorem pbW_snoc (bs : List PB) (b : PB) : pbW (bs ++ [b]) = pbW bs ++ [(b.1, .lst (rowsD b.2.2))] := by unfold pbW; rw [List.map_append]; rfl
theorem pbT_len (bs : List PB) : (pbT bs).length = bs.length := by unfold pbT; rw [List.length_map]
theorem pbW_len (bs : List PB) : (pbW bs).length = bs.length := by unfold pbW; rw [List.length_map]
end DL

set_option Elab.async false
set_option linter.all false
set_option maxRecDepth 100000
set_option maxHeartbeats 4000000
namespace DL
open PySem L2
abbrev BF := Gs → Row → Plc → Bool → Bool × Gs
def sideOf (t : Bool) : Int := if t then 0 else 1
def partOf (r : Row) (t : Bool) : List Row := if t then r.ra else r.rb
def Gs.deeper (g : Gs) : Gs := { g with calls := g.calls + 1 }
structure Gs.ok (pr : Prog) (mo : Int) (g : Gs) : Prop where
  blocks : g.blocks = pr
  most : g.most = mo
  bx : BxOk g.boxes
  pl : ∀ i ∈ g.pile, 0 ≤ i ∧ i < 1000000
  bl : (g.boxes.length : Int) ≤ 1000 + 2 * g.steps
  pll : (g.pile.length : Int) ≤ 1000 + g.steps
  st : 0 ≤ g.steps ∧ g.steps ≤ mo
  mo : mo ≤ 1500
  cl : 0 ≤ g.calls ∧ g.calls ≤ 10
  word : g.word = none
  place : g.place = none
  todo : g.todo = []
structure Gs.fell (pr : Prog) (mo : Int) (g : Gs) : Prop where
  blocks : g.blocks = pr
  most : g.most = mo
  bl : g.boxes.length ≤ 4000
  pll : g.pile.length ≤ 4000
  st : 0 ≤ g.steps ∧ g.steps ≤ mo
  word : g.word ≠ none
  place : ∀ q, g.place = some q → q.is.length ≤ 2000
  todo : g.todo = []
def BPost (pr : Prog) (mo : Int) (g : Gs) (x : Bool × Gs) : Prop := if x.1 = true then x.2.ok pr mo ∧ x.2.calls = g.calls ∧ g.steps ≤ x.2.steps else x.2.fell pr mo
section
variable {pr : Prog} {mo : Int} {cs : Str → Prop} {g g1 : Gs} {x : Bool × Gs} {q : Qn} {p : Plc} {k : Bool} {r : Row} {rs : List Row} {back : Bool} {f : BF} {n : Nat}
theorem BPost.t (h : BPost pr mo g x) (e : x.1 = true) : x.2.ok pr mo ∧ x.2.calls = g.calls ∧ g.steps ≤ x.2.steps := by unfold BPost at h; rwa [if_pos e] at h
theorem BPost.no (h : BPost pr mo g x) (e : ¬ x.1 = true) : x.2.fell pr mo := by unfold BPost at h; rwa [if_neg e] at h
theorem bpost_t (e : x.1 = true) (h : x.2.ok pr mo ∧ x.2.calls = g.calls ∧ g.steps ≤ x.2.steps) : BPost pr mo g x := by unfold BPost; rwa [if_pos e]
theorem bpost_f (e : ¬ x.1 = true) (h : x.2.fell pr mo) : BPost pr mo g x := by unfold BPost; rwa [if_neg e]
theorem BPost.from (h : BPost pr mo g1 x) (h1 : g1.calls = g.calls) (h2 : g.steps ≤ g1.steps) : BPost pr mo g x := by
  by_cases e : x.1 = true
  · obtain ⟨a, b, c⟩ := h.t e
    exact bpost_t e ⟨a, b.trans h1, by omega⟩
  · exact bpost_f e (h.no e)
theorem may_no (e : g.steps = g.most) : g.may = (false, g.over .long none) := by unfold Gs.may; rw [if_pos e]
theorem may_yes (e : ¬ g.steps = g.most) : g.may = (true, { g with steps := g.steps + 1 }) := by unfold Gs.may; rw [if_neg e]
theorem rowAt_mem {rs : List Row} {k : Nat} (h : k < rs.length) : rs.getD k (.call "") ∈ rs := by
  rw [List.getD_eq_getElem?_getD, List.getElem?_eq_getElem h]
  exact List.getElem_mem h
end
end DL

set_option Elab.async false
set_option linter.all false
set_option maxRecDepth 100000
set_option maxHeartbeats 4000000
namespace DL
open PySem L2
def Gs.like (e g : Gs) : Prop := e.word = g.word ∧ e.boxes = g.boxes ∧ e.pile = g.pile ∧ e.steps = g.steps ∧ e.place = g.place
theorem Gs.like.refl (g : Gs) : g.like g := ⟨rfl, rfl, rfl, rfl, rfl⟩
def Gs.lay (g : Gs) (T : List Tk) : Gs := { g with todo := T }
def Leads (x : Bool × Gs) (T : List Tk) (s : Gs) : Prop := (x.1 = true → ∀ m e, Runs m (x.2.lay T) e → ∃ m', Runs m' s e) ∧ (x.1 = false → ∃ m e, Runs m s e ∧ e.like x.2)
section
variable {pr : Prog} {mo : Int} {cs : Str → Prop} {g g1 s : Gs} {x y : Bool × Gs} {q : Qn} {p : Plc} {k : Bool} {r : Row} {rs : List Row} {back : Bool} {f : BF} {n : Nat} {T T1 : List Tk} {t : Tk}
theorem Leads.trans (h : Leads x T1 s) (ht : x.1 = true → Leads y T (x.2.lay T1)) (hf : x.1 = false → y.1 = false ∧ x.2.like y.2) : Leads y T s := by
  cases e : x.1 with
  | true =>
    obtain ⟨a, b⟩ := ht e
    refine ⟨fun e2 m z hz => ?_, fun e2 => ?_⟩
    · obtain ⟨m', h'⟩ := a e2 m z hz
      exact h.1 e m' z h'
    · obtain ⟨m, z, h1, h2⟩ := b e2
      obtain ⟨m', h'⟩ := h.1 e m z h1
      exact ⟨m', z, h', h2⟩
  | false =>
    obtain ⟨a, b⟩ := hf e
    refine ⟨fun e2 => (by rw [a] at e2; cases e2), fun _ => ?_⟩
    obtain ⟨m, z, h1, h2⟩ := h.2 e
    exact ⟨m, z, h1, h2.1.trans b.1, h2.2.1.trans b.2.1, h2.2.2.1.trans b.2.2.1, h2.2.2.2.1.trans b.2.2.2.1, h2.2.2.2.2.trans b.2.2.2.2⟩
theorem ok_fit (h : g.ok pr mo) (hT : T.length < 50000) : (g.lay T).fit := by
  obtain ⟨h1, h2, h3, h4, h5, h6, h7, h8, h9, h10, h11, h12⟩ := h
  exact ⟨h3, by show g.boxes.length < _; omega, by show g.pile.length < _; omega, hT⟩
theorem Leads.turn (ok : g.ok pr mo) (hT : T1.length < 49999) (fine : t.fine pr) (h : Leads x T ((g.lay T1).turn t)) : Leads x T (g.lay (T1 ++ [t])) := by
  have fit : (g.lay (T1 ++ [t])).fit := ok_fit ok (by rw [List.length_append, List.length_singleton]; omega)
  have step : ∀ m e, Runs m ((g.lay T1).turn t) e → ∃ m', Runs m' (g.lay (T1 ++ [t])) e := fun m e hr => ⟨m + 1, .turn rfl fit (by show t.fine g.blocks; rw [ok.blocks]; exact fine) hr⟩
  refine ⟨fun e m z hz => ?_, fun e => ?_⟩
  · obtain ⟨m', h'⟩ := h.1 e m z hz
    exact step m' z h'
  · obtain ⟨m, z, h1, h2⟩ := h.2 e
    obtain ⟨m', h'⟩ := step m z h1
    exact ⟨m', z, h', h2⟩
end
end DL

set_option Elab.async false
set_option linter.all false
set_option maxRecDepth 100000
set_option maxHeartbeats 4000000
namespace DL
open PySem L2
section
variable {c : Cc} {η : Nm} {ρ ρ1 : Rho} {a b e : Expr} {pos : Pos}
end
section
variable {c : Cc} {η : Nm} {sl : List Sl} {b p a : Addr} {g : Gs} {o k e : Expr} {ps ps2 ps3 : Pos} {j : Nat} {i : Int} {y : Str}
end
section
variable {f : BF} {rs : List Row} {p : Plc} {back : Bool}
end
end DL

set_option Elab.async false
set_option linter.all false
set_option maxRecDepth 100000
set_option maxHeartbeats 4000000
namespace DL
open PySem L2
end DL

set_option Elab.async false
set_option linter.all false
set_option maxRecDepth 100000
set_option maxHeartbeats 4000000
namespace DL
open PySem L2
theorem tailL_len (a : Nat) : (tailL a).length = 6 := by unfold tailL; rw [List.length_map, List.length_range]
theorem lawWord_ne (x : Int) {i j : Nat} (hi : i < 12) (hj : j < 12) (h : lawWord x i = lawWord x j) : i = j := by
  have h : (lawWord x i).cps.toList = (lawWord x j).cps.toList := by rw [h]
  have hz := lawSize_ok x
  by_cases h1 : x % 3 = 1
  · have p0 : 0 ≤ x / 15 % lawSize x := Int.emod_nonneg _ (by omega)
    have p1 : x / 15 % lawSize x < lawSize x := Int.emod_lt_of_pos _ (by omega)
    have form : ∀ k : Nat, ∃ r : List Nat, (lawWord x k).cps.toList = (tailL (x / 72 % 26).toNat).take (x / 15 % lawSize x).toNat ++ ((97 + ((x / 72 % 26).toNat + 5 * k) % 26) :: r) := fun k => by
      rw [lawWord_1 h1, append_cps, append_cps, cutS_to _ p0, lawTail_cps, ltr_cps (by omega) (by omega)]
      have e : ((x / 72 + 5 * (0 + (k : Nat))) % 26).toNat = ((x / 72 % 26).toNat + 5 * k) % 26 := by omega
      rw [e, List.append_assoc]
      exact ⟨_, rfl⟩
    obtain ⟨r1, e1⟩ := form i
    obtain ⟨r2, e2⟩ := form j
    rw [e1, e2] at h
    have h := List.append_cancel_left h
    have h := (List.cons.inj h).1
    omega
  · by_cases h2 : x % 3 = 2
    · have form : ∀ k : Nat, (lawWord x k).cps.toList = (97 + ((x / 72 + 7 * ((0 + (k : Nat)) / 4)) % 26).toNat) :: (52 :: tailL (x / 72 % 26).toNat).take ((0 + (k : Int)) % 4 + x / 18 % 3).toNat := fun k => by
        rw [lawWord_2 h1 h2, append_cps, cutS_to _ (by omega), ltr_cps (by omega) (by omega), append_cps, lawTail_cps, show ("4" : Str).cps.toList = [52] from by decide +kernel]
        rfl
      rw [form, form] at h
      obtain ⟨a, b⟩ := List.cons.inj h
      have b := congrArg List.length b
      rw [List.length_take, List.length_take, List.length_cons, tailL_len] at b
      omega
    · have form : ∀ k : Nat, ∃ r : List Nat, (lawWord x k).cps.toList = (97 + ((x / 72 % 26).toNat + 5 * k) % 26) :: r := fun k => by
        have e : ((x / 72 + 5 * (0 + (k : Nat))) % 26).toNat = ((x / 72 % 26).toNat + 5 * k) % 26 := by omega
        by_cases h3 : 0 < (x / 26 + (0 + (k : Int))) % 6
        · rw [lawWord_3 h1 h2 k h3, append_cps, append_cps, ltr_cps (by omega) (by omega), e]
          exact ⟨_, rfl⟩
        · rw [lawWord_4 h1 h2 k h3, ltr_cps (by omega) (by omega), e]
          exact ⟨_, rfl⟩
      obtain ⟨r1, e1⟩ := form i
      obtain ⟨r2, e2⟩ := form j
      rw [e1, e2] at h
      have h := (List.cons.inj h).1
      omega
theorem lawNames0_at (x : Int) {i : Nat} (hi : i < 12) : (lawNames0 x)[i]? = some (lawWord x i) := by
  unfold lawNames0
  rw [List.getElem?_map, List.getElem?_range hi]
  rfl
theorem lawNames1_ne (x : Int) {i j : Nat} (hi : i < 12) (hj : j < 12) (h : (lawNames1 x)[i]? = (lawNames1 x)[j]?) : i = j := by
  unfold lawNames1 at h
  split at h
  · rename_i hs
    have hl := lawNames0_len x
    rw [List.getElem?_set, List.getElem?_set] at h
    generalize (x / 5 % 8).toNat = m at h
    generalize lawSpecial.getD (x / 40 % 10).toNat default = w at h hs
    have out : ∀ k, k < 12 → (lawNames0 x)[k]? ≠ some w := fun k hk z => hs.2 (List.mem_of_getElem? z)
    by_cases e1 : m = i
    · by_cases e2 : m = j
      · omega
      · rw [if_pos e1, if_neg e2, if_pos (by omega)] at h
        exact absurd h.symm (out j hj)
    · by_cases e2 : m = j
      · rw [if_neg e1, if_pos e2, if_pos (by omega)] at h
        exact absurd h (out i hi)
      · rw [if_neg e1, if_neg e2, lawNames0_at x hi, lawNames0_at x hj] at h
        exact lawWord_ne x hi hj (Option.some.inj h)
  · rw [lawNames0_at x hi, lawNames0_at x hj] at h
    exact lawWord_ne x hi hj (Option.some.inj h)
theorem cutL_to {α : Type} (l : List α) (n : Nat) : cutL l none (some (n : Int)) = l.take n := by
  unfold cutL
  rw [HT.sIx_none, HT.sIx_nat, List.drop_zero, Nat.sub_zero, List.take_eq_take_iff]
  omega
theorem lawNames_ne (x : Int) {i j : Nat} (hi : i < 3) (hj : j < 3) (h : (lawNames x)[8 + i]? = (lawNames x)[8 + j]?) : i = j := by
  unfold lawNames at h
  have hl := lawNames1_len x
  split at h
  · rw [show cutL (lawNames1 x) none (some 8) = (lawNames1 x).take 8 from cutL_to _ 8, show cutL (lawNames1 x) none (some 4) = (lawNames1 x).take 4 from cutL_to _ 4] at h
    have l8 : ((lawNames1 x).take 8).length = 8 := by rw [List.length_take, hl]; rfl
    rw [List.getElem?_append_right (by omega), List.getElem?_append_right (by omega), l8, Nat.add_sub_cancel_left, Nat.add_sub_cancel_left, List.getElem?_take_of_lt (by omega), List.getElem?_take_of_lt (by omega)] at h
    exact lawNames1_ne x (by omega) (by omega) h
  · have := lawNames1_ne x (i := 8 + i) (j := 8 + j) (by omega) (by omega) h
    omega
def Apart3 (names : List Str) : Prop := ∀ i j : Nat, i < 3 → j < 3 → nmAt names (8 + (i : Nat)) = nmAt names (8 + (j : Nat)) → i = j
theorem lawNames_apart (x : Int) : Apart3 (lawNames x) := fun i j hi hj h => by
  have hl := lawNames_len x
  unfold nmAt at h
  rw [show ((8 : Int) + (i : Nat)).toNat = 8 + i by omega, show ((8 : Int) + (j : Nat)).toNat = 8 + j by omega, List.getD_eq_getElem?_getD, List.getD_eq_getElem?_getD] at h
  refine lawNames_ne x hi hj ?_
  rw [List.getElem?_eq_getElem (show 8 + i < (lawNames x).length by omega), List.getElem?_eq_getElem (show 8 + j < (lawNames x).length by omega)] at h ⊢
  exact congrArg some h
def inProg (pr : Prog) (y : Str) : Prop := y ∈ pr.map (·.1)
def BlkOk (cs : Str → Prop) (b : Str × List Row) : Prop := rowsDep b.2 ≤ 4 ∧ rowsGood cs b.2 ∧ b.2.length ≤ 300
def Blk9 (cs : Str → Prop) (b : Str × List Row) : Prop := rowsDep b.2 ≤ 9 ∧ rowsGood cs b.2 ∧ b.2.length ≤ 300
theorem BlkOk.nine {cs : Str → Prop} {b : Str × List Row} (h : BlkOk cs b) : Blk9 cs b := ⟨by have := h.1; omega, h.2⟩
theorem rowsGood_app {cs : Str → Prop} {a b : List Row} (h1 : rowsGood cs a) (h2 : rowsGood cs b) : rowsGood cs (a ++ b) := rowsGood_of fun r hr => by
  rcases List.mem_append.mp hr with hr | hr
  · exact rowsGood_mem h1 hr
  · exact rowsGood_mem h2 hr
theorem lawLast_ok {cs : Str → Prop} {names : List Str} {way many : Int} (h : cs (nmAt names (8 + way / 24 % many))) : (lawLast names way many).good cs ∧ (lawLast names way many).dep ≤ 1 := by
  have h0 : (lawLast0 names way many).good cs ∧ (lawLast0 names way many).dep = 0 := by
    unfold lawLast0
    split
    · exact ⟨by rw [Row.good]; exact h, rfl⟩
    · exact ⟨by rw [Row.good]; exact h, rfl⟩
  have l1 : rowsGood cs [lawLast0 names way many] := rowsGood_of fun r hr => by rw [List.mem_singleton] at hr; rw [hr]; exact h0.1
  have l2 : rowsGood cs [] := by rw [rowsGood]; trivial
  have d1 : rowsDep [lawLast0 names way many] = 0 := by rw [rowsDep, rowsDep, h0.2]; rfl
  have d2 : rowsDep [] = 0 := by rw [rowsDep]
  unfold lawLast
  split
  · split
    · exact ⟨by rw [Row.good]; exact ⟨⟨by simp, by simp⟩, l1, l2⟩, by rw [Row.dep, d1, d2]; exact Nat.le_refl _⟩
    · exact ⟨by rw [Row.good]; exact ⟨⟨by simp, by simp⟩, l1, l2⟩, by rw [Row.dep, d1, d2]; exact Nat.le_refl _⟩
  · exact ⟨h0.1, by omega⟩
theorem addLast_names (r : Row) : ∀ pr : Prog, (addLast r pr).map (·.1) = pr.map (·.1)
  | [] => rfl
  | [b] => rfl
  | b :: b2 :: bs => by
    show b.1 :: (addLast r (b2 :: bs)).map (·.1) = _
    rw [addLast_names r (b2 :: bs)]
    rfl
theorem addLast_ok {cs : Str → Prop} {r : Row} (hg : r.good cs) (hd : r.dep ≤ 4) : ∀ pr : Prog, (∀ b ∈ pr, rowsDep b.2 ≤ 4 ∧ rowsGood cs b.2 ∧ b.2.length ≤ 250) → ∀ b ∈ addLast r pr, BlkOk cs b
  | [], _, b, hb => by cases hb
  | [a], h, b, hb => by
    obtain ⟨h1, h2, h3⟩ := h a List.mem_cons_self
    have e : b = (a.1, a.2 ++ [r]) := List.mem_singleton.mp hb
    subst e
    refine ⟨rowsDep_le fun q hq => ?_, rowsGood_app h2 (rowsGood_of fun q hq => by rw [List.mem_singleton] at hq; rw [hq]; exact hg), by show (a.2 ++ [r]).length ≤ _; rw [List.length_append, List.length_singleton]; omega⟩
    rcases List.mem_append.mp hq with hq | hq
    · exact Nat.le_trans (rowsDep_mem hq) h1
    · rw [List.mem_singleton] at hq; rw [hq]; exact hd
  | a :: a2 :: bs, h, b, hb => by
    have hb : b ∈ a :: addLast r (a2 :: bs) := hb
    rcases List.mem_cons.mp hb with rfl | hb
    · obtain ⟨h1, h2, h3⟩ := h b List.mem_cons_self
      exact ⟨h1, h2, by omega⟩
    · exact addLast_ok hg hd (a2 :: bs) (fun b hb => h b (List.mem_cons_of_mem _ hb)) b hb
theorem lawProg_names (cells : List Int) (names : List Str) (way : Int) : (lawProg cells names way).map (·.1) = (List.range (lawMany way).toNat).map fun j => nmAt names (8 + (j : Nat)) := by
  have h : (lawProg0 cells names (lawMany way)).map (·.1) = (List.range (lawMany way).toNat).map fun j => nmAt names (8 + (j : Nat)) := by
    unfold lawProg0
    rw [List.map_map]
    rfl
  unfold lawProg
  split
  · rw [addLast_names]; exact h
  · exact h
theorem lawMany_ok (way : Int) : 1 ≤ lawMany way ∧ lawMany way ≤ 3 := by unfold lawMany; omega
theorem lawProg_in {cells : List Int} {names : List Str} {way i : Int} (h0 : 0 ≤ i) (h1 : i < lawMany way) : inProg (lawProg cells names way) (nmAt names (8 + i)) := by
  unfold inProg
  rw [lawProg_names, List.mem_map]
  exact ⟨i.toNat, List.mem_range.mpr (by omega), by rw [Int.toNat_of_nonneg h0]⟩
theorem lawProg_blocks (cells : List Int) (names : List Str) (way : Int) (hl : cells.length ≤ 63) : ∀ b ∈ lawProg cells names way, BlkOk (inProg (lawProg cells names way)) b := by
  obtain ⟨m1, m2⟩ := lawMany_ok way
  have h0 : ∀ b ∈ lawProg0 cells names (lawMany way), rowsDep b.2 ≤ 4 ∧ rowsGood (inProg (lawProg cells names way)) b.2 ∧ b.2.length ≤ 250 := fun b hb => by
    unfold lawProg0 at hb
    rw [List.mem_map] at hb
    obtain ⟨j, hj, rfl⟩ := hb
    have hj := List.mem_range.mp hj
    have h1 := stepL_len cells (i := (j : Int)) (j := lawMany way) (by omega) (by omega)
    obtain ⟨a, b, d⟩ := lawBlock_ok (cs := inProg (lawProg cells names way)) (j : Int) (lawMany way) names (stepL cells j (lawMany way)) (by omega) (fun n hn => by
      unfold rGoal
      rw [show 8 + (j : Int) + 1 + n / 16 % (lawMany way - j - 1) = 8 + ((j : Int) + 1 + n / 16 % (lawMany way - j - 1)) by omega]
      have q1 := Int.emod_nonneg (n / 16) (show lawMany way - j - 1 ≠ 0 by omega)
      have q2 := Int.emod_lt_of_pos (n / 16) (show 0 < lawMany way - j - 1 by omega)
      exact lawProg_in (by omega) (by omega))
    exact ⟨Nat.le_trans a (by omega), b, d⟩
  intro b hb
  have hin := lawProg_in (cells := cells) (names := names) (way := way) (i := way / 24 % lawMany way) (Int.emod_nonneg _ (by omega)) (Int.emod_lt_of_pos _ (by omega))
  by_cases hw : way / 3 % 8 = 5
  · have e : lawProg cells names way = addLast (lawLast names way (lawMany way)) (lawProg0 cells names (lawMany way)) := by unfold lawProg; rw [if_pos hw]
    rw [e] at hb
    obtain ⟨g1, g2⟩ := lawLast_ok hin
    exact addLast_ok g1 (by omega) _ h0 b hb
  · have e : lawProg cells names way = lawProg0 cells names (lawMany way) := by unfold lawProg; rw [if_neg hw]
    rw [e] at hb
    obtain ⟨q1, q2, q3⟩ := h0 b hb
    exact ⟨q1, q2, by omega⟩
theorem lawProg_nd {cells : List Int} {names : List Str} {way : Int} (h : Apart3 names) : ((lawProg cells names way).map (·.1)).Nodup := by
  rw [lawProg_names]
  obtain ⟨m1, m2⟩ := lawMany_ok way
  rw [List.Nodup, List.pairwise_map]
  refine List.Pairwise.imp_of_mem ?_ (List.nodup_range (n := (lawMany way).toNat))
  intro a b ha hb hab e
  have ha := List.mem_range.mp ha
  have hb := List.mem_range.mp hb
  exact hab (h a b (by omega) (by omega) e)
theorem lawProg_len (cells : List Int) (names : List Str) (way : Int) : (lawProg cells names way).length = (lawMany way).toNat := by
  have := congrArg List.length (lawProg_names cells names way)
  rw [List.length_map, List.length_map, List.length_range] at this
  exact this
end DL

set_option Elab.async false
set_option linter.all false
set_option maxRecDepth 100000
set_option maxHeartbeats 4000000
namespace DL
open PySem L2
theorem lst_depth (xs : List D) : (D.lst xs).depth = D.depths xs + 1 := by rw [D.depth]
end DL

set_option Elab.async false
set_option linter.all false
set_option maxRecDepth 100000
set_option maxHeartbeats 4000000
namespace DL
open PySem L2
end DL

set_option Elab.async false
set_option linter.all false
set_option maxRecDepth 100000
set_option maxHeartbeats 4000000
namespace DL
open PySem L2
variable {c : Cc} {η : Nm} {ρ ρ1 ρ2 : Rho} {a b e o : Expr} {es : List Expr} {pos p apos : Pos} {d d1 d2 : D} {ds : List D} {out : Out} {st : Stmt} {rest : List Stmt} {bs : List (List Stmt)}
mutual
inductive Opn : D → D → List (Addr × D) → Prop
  | leaf (d : D) : Opn d d []
  | tup {ds ds' : List D} {w : List (Addr × D)} : OpnL ds ds' w → Opn (.tup ds) (.tup ds') w
  | lst {a : Addr} {ds ds' : List D} {w : List (Addr × D)} : OpnL ds ds' w → Opn (.lst ds) (.ref a) ((a, .lst ds') :: w)
  | dic {a : Addr} {ks : List (Str × D)} : Opn (.dic ks) (.ref a) [(a, .dic ks)]
inductive OpnL : List D → List D → List (Addr × D) → Prop
  | nil : OpnL [] [] []
  | cons {d d' : D} {ds ds' : List D} {w w' : List (Addr × D)} : Opn d d' w → OpnL ds ds' w' → OpnL (d :: ds) (d' :: ds') (w ++ w')
end
theorem OpnL.leafs : ∀ ds : List D, OpnL ds ds []
  | [] => .nil
  | d :: r => .cons (w := []) (.leaf d) (OpnL.leafs r)
theorem OpnL.leafc {d : D} {ds ds' : List D} {w : List (Addr × D)} (h : OpnL ds ds' w) : OpnL (d :: ds) (d :: ds') w := .cons (w := []) (.leaf d) h
theorem OpnL.append : ∀ {xs xs' : List D} {w : List (Addr × D)} {ys ys' : List D} {w' : List (Addr × D)}, OpnL xs xs' w → OpnL ys ys' w' → OpnL (xs ++ ys) (xs' ++ ys') (w ++ w')
  | _, _, _, _, _, _, .nil, h => h
  | _, _, _, _, _, _, .cons a b, h => by
    rw [List.append_assoc]
    exact .cons a (OpnL.append b h)
section
variable {K : PySem.W.Frag} {F G H F0 H0 : Hp} {w wt w2 : List (Addr × D)} {σ : St}
mutual
theorem Opn.rep (s : Same F G) : ∀ {d d' : D} {w : List (Addr × D)} {v : V}, Opn d d' w → (∀ a e, (a, e) ∈ w → G a = H a ∧ ObjW K F (H a) e) → Rep K F v d' → Rep K G v d
  | _, _, _, _, .leaf d, _, r => r.mono s
  | _, _, _, _, .tup o, h, r => by
    cases r with
    | tup q r => exact .tup (same_T s q) (OpnL.rep s o h r)
  | _, _, _, _, .lst o, h, r => by
    cases r
    obtain ⟨e, ob⟩ := h _ _ List.mem_cons_self
    obtain ⟨vs, e1, r1⟩ := ob.lst
    exact .lst (e.trans e1) (OpnL.rep s o (fun a e m => h a e (List.mem_cons_of_mem _ m)) r1)
  | _, _, _, _, .dic, h, r => by
    cases r
    obtain ⟨e, ob⟩ := h _ _ List.mem_cons_self
    obtain ⟨vs, e1, r1⟩ := ob.dic
    exact .dic (.inl (e.trans e1)) (r1.mono s)
theorem OpnL.rep (s : Same F G) : ∀ {ds ds' : List D} {w : List (Addr × D)} {vs : List V}, OpnL ds ds' w → (∀ a e, (a, e) ∈ w → G a = H a ∧ ObjW K F (H a) e) → RepL K F vs ds' → RepL K G vs ds
  | _, _, _, _, .nil, _, .nil => .nil
  | _, _, _, _, .cons a b, h, .cons r t => .cons (Opn.rep s a (fun x e m => h x e (List.mem_append_left _ m)) r) (OpnL.rep s b (fun x e m => h x e (List.mem_append_right _ m)) t)
end
def frz (F H : Hp) (w : List (Addr × D)) : Hp := fun a => if a ∈ w.map (·.1) then H a else F a
theorem frz_in {a : Addr} (h : a ∈ w.map (·.1)) : frz F H w a = H a := by unfold frz; rw [if_pos h]
theorem frz_out {a : Addr} (h : a ∉ w.map (·.1)) : frz F H w a = F a := by unfold frz; rw [if_neg h]
theorem mem_keys {a : Addr} {d : D} (h : (a, d) ∈ w) : a ∈ w.map (·.1) := List.mem_map_of_mem (f := (·.1)) h
theorem keys_mem {a : Addr} (h : a ∈ w.map (·.1)) : ∃ d, (a, d) ∈ w := by
  rw [List.mem_map] at h
  obtain ⟨⟨b, d⟩, h1, rfl⟩ := h
  exact ⟨d, h1⟩
theorem frz_same (h : ∀ a d, (a, d) ∈ w → F a = none) : Same F (frz F H w) := fun a o e => by
  by_cases z : a ∈ w.map (·.1)
  · obtain ⟨d, hd⟩ := keys_mem z
    rw [h a d hd] at e; cases e
  · rw [frz_out z]; exact e
theorem frz_fh (s : Same F H) : Same (frz F H w) H := fun a o e => by
  by_cases z : a ∈ w.map (·.1)
  · rw [frz_in z] at e; exact e
  · rw [frz_out z] at e; exact s a o e
inductive ClS (wt : List (Addr × D)) : List Sl → List Sl → Prop
  | nil : ClS wt [] []
  | same {s : Sl} {r r' : List Sl} : ClS wt r r' → ClS wt (s :: r) (s :: r')
  | va {d d' : D} {w : List (Addr × D)} {r r' : List Sl} : Opn d d' w → (∀ p ∈ w, p ∈ wt) → ClS wt r r' → ClS wt (.va d' :: r) (.va d :: r')
theorem ClS.refl : ∀ s : List Sl, ClS wt s s
  | [] => .nil
  | _ :: r => .same (ClS.refl r)
theorem ClS.pre {s s' : List Sl} (h : ClS wt s s') : ∀ t : List Sl, ClS wt (t ++ s) (t ++ s')
  | [] => h
  | _ :: r => .same (ClS.pre h r)
theorem ClS.len : ∀ {s s' : List Sl}, ClS wt s s' → s'.length = s.length
  | _, _, .nil => rfl
  | _, _, .same q => congrArg (· + 1) q.len
  | _, _, .va _ _ q => congrArg (· + 1) q.len
theorem ClS.get : ∀ {s s' : List Sl} {i : Nat} {t : Sl}, ClS wt s s' → s'[i]? = some t → s[i]? = some t ∨ ∃ d d' w, t = .va d ∧ s[i]? = some (.va d') ∧ Opn d d' w ∧ ∀ p ∈ w, p ∈ wt
  | _, _, _, _, .nil, h => by simp at h
  | _, _, 0, _, .same q, h => .inl (by simpa using h)
  | _, _, 0, _, .va a b q, h => by simp at h; subst h; exact .inr ⟨_, _, _, rfl, rfl, a, b⟩
  | _, _, i + 1, _, .same q, h => by
    rcases q.get (i := i) (by simpa using h) with z | ⟨d, d', w, z1, z2, z3⟩
    · exact .inl (by simpa using z)
    · exact .inr ⟨d, d', w, z1, by simpa using z2, z3⟩
  | _, _, i + 1, _, .va _ _ q, h => by
    rcases q.get (i := i) (by simpa using h) with z | ⟨d, d', w, z1, z2, z3⟩
    · exact .inl (by simpa using z)
    · exact .inr ⟨d, d', w, z1, by simpa using z2, z3⟩
theorem Stt.close {s1 : List Sl} (S : Stt K F0 H0 ρ σ F H) (hw : ρ.w = wt ++ w2) (hs : ClS wt ρ.s s1) : Stt K F0 H0 ⟨s1, w2⟩ σ (frz F H wt) H := by
  have ob : ∀ a d, (a, d) ∈ wt → F a = none ∧ H0 a = none ∧ ObjW K F (H a) d := fun a d h => S.w.ob a d (by rw [hw]; exact List.mem_append_left _ h)
  have ob2 : ∀ a d, (a, d) ∈ w2 → F a = none ∧ H0 a = none ∧ ObjW K F (H a) d := fun a d h => S.w.ob a d (by rw [hw]; exact List.mem_append_right _ h)
  have s1' : Same F (frz F H wt) := frz_same fun a d h => (ob a d h).1
  have nd : (wt.map (·.1) ++ w2.map (·.1)).Nodup := by rw [← List.map_append, ← hw]; exact S.w.nd
  rw [List.nodup_append] at nd
  have own : ∀ (j : Nat) (e : D), (⟨s1, w2⟩ : Rho)[j]? = some (.ow e) → ρ[j]? = some (.ow e) := fun j e h => by
    rcases hs.get (i := j) h with z | ⟨d, d', w, z, _⟩
    · exact z
    · cases z
  refine ⟨⟨S.g.f.trans s1', S.g.h, frz_fh S.fh, fun a o z q => ?_⟩, S.len.trans hs.len.symm, fun j t e => ?_, fun j k e1 e2 a h1 h2 h3 h4 => S.ne j k e1 e2 a (own j e1 h1) (own k e2 h2) h3 h4, ⟨fun a d h => ?_, nd.2.1⟩, fun j d a h1 h2 e he => S.ws j d a (own j d h1) h2 e (by rw [hw]; exact List.mem_append_right _ he)⟩
  · rw [frz_out, S.g.sep a o z q]
    intro m
    obtain ⟨d, hd⟩ := keys_mem m
    rw [(ob a d hd).2.1] at z; cases z
  · rcases hs.get (i := j) e with z | ⟨d, d', w, rfl, z, op, hsub⟩
    · have q := S.sl j t z
      cases t with
      | no => exact trivial
      | va d =>
        obtain ⟨v, e5, r⟩ := q
        exact ⟨v, e5, r.mono s1'⟩
      | ow d2 =>
        obtain ⟨x, g1, g2, g3, g4⟩ := q
        refine ⟨x, g1, ?_, g3, g4.mono s1'⟩
        rw [frz_out, g2]
        intro m
        obtain ⟨d, hd⟩ := keys_mem m
        exact S.ws j d2 x z g1 d (by rw [hw]; exact List.mem_append_left _ hd)
    · obtain ⟨v, e5, r⟩ := S.sl j _ z
      refine ⟨v, e5, op.rep (H := H) s1' (fun a e m => ?_) r⟩
      have hm := hsub _ m
      exact ⟨frz_in (mem_keys hm), (ob a e hm).2.2⟩
  · obtain ⟨g1, g2, g3⟩ := ob2 a d h
    refine ⟨?_, g2, g3.mono s1'⟩
    rw [frz_out, g1]
    intro m
    exact nd.2.2 a m a (mem_keys h) rfl
end
section
variable {wt w2 : List (Addr × D)} {s1 : List Sl}
theorem sd_close (hw : ρ.w = wt ++ w2) (hs : ClS wt ρ.s s1) (h : SD c η bs ⟨s1, w2⟩ out) : SD c η bs ρ out := ⟨fun F0 H0 σ F H S E q => h.run F0 H0 σ _ H (S.close hw hs) E q⟩
theorem sd_drop {w : List (Addr × D)} (h : w.Sublist ρ.w) (hr : SD c η bs ⟨ρ.s, w⟩ out) : SD c η bs ρ out := ⟨fun F0 H0 σ F H S E q => hr.run F0 H0 σ F H (S.less rfl (fun _ _ e => .inr e) h) E q⟩
end
end DL

set_option Elab.async false
set_option linter.all false
set_option maxRecDepth 100000
set_option maxHeartbeats 4000000
namespace DL
open PySem L2
variable {c : Cc} {η : Nm} {ρ : Rho} {a b e : Expr} {pos p : Pos} {d1 d2 d3 : D}
end DL
namespace DL
open PySem L2 PyProof.Rows
section
variable {X : Cx} {o e : Expr} {es : List Expr} {to : TE} {t : TA} {name : Str} {apos cpos pos : Pos} {id : String} {r : V → List V → Hp → VK → Prop}
theorem strsAre_of : ∀ {ys : List Str} {us : List Value}, Vals (ys.map V.str) us → StrsAre us ys
  | [], _, .nil => .nil
  | y :: r, _, .cons h t => by
    obtain ⟨k, rfl⟩ := h
    exact .cons y k (strsAre_of t)
end
section
variable {c : Cc} {η : Nm} {ρ ρ1 : Rho} {a b e o : Expr} {es : List Expr} {pos p apos : Pos} {d : D} {ds : List D}
end
end DL

set_option Elab.async false
set_option linter.all false
set_option maxRecDepth 100000
set_option maxHeartbeats 4000000
namespace DL
open PySem L2
variable {c : Cc} {η : Nm} {ρ ρ1 ρ2 : Rho} {a b e o : Expr} {es : List Expr} {pos p apos : Pos} {d d1 d2 : D} {ds : List D} {out : Out} {st : Stmt} {rest : List Stmt} {bs : List (List Stmt)}
theorem Stt.has {K : PySem.W.Frag} {F0 H0 F H : Hp} {σ : St} {x : Addr} {ds : List D} (S : Stt K F0 H0 ρ σ F H) (h : (x, .lst ds) ∈ ρ.w) : ∃ vs, H x = some (.lst vs) ∧ RepL K F vs ds := (S.w.ob x _ h).2.2.lst
end DL

set_option Elab.async false
set_option linter.all false
set_option maxRecDepth 100000
set_option maxHeartbeats 4000000
namespace DL
open PySem L2 PyProof.Rows
variable {c : Cc} {η : Nm} {ρ : Rho} {a b e : Expr} {pos p : Pos} {d d1 d2 : D} {ds : List D}
end DL

set_option Elab.async false
set_option linter.all false
set_option maxRecDepth 100000
set_option maxHeartbeats 4000000
namespace DL
open PySem L2 PyProof.Rows
section
variable {X : Cx}
end
section
variable {c : Cc} {η : Nm} {ρ ρ1 : Rho} {a b e o : Expr} {es : List Expr} {pos p apos : Pos} {d : D} {ds xs ys : List D}
end
end DL

set_option Elab.async false
set_option linter.all false
set_option maxRecDepth 100000
set_option maxHeartbeats 4000000
namespace DL
open PySem L2
variable {c : Cc} {η : Nm} {ρ ρ1 ρ2 : Rho} {a b e o : Expr} {es : List Expr} {pos p apos : Pos} {d d1 d2 : D} {ds : List D} {out : Out} {st : Stmt} {rest : List Stmt} {bs : List (List Stmt)}

def XWE (c : Cc) (η : Nm) (e : Expr) (W : WX) : TE := fun σ H Q => ∀ X, Cin c η X → L2N.Takes X W → ∀ pins s, Inv X pins σ H s → wpAny (model X.prog X.w) X.A (eval e X.env) (EP X pins σ Q) X.xe s
def XWA (c : Cc) (η : Nm) (es : List Expr) (W : WX) : TA := fun σ H Q => ∀ X, Cin c η X → L2N.Takes X W → ∀ (pos : Pos) pins s, Inv X pins σ H s → wpAny (model X.prog X.w) X.A (spliced (backTo pos (starEach es X.env))) (AP X pins σ Q) X.xe s
def XWS (c : Cc) (η : Nm) (st : Stmt) (W : WX) : TS := fun D σ H => ∀ X, Cin c η X → L2N.Takes X W → ∀ pins s, Inv X pins σ H s → wpAny (model X.prog X.w) X.A (exec st X.env) (SP X pins D) X.xe s
def XWB (c : Cc) (η : Nm) (st : List Stmt) (W : WX) : TS := fun D σ H => ∀ X, Cin c η X → L2N.Takes X W → ∀ pins s, Inv X pins σ H s → wpAny (model X.prog X.w) X.A (execs st X.env) (SP X pins D) X.xe s
section
variable {W : WX} {σ : St} {H : Hp}
theorem XWE.pe {X : Cx} (hX : Cin c η X) (tk : L2N.Takes X W) : PE X e (XWE c η e W) := ⟨fun pins s _ _ _ I h => h X hX tk pins s I⟩
theorem XWA.pa {X : Cx} (hX : Cin c η X) (tk : L2N.Takes X W) : PA X es (XWA c η es W) := ⟨fun pos pins s _ _ _ I h => h X hX tk pos pins s I⟩
theorem XWS.ps {X : Cx} (hX : Cin c η X) (tk : L2N.Takes X W) : PS X st (XWS c η st W) := ⟨fun pins s _ _ _ I h => h X hX tk pins s I⟩
theorem XWB.pb {X : Cx} (hX : Cin c η X) (tk : L2N.Takes X W) : PSs X rest (XWB c η rest W) := ⟨fun pins s _ _ _ I h => h X hX tk pins s I⟩
theorem XWE.of {t : TE} {Q : VK} (h : ∀ X, Cin c η X → L2N.Takes X W → PE X e t) (q : t σ H Q) : XWE c η e W σ H Q := fun X hX tk pins s I => (h X hX tk).run pins s σ H Q I q
theorem XWA.of {t : TA} {Q : List V → Hp → Prop} (h : ∀ X, Cin c η X → L2N.Takes X W → PA X es t) (q : t σ H Q) : XWA c η es W σ H Q := fun X hX tk pos pins s I => (h X hX tk).run pos pins s σ H Q I q
theorem XWS.of {t : TS} {E : Ends} (h : ∀ X, Cin c η X → L2N.Takes X W → PS X st t) (q : t E σ H) : XWS c η st W E σ H := fun X hX tk pins s I => (h X hX tk).run pins s σ H E I q
theorem XWB.of {t : TS} {E : Ends} (h : ∀ X, Cin c η X → L2N.Takes X W → PSs X rest t) (q : t E σ H) : XWB c η rest W E σ H := fun X hX tk pins s I => (h X hX tk).run pins s σ H E I q
theorem WB.mono {E E' : Ends} (h : WB c η rest E σ H) (n : ∀ σ H, E.nx σ H → E'.nx σ H) (r : E.rt = E'.rt) (b : E.bk = E'.bk) (t : E.ct = E'.ct) : WB c η rest E' σ H := fun X hX pins s I => thn (h X hX pins s I) fun f s1 q => by
  cases f with
  | next =>
    obtain ⟨σ1, H1, I1, q⟩ := q
    exact ⟨σ1, H1, I1, n _ _ q⟩
  | brk =>
    obtain ⟨σ1, H1, I1, q⟩ := q
    exact ⟨σ1, H1, I1, by rw [← b]; exact q⟩
  | cont =>
    obtain ⟨σ1, H1, I1, q⟩ := q
    exact ⟨σ1, H1, I1, by rw [← t]; exact q⟩
  | ret u =>
    obtain ⟨v, σ1, H1, I1, r1, q⟩ := q
    exact ⟨v, σ1, H1, I1, r1, by rw [← r]; exact q⟩
end
def XWQ (c : Cc) (η : Nm) (W : WX) : List (List Stmt) → TS
  | [] => fun E σ H => E.nx σ H
  | b :: bs => fun E σ H => XWB c η b W { E with nx := XWQ c η W bs E } σ H
theorem WQ.x {W : WX} : ∀ {bs : List (List Stmt)} {E : Ends} {σ : St} {H : Hp}, WQ c η bs E σ H → XWQ c η W bs E σ H
  | [], _, _, _, h => h
  | b :: bs, E, _, _, h => fun X hX tk pins s I => (WB.mono (E' := { E with nx := XWQ c η W bs E }) h (fun _ _ q => WQ.x q) rfl rfl rfl) X hX pins s I
theorem XWQ.cons {W : WX} {E : Ends} {σ : St} {H : Hp} (h : XWS c η st W { E with nx := XWQ c η W (rest :: bs) E } σ H) : XWQ c η W ((st :: rest) :: bs) E σ H :=
  XWB.of (t := tSeq (XWS c η st W) (XWB c η rest W)) (fun X hX tk => pss_cons (XWS.ps hX tk) (XWB.pb hX tk)) h

def XW (c : Cc) (F H : Hp) (σ : St) (W : WX) (x : Str) (d : D) : Prop := ∀ (C dd : Addr) (v : V) (F' H' : Hp), c.mg x = some (.ref C) → Grow F H F' H' → Rep c.K F' v d → H' dd = some (.xd [("at", v)]) → W (.ref C) (some dd) σ H'
theorem XW.grow {F H F' H' : Hp} {σ : St} {W : WX} {x : Str} (w : XW c F H σ W x d) (g : Grow F H F' H') : XW c F' H' σ W x d := fun C dd v F2 H2 hm g2 r h => w C dd v F2 H2 hm (g.trans g2) r h
structure EX (c : Cc) (η : Nm) (e : Expr) (ρ : Rho) (x : Str) (d : D) : Prop where
  run : ∀ F0 H0 σ F H, Stt c.K F0 H0 ρ σ F H → ∀ W : WX, XW c F H σ W x d → ∀ Q : VK, XWE c η e W σ H Q
structure AX (c : Cc) (η : Nm) (es : List Expr) (ρ : Rho) (x : Str) (d : D) : Prop where
  run : ∀ F0 H0 σ F H, Stt c.K F0 H0 ρ σ F H → ∀ W : WX, XW c F H σ W x d → ∀ Q : List V → Hp → Prop, XWA c η es W σ H Q
structure SX (c : Cc) (η : Nm) (st : Stmt) (ρ : Rho) (x : Str) (d : D) : Prop where
  run : ∀ F0 H0 σ F H, Stt c.K F0 H0 ρ σ F H → ∀ W : WX, (∀ σ', XW c F0 H0 σ' W x d) → ∀ E : Ends, XWS c η st W E σ H
inductive Xo where
  | ok (o : Out) | xc (x : Str) (d : D)
def DoneX (c : Cc) (F0 H0 : Hp) (W : WX) (E : Ends) : Xo → Prop
  | .ok o => Done c.K F0 H0 E o
  | .xc x d => ∀ σ, XW c F0 H0 σ W x d
structure SM (c : Cc) (η : Nm) (bs : List (List Stmt)) (ρ : Rho) (r : Xo) : Prop where
  run : ∀ F0 H0 σ F H, Stt c.K F0 H0 ρ σ F H → ∀ (W : WX) (E : Ends), DoneX c F0 H0 W E r → XWQ c η W bs E σ H
variable {r : Xo} {x y : Str}
theorem sm_of (h : SD c η bs ρ out) : SM c η bs ρ (.ok out) := ⟨fun F0 H0 σ F H S W E q => WQ.x (h.run F0 H0 σ F H S E q)⟩
theorem sm_nil (h : SM c η bs ρ r) : SM c η ([] :: bs) ρ r := ⟨fun F0 H0 σ F H S W E q => XWB.of (fun _ _ _ => pss_nil) (h.run F0 H0 σ F H S W E q)⟩
theorem sm_cons (h : S1 c η st ρ (.nx ρ1)) (hr : SM c η (rest :: bs) ρ1 r) : SM c η ((st :: rest) :: bs) ρ r := ⟨fun F0 H0 σ F H S W E q =>
  XWQ.cons fun X hX tk pins s I => h.run F0 H0 σ F H S { E with nx := XWQ c η W (rest :: bs) E } (fun σ' F' H' S' => hr.run F0 H0 σ' F' H' S' W E q) X hX pins s I⟩
theorem sm_x (h : SX c η st ρ x d) : SM c η ((st :: rest) :: bs) ρ (.xc x d) := ⟨fun F0 H0 σ F H S W E q => XWQ.cons (h.run F0 H0 σ F H S W q _)⟩
theorem sm_if {t : Expr} {a b : List Stmt} {k : Bool} (ht : ET c η t ρ k) (h1 : k = true → SM c η (a :: rest :: bs) ρ r) (h2 : k = false → SM c η (b :: rest :: bs) ρ r) : SM c η ((.If t a b pos :: rest) :: bs) ρ r := ⟨fun F0 H0 σ F H S W E q =>
  XWQ.cons (XWS.of (fun X hX tk => ps_if (WT.pt hX) (XWB.pb hX tk) (XWB.pb hX tk)) (ht.run F0 H0 σ F H S _ fun F' H' g => by
    cases k with
    | true =>
      show XWQ c η W (a :: rest :: bs) E σ H'
      exact (h1 rfl).run F0 H0 σ F' H' (S.grow g) W E q
    | false =>
      show XWQ c η W (b :: rest :: bs) E σ H'
      exact (h2 rfl).run F0 H0 σ F' H' (S.grow g) W E q))⟩
theorem XW.s {F0 H0 F H : Hp} {σ : St} {W : WX} (w : ∀ σ', XW c F0 H0 σ' W x d) (S : Stt c.K F0 H0 ρ σ F H) : XW c F H σ W x d := (w σ).grow S.g
theorem sx_expr (he : EX c η e ρ x d) (hs : isCmp e = false := by rfl) : SX c η (.Expr e pos) ρ x d := ⟨fun F0 H0 σ F H S W q E =>
  XWS.of (fun X hX tk => ps_expr (XWE.pe hX tk) (swap_no hs _ _ X.env)) (he.run F0 H0 σ F H S W (XW.s q S) _)⟩
theorem sx_ret (he : EX c η e ρ x d) : SX c η (.Return (some e) pos) ρ x d := ⟨fun F0 H0 σ F H S W q E =>
  XWS.of (fun X hX tk => ps_ret (XWE.pe hX tk)) (he.run F0 H0 σ F H S W (XW.s q S) _)⟩
theorem sx_set {i : Nat} {y : Str} (he : EX c η e ρ x d) (hN : η.N.Nodup) (hi : η.N[i]? = some y) (hx : stoB η y = true := by decide +kernel) (hs : isCmp e = false := by rfl) : SX c η (.Assign [.Name y p] e pos) ρ x d := ⟨fun F0 H0 σ F H S W q E =>
  XWS.of (t := tAsg (XWE c η e W) (gName i)) (fun X hX tk => ps_set (by rw [hX.N]; exact hN) (by rw [hX.N]; exact hi) (by rw [hX.sc]; exact loc_of hx) (XWE.pe hX tk) (swap_no hs _ _ X.env) (fn_of' hX hx))
    (he.run F0 H0 σ F H S W (XW.s q S) _)⟩
theorem ex_add (ha : ED c η a ρ d1) (hb : EX c η b ρ x d) : EX c η (.BinOp a .Add b pos) ρ x d := ⟨fun F0 H0 σ F H S W q Q =>
  XWE.of (t := tOp (rI0 fun i j => .int (i + j)) (WE c η a) (XWE c η b W)) (fun X hX tk => pe_op op_add (WE.pe hX) (XWE.pe hX tk)) (ha.run F0 H0 σ F H S _ fun v1 F1 H1 g1 r1 => hb.run F0 H0 σ F1 H1 (S.grow g1) W (q.grow g1) _)⟩
theorem ax_one (ha : EX c η a ρ x d) (hs : isStar a = false := by rfl) : AX c η [a] ρ x d := ⟨fun F0 H0 σ F H S W q Q =>
  XWA.of (t := tCons (XWE c η a W) tNil) (fun X hX tk => pa_cons (XWE.pe hX tk) pa_nil (star_cons hs X.env)) (ha.run F0 H0 σ F H S W q _)⟩
theorem ex_lst (h : AX c η es ρ x d) : EX c η (.List es pos) ρ x d := ⟨fun F0 H0 σ F H S W q Q => XWE.of (fun X hX tk => pe_lst (XWA.pa hX tk)) (h.run F0 H0 σ F H S W q _)⟩
theorem leL.set : ∀ {s s' : List Sl} (j : Nat) (x : Sl), leL s s' → leL (s.set j x) (s'.set j x)
  | [], [], _, _, _ => trivial
  | .no :: r, _ :: r', 0, x, h => by cases x <;> first | exact h | exact ⟨rfl, h⟩
  | .va _ :: r, _ :: r', 0, x, h => by cases x <;> first | exact h.2 | exact ⟨rfl, h.2⟩
  | .ow _ :: r, _ :: r', 0, x, h => by cases x <;> first | exact h.2 | exact ⟨rfl, h.2⟩
  | .no :: r, _ :: r', j + 1, x, h => leL.set (s := r) (s' := r') j x h
  | .va _ :: r, _ :: r', j + 1, x, h => ⟨h.1, leL.set j x h.2⟩
  | .ow _ :: r, _ :: r', j + 1, x, h => ⟨h.1, leL.set j x h.2⟩
theorem leR.set {j : Nat} {x : Sl} (h : leR ρ1 ρ2) : leR (ρ1.set j x) (ρ2.set j x) := ⟨h.1, leL.set j x h.2⟩
theorem sm_pre (h : SM c η bs ρ1 r) (l : leR ρ1 ρ) : SM c η bs ρ r := ⟨fun F0 H0 σ F H S W E q => h.run F0 H0 σ F H (S.weak l) W E q⟩
theorem sd_exact (h : SD c η bs ρ (.nx ρ1)) : SD c η bs ρ (.ex fun ρ' => ρ' = ρ1) := ⟨fun F0 H0 σ F H S E q => h.run F0 H0 σ F H S E fun σ' F' H' S' => q ρ1 σ' F' H' rfl S'⟩
theorem sm_freeze (i : Nat) (h : ρ[i]? = some (.ow d)) (hr : SM c η bs (ρ.set i (.va d)) r) : SM c η bs ρ r := ⟨fun F0 H0 σ F H S W E q => by
  obtain ⟨F', _, S'⟩ := S.freeze h
  exact hr.run F0 H0 σ F' H S' W E q⟩
end DL

set_option Elab.async false
set_option linter.all false
set_option maxRecDepth 100000
set_option maxHeartbeats 4000000
namespace DL
open PySem L2 PyProof.Rows
variable {c : Cc} {η : Nm} {ρ ρ1 ρ2 : Rho} {a b e o : Expr} {es : List Expr} {pos p apos : Pos} {d d1 d2 : D} {ds : List D} {out : Out} {st : Stmt} {rest : List Stmt} {bs : List (List Stmt)} {x y : Str}

inductive Xr where
  | ok (d : D) | xc (x : Str) (d : D)
def spM (K : PySem.W.Frag) (mg : Str → Option Value) (R : List D → Xr → Prop) : Sp := fun vs H Q E => ∃ F ds r, Same F H ∧ RepL K F vs ds ∧ R ds r ∧ match r with
  | .ok d => ∀ v F' H', Grow F H F' H' → Rep K F' v d → Q v H'
  | .xc x d => ∀ (C dd : Addr) (v : V) (F' H' : Hp), mg x = some (.ref C) → Grow F H F' H' → Rep K F' v d → H' dd = some (.xd [("at", v)]) → E (.ref C) (some dd) H'
structure CallX (c : Cc) (j : Nat) (x : Str) (R : List D → Xr → Prop) : Prop where
  ex : ∃ (f : Addr) (fd : FuncData) (ps : List Str), FnOk c.P c.w c.K c.mg c.base (L2N.CX c.P c.w) j f fd ps (spM c.K c.mg R) ∧ c.mg x = some (.ref f) ∧ PySem.W.keepIn c.K (.ref f) = true ∧ Binds c.K fd ps []
theorem CallX.at {j : Nat} {R : List D → Xr → Prop} (h : CallX c j x R) (k : Nat) : CallX ⟨c.P, c.w, c.K, c.mg, c.base, k⟩ j x R := ⟨h.ex⟩
theorem passN {X : Cx} : Passes (L2N.CX X.prog X.w) X E0 := fun _ _ _ _ _ _ _ h => by
  obtain ⟨_, _, _, _, _, _, _, _, _, _, _, _, z⟩ := h
  exact z.elim
theorem ed_callX {j : Nat} {R : List D → Xr → Prop} (cl : CallX c j x R) (hj : j ≤ c.k) (hr : R ds (.ok d)) (ha : EA c η (e :: es) ρ ds) (hg : glB η.sc x = true := by decide +kernel) (hdb : (x == ("__debug__" : Str)) = false := by decide)
    (he : isStar e = false := by rfl) (hpl : noStar es = true := by rfl) : ED c η (.Call (.Name x p) (e :: es) [] pos) ρ d := ⟨fun F0 H0 σ F H S Q q => by
  obtain ⟨f, fd, ps, F9, hm, kp, bd⟩ := cl.ex
  refine WE.of (t := tCall (spM c.K c.mg R) [] E0 (WA c η (e :: es))) (fun X hX => ?_) ?_
  · obtain ⟨h1, h2, h3, h4, h5, _⟩ := id hX
    exact pe_call (CX := L2N.CX X.prog X.w) (by rw [h1, h2, h3, h4, h5]; exact F9) (hX.room.mono hj) (gl_of hX hg) (by rw [h4]; exact hm) (by rw [h3]; exact kp) (by rw [h3]; exact bd) .nil passN (WA.pa hX) hdb (star_cons he X.env) (star_any hpl pos X.env)
  · show WA c η (e :: es) σ H fun vs H1 => spM c.K c.mg R (vs ++ []) H1 Q E0
    simp only [List.append_nil]
    exact ha.run F0 H0 σ F H S _ fun vs F1 H1 g1 r1 => ⟨F1, ds, .ok d, g1.fh, r1, hr, fun v F' H' g' r' => q v F' H' (g1.trans g') r'⟩⟩
theorem ex_callX {j : Nat} {z : Str} {R : List D → Xr → Prop} (cl : CallX c j x R) (hj : j ≤ c.k) (hr : R ds (.xc z d)) (ha : EA c η (e :: es) ρ ds) (hg : glB η.sc x = true := by decide +kernel) (hdb : (x == ("__debug__" : Str)) = false := by decide)
    (he : isStar e = false := by rfl) (hpl : noStar es = true := by rfl) : EX c η (.Call (.Name x p) (e :: es) [] pos) ρ z d := ⟨fun F0 H0 σ F H S W q Q => by
  obtain ⟨f, fd, ps, F9, hm, kp, bd⟩ := cl.ex
  refine XWE.of (t := tCallS (spM c.K c.mg R) (L2.WE W) (WA c η (e :: es))) (fun X hX tk => ?_) ?_
  · obtain ⟨h1, h2, h3, h4, h5, _⟩ := id hX
    exact pe_callS (CX := L2N.CX X.prog X.w) (by rw [h1, h2, h3, h4, h5]; exact F9) (hX.room.mono hj) (gl_of hX hg) (by rw [h4]; exact hm) (by rw [h3]; exact kp) (by rw [h3]; exact bd) (fun σ' => L2N.passAt tk σ') (WA.pa hX) hdb (star_cons he X.env) (star_any hpl pos X.env)
  · exact ha.run F0 H0 σ F H S _ fun vs F1 H1 g1 r1 => ⟨F1, ds, .xc z d, g1.fh, r1, hr, fun C dd v F' H' hm2 g' r' hd => q C dd v F' H' hm2 (g1.trans g') r' hd⟩⟩
def Xr.fn : Xr → Xo
  | .ok d => .ok (.rt d)
  | .xc x d => .xc x d
def Xr.pr (ρ : Rho) : Xr → Xo
  | .ok _ => .ok (.nx ρ)
  | .xc x d => .xc x d
def BodyX (c : Cc) (η : Nm) (st : Stmt) (ρ : Rho) (r : Xr) : Prop := SM c η [defBody st] ρ r.fn ∨ ((∀ d, r = .ok d → d = .non) ∧ ∃ ρ', SM c η [defBody st] ρ (r.pr ρ'))
section
variable {P : Program} {w : World} {K : PySem.W.Frag} {mg : Str → Option Value} {base : Heap} {q : Str} {f : Addr} {fd : FuncData} {N ps : List Str} {k : Nat}
theorem fun_body {CX : CXT} {sp : Sp} (Fn : L2.Fun K x q st f fd) (S : FnScope N ps (defScope st)) (hl : ∀ vs H Q E, sp vs H Q E → vs.length = ps.length)
    (hb : ∀ (cv : Value) (A : Around) (outer : List Env) (s : Shared) (H : Hp) (vs : List V) (Q : VK) (E : XK), Room k (A.deeper (envOfC q (defScope st) s.heap.objs.size f cv)) → sp vs H Q E → ∃ t, PSs (cxOf CX P w K mg base N q (defScope st) f cv A outer s H E) (defBody st) t ∧ t { nx := fun _ H' => Q .non H', rt := Q } (L2.start N vs) H) :
    FnOk P w K mg base CX (k + 1) f fd ps sp := by
  obtain ⟨c1, d1, v1, dc1, m1, n1, cv1, t1, l1, rfl, hlk, hcode⟩ := Fn.ex
  exact fn_of hlk hcode S hl fun A outer s H vs Q E hr h => hb cv1 A outer s H vs Q E hr h
theorem fn_X {R : List D → Xr → Prop} (Fn : L2.Fun K x q st f fd) (S : FnScope N ps (defScope st)) (hl : ∀ ds r, R ds r → ds.length = ps.length) (hb : ∀ ds r, R ds r → BodyX ⟨P, w, K, mg, base, k⟩ ⟨N, defScope st, fun _ => true⟩ st (rho N ds) r) :
    FnOk P w K mg base (L2N.CX P w) (k + 1) f fd ps (spM K mg R) := by
  refine fun_body Fn S (fun vs H Q E h => ?_) fun cv A outer s H vs Q E hr h => ?_
  · obtain ⟨F, ds, r, s, rl, hR, _⟩ := h
    rw [rl.length]
    exact hl ds r hR
  · obtain ⟨F1, ds, r, s1, rl, hR, q1⟩ := h
    let X : Cx := cxOf (L2N.CX P w) P w K mg base N q (defScope st) f cv A outer s H E
    have po : PassesOwn (model X.prog X.w) X.A X.env X.xe := L2.passes_of (E₁ := fun e' s'' => L2N.CX P w outer H s E e' s'') rfl
    have hX : Cin ⟨P, w, K, mg, base, k⟩ ⟨N, defScope st, fun _ => true⟩ X := ⟨rfl, rfl, rfl, rfl, rfl, rfl, rfl, hr, rfl, fun _ _ => rfl, po⟩
    have tk : L2N.Takes X (fun cls d _ H => E cls d H) := L2N.takes_of rfl rfl rfl rfl
    refine ⟨_, XWB.pb hX tk, ?_⟩
    have S0 : Stt K F1 H (rho N ds) (L2.start N vs) F1 H := stt_start s1 rl
    rcases hb ds r hR with h | ⟨e, ρ', h⟩
    · refine h.run F1 H _ F1 H S0 _ ⟨fun _ H' => Q .non H', Q, fun _ _ => False, fun _ _ => False⟩ ?_
      cases r with
      | ok d => exact fun v F' H' g r' => q1 v F' H' g r'
      | xc z d => exact fun σ' C dd v F' H' hm g r' hd => q1 C dd v F' H' hm g r' hd
    · refine h.run F1 H _ F1 H S0 _ ⟨fun _ H' => Q .non H', Q, fun _ _ => False, fun _ _ => False⟩ ?_
      cases r with
      | ok d =>
        cases e d rfl
        exact fun σ' F' H' S' => q1 .non F' H' S'.g .non
      | xc z d => exact fun σ' C dd v F' H' hm g r' hd => q1 C dd v F' H' hm g r' hd
end

def spI (K : PySem.W.Frag) : Sp := fun vs H Q _ => ∃ (a C : Addr) (v : V), vs = [.ref a, v] ∧ OexC K C ∧ PySem.W.findIn K (.ref C) "at" = some none ∧ H a = some (exo a C none) ∧ ∀ dx, H dx = none → dx ≠ a → Q .non (upd (upd H dx (exd dx [("at", v)])) a (exo a C (some dx)))
theorem fn_I {P : Program} {w : World} {K : PySem.W.Frag} {mg : Str → Option Value} {base : Heap} {q : Str} {f : Addr} {fd : FuncData} {N : List Str} {k : Nat} {p1 p2 p3 p4 p5 p6 p7 p8 p9 p10 : Pos} {j : Nat} (Fn : L2.Fun K x q st f fd) (S : FnScope N ["self", "at"] (defScope st))
    (hbody : defBody st = [.Expr (.Call (.Attribute (.Name "ValueError" p1) "__init__" p2) [.Name "self" p3, .Constant (.str "refused") j p4] [] p5) p6, .Assign [.Attribute (.Name "self" p7) "at" p8] (.Name "at" p9) p10])
    (hN : N = (["self", "at"] : List Str)) (v1 : visB (defScope st) "self" = true) (v2 : visB (defScope st) "at" = true) (hg : glB (defScope st) "ValueError" = true) (hm : mg "ValueError" = none)
    (hcall : ∀ env : Env, ∃ pl : Sem Bool, eval (.Call (.Attribute (.Name "ValueError" p1) "__init__" p2) [.Name "self" p3, .Constant (.str "refused") j p4] [] p5) env = (do let ov ← eval (.Name "ValueError" p1) env; standAt p2.atName; let (f, first) ← holding [ov] (getMethod ov "__init__" pl); callWith p5 f first (backTo p5 (starEach [.Name "self" p3, .Constant (.str "refused") j p4] env)) (backToKw p5 (keywordEach [] env))))
    (vV : PySem.W.findCls K (.type "ValueError") (.type "type") "__init__" = some (.val (.builtin "ValueError.__init__"))) : FnOk P w K mg base CX0 (k + 1) f fd ["self", "at"] (spI K) := by
  subst hN
  refine Fn.ok S (fun vs H Q E h => ?_) fun cv A outer s H vs Q E hr h => ?_
  · obtain ⟨_, _, _, rfl, _⟩ := h
    rfl
  · obtain ⟨a, C, v, rfl, T, hno, ha, q1⟩ := h
    let X : Cx := (cxOf CX0 P w K mg base ["self", "at"] q (defScope st) f cv A outer s H E).nox
    have hX : Cin ⟨P, w, K, mg, base, k⟩ ⟨["self", "at"], defScope st, fun _ => true⟩ X := ⟨rfl, rfl, rfl, rfl, rfl, rfl, rfl, hr, rfl, fun _ _ => rfl, PassesOwn.never⟩
    rw [hbody]
    have pv0 : ∀ p, PE X (.Name "self" p) (tVar 0) := fun p => pe_vi hX rfl v1 (by decide) (by decide)
    have pv1 : ∀ p, PE X (.Name "at" p) (tVar 1) := fun p => pe_vi hX rfl v2 (by decide) (by decide)
    obtain ⟨pl, hc⟩ := hcall X.env
    refine ⟨_, pss_cons (ps_expr (pe_veinit (pl := pl) (gl_of hX hg) hm vV (pa_cons (pv0 p3) (pa_cons pe_str pa_nil)) hc)) (pss_cons (ps_ost (pv0 p7) (pv1 p9)) pss_nil), ?_⟩
    refine ⟨.ref a, rfl, a, C, [.str "refused"], rfl, by decide, T, ha, ?_⟩
    exact ⟨v, rfl, .ref a, rfl, a, C, rfl, T, hno, .inl ⟨ha, fun dx n ne => q1 dx n ne⟩⟩
structure XCls (K : PySem.W.Frag) (fI C : Addr) : Prop where
  T : OexC K C
  at' : PySem.W.findIn K (.ref C) "at" = some none
  ini : PySem.W.findIn K (.ref C) "__init__" = some (some (.ref fI))
theorem pmkN {X : Cx} {z : Str} {C fI : Addr} {k : Nat} {fd : FuncData} {t : TE} (xc : XCls X.K fI C) (tI : PySem.W.typeIn X.K (.ref fI) = some (.type "function")) (Fn : FnOk X.prog X.w X.K X.mg X.base CX0 k fI fd ["self", "at"] (spI X.K)) (hr : Room (k + 1) X.A)
    (hb : Binds X.K fd ["self", "at"] []) (hg : Gl X z) (hm : X.mg z = some (.ref C)) (ha : PE X e t) (hdb : (z == ("__debug__" : Str)) = false) (he : isStar e = false) :
    L2N.PMk X (.Call (.Name z p) [e] [] pos) (fun σ H Q => t σ H fun v H1 => ∃ u, [v] = [u] ∧ ∀ dd, H1 dd = none → Q (.ref C) (some dd) (upd H1 dd (.xd [("at", u)]))) := fun pins s σ H Q I h => by
  obtain ⟨nm, qn, nN, bs, bm, sn, sub, ab, col, dd, e0, e1, e2, e3, e5, lkC, ve⟩ := xc.T.cls
  refine wpAny_Call_Name_kw (ld_glob I hg hm ?_ hdb)
  have args := (pa_cons ha pa_nil (star_cons he X.env)).run pos pins s σ H (fun vs H1 => ∃ v, vs = [v] ∧ ∀ dd, H1 dd = none → Q (.ref C) (some dd) (upd H1 dd (.xd [("at", v)]))) I h
  refine PySem.W.callWith_K (h₀ := X.base) I.ok.mod.kin xc.T.kC (thn args fun us s1 hh => ?_) (star_cons he X.env) (star_any (es := []) rfl pos X.env)
  obtain ⟨vs, H1, J, rl, v, rfl, qv⟩ := hh
  refine ⟨J.kIn, ?_⟩
  show wpAny (model X.prog X.w) X.A (call (.ref C) us) _ _ _
  obtain ⟨g0, gn, dw, tk, os⟩ := s1
  have up1 : g0.objs.size ≤ g0.objs.size + 1 := Nat.le_succ _
  have fr : H1 (g0.objs.size + 1) = none := J.hok.fresh up1
  have stay : ∀ b o, g0.get? b = some o → ((g0.push (PySem.W.kdv_tup us)).push (PySem.HandSPX.excO C g0.objs.size)).get? b = some o := fun b o e => Heap.get?_push_of_some _ (Heap.get?_push_of_some _ e)
  have self : ((g0.push (PySem.W.kdv_tup us)).push (PySem.HandSPX.excO C g0.objs.size)).get? (g0.objs.size + 1) = some (PySem.HandSPX.excO C g0.objs.size) := by heap_get
  have J2 : Inv X pins σ (upd H1 (g0.objs.size + 1) (exo (g0.objs.size + 1) C none)) ⟨(g0.push (PySem.W.kdv_tup us)).push (PySem.HandSPX.excO C g0.objs.size), gn, dw, tk, os⟩ :=
    J.laid (t' := tk) stay up1 (exo_ok self)
  have rel : Vals [V.ref (g0.objs.size + 1), v] (Value.ref (g0.objs.size + 1) :: us) := .cons rfl rl
  have two : us.length ≤ sizeLine := by
    have := Paired.length rl
    rw [sizeLine_eq, ← this]
    show 1 ≤ _
    decide
  have bd := hb ⟨(g0.push (PySem.W.kdv_tup us)).push (PySem.HandSPX.excO C g0.objs.size), gn, dw, tk, os⟩ (Value.ref (g0.objs.size + 1) :: us) J2.kIn (by rw [List.append_nil]; exact rel.length.symm)
  rw [List.append_nil] at bd
  have ask : spI X.K [V.ref (g0.objs.size + 1), v] (upd H1 (g0.objs.size + 1) (exo (g0.objs.size + 1) C none)) (fun u H2 => u = .non ∧ ∃ (d : Addr), H2 (g0.objs.size + 1) = some (exo (g0.objs.size + 1) C (some d)) ∧ H2 d = some (exd d [("at", v)]) ∧ H1 d = none ∧ Q (.ref C) (some d) (upd (del H2 (g0.objs.size + 1)) d (.xd [("at", v)]))) (fun _ _ _ => False) := by
    refine ⟨g0.objs.size + 1, C, v, rfl, xc.T, xc.at', upd_same, fun dx n ne => ?_⟩
    have n1 : H1 dx = none := by rw [upd_ne ne] at n; exact n
    refine ⟨rfl, dx, upd_same, by rw [upd_ne ne, upd_same], n1, ?_⟩
    have e : upd (del (upd (upd (upd H1 (g0.objs.size + 1) (exo (g0.objs.size + 1) C none)) dx (exd dx [("at", v)])) (g0.objs.size + 1) (exo (g0.objs.size + 1) C (some dx))) (g0.objs.size + 1)) dx (.xd [("at", v)]) = upd H1 dx (.xd [("at", v)]) := by
      funext b
      by_cases h1 : b = dx
      · subst h1; rw [upd_same, upd_same]
      · rw [upd_ne h1, upd_ne h1]
        by_cases h2 : b = g0.objs.size + 1
        · subst h2; rw [del_same, fr]
        · rw [del_ne h2, upd_ne h2, upd_ne h1, upd_ne h2]
    rw [e]
    exact qv dx n1
  have go := Fn.run (X.A.under (.builtin "type.__call__" ⟨.ref C :: us, []⟩)) X.stack _ _ ⟨Value.ref (g0.objs.size + 1) :: us, []⟩ (Value.ref (g0.objs.size + 1) :: us) _ _ (fun _ _ _ => False) (hr.make C us []) (J2.env0.make C us []) bd rel ask
  refine wpAny_call (PySem.HandSPX.call_own F.excBase_ValueError (fun Y => PySem.HandSPX.refsVE_contains Y bm ve) (J.kIn _ _ lkC) (PySem.W.looks_findIn J.kIn xc.ini) (fun self => PySem.W.bind_fn J.kIn self tI) two (codeAny_mono go fun r s' hq => ?_))
  cases r with
  | error er => exact hq.elim
  | ok fl =>
    cases fl with
    | ret u =>
      obtain ⟨v2, H2, os2, bare2, un2, hok2, rv, rfl, d, ea, ed, hd1, q2⟩ := hq
      obtain ⟨h2, g2, d2, t2, os'⟩ := s'
      obtain ⟨t0, G, J3, kG, ge, hoe, na⟩ := mk_end0 (d2 := d2) (t2 := t2) J up1 stay un2 hok2 os2 bare2 ea ed hd1
      exact ⟨rv, g0.objs.size + 1, _, _, ⟨G, g2, d2, t2, os'⟩, _, .ref C, some d, rfl, J3, kG, ge, hoe, ⟨rfl, rfl, fun vs hv => by cases hv; rfl⟩, rfl, rfl, na, rfl, bare2, raises_own xc.T.exC xc.T.tyC, q2⟩
    | next => exact False.elim hq
    | brk => exact False.elim hq
    | cont => exact False.elim hq
structure XTab (c : Cc) (j : Nat) (xs : List Str) : Prop where
  ex : ∃ (fI : Addr) (fd : FuncData), FnOk c.P c.w c.K c.mg c.base CX0 j fI fd ["self", "at"] (spI c.K) ∧ PySem.W.typeIn c.K (.ref fI) = some (.type "function") ∧ Binds c.K fd ["self", "at"] [] ∧ ∀ x ∈ xs, ∃ C, c.mg x = some (.ref C) ∧ XCls c.K fI C
theorem XTab.at {j : Nat} {xs : List Str} (h : XTab c j xs) (k : Nat) : XTab ⟨c.P, c.w, c.K, c.mg, c.base, k⟩ j xs := ⟨h.ex⟩
theorem sx_raise {j : Nat} {z : Str} {xs : List Str} {q : Pos} (T : XTab c j xs) (hz : z ∈ xs) (he : ED c η e ρ d) (hj : j + 1 ≤ c.k) (hg : glB η.sc z = true := by decide +kernel) (hdb : (z == ("__debug__" : Str)) = false := by decide) (hs : isStar e = false := by rfl) :
    SX c η (.Raise (some (.Call (.Name z p) [e] [] q)) none pos) ρ z d := ⟨fun F0 H0 σ F H S W w E => by
  obtain ⟨fI, fd, Fn, tI, bd, hx⟩ := T.ex
  obtain ⟨C, hm, xc⟩ := hx z hz
  refine XWS.of (t := fun _ σ H => WE c η e σ H fun v H1 => ∃ u, [v] = [u] ∧ ∀ dd, H1 dd = none → W (.ref C) (some dd) σ (upd H1 dd (.xd [("at", u)]))) (fun X hX tk => ?_) ?_
  · obtain ⟨h1, h2, h3, h4, h5, _⟩ := id hX
    exact L2N.ps_raise hX.calm tk (pmkN (k := j) (fI := fI) (fd := fd) (C := C) (by rw [h3]; exact xc) (by rw [h3]; exact tI) (by rw [h1, h2, h3, h4, h5]; exact Fn) (hX.room.mono hj) (by rw [h3]; exact bd) (gl_of hX hg) (by rw [h4]; exact hm) (WE.pe hX) hdb hs)
  · exact he.run F0 H0 σ F H S _ fun v F1 H1 g1 r1 => ⟨v, rfl, fun dd n => w σ C dd v F1 _ hm ((S.g.trans g1).trans (.apart g1.fh n)) r1 upd_same⟩⟩

theorem sx_forE {tg it : Expr} {body : List Stmt} {n : Nat} {z : Str} (I : Nat → Rho → Prop) (hi : ID c η tg it ρ ds) (h0 : I 0 ρ) (hn : n < ds.length)
    (h : ∀ i d' ρ', i < n → ds[i]? = some d' → I i ρ' → ∃ is ρ1, TD c η tg d' is ρ' ρ1 ∧ SD c η [body] ρ1 (.ex (I (i + 1)))) (hl : ∀ d' ρ', ds[n]? = some d' → I n ρ' → ∃ is ρ1, TD c η tg d' is ρ' ρ1 ∧ SM c η [body] ρ1 (.xc z d)) (hf : isSetD it = false := by rfl) :
    SX c η (.For tg it body [] pos) ρ z d := ⟨fun F0 H0 σ F H S0 W w E =>
  XWS.of (fun X hX tk => ps_for hX.po hX.calm (WI.pi hX) (WG.pg hX) (XWB.pb (W := W) hX tk) (fold_no hf X.env)) (hi.run F0 H0 σ F H S0 _ fun J F1 H1 g1 y => by
    refine ⟨fun i m σ' H => m = ds.length - i ∧ i ≤ n ∧ ∃ F ρ', Stt c.K F0 H0 ρ' σ' F H ∧ Same F1 F ∧ I i ρ', ⟨_, rfl, Nat.zero_le _, F1, ρ, S0.grow g1, Same.refl F1, h0⟩, ?_⟩
    rintro i m σ H ⟨rfl, hle, F, ρ', S, s, hI⟩
    have hid : i < ds.length := by omega
    have e1 : ds[i]? = some ds[i] := List.getElem?_eq_getElem hid
    obtain ⟨y1, _⟩ := y i F H s S.fh
    obtain ⟨go, yl⟩ := y1 _ e1
    refine .inr ⟨go, ?_⟩
    by_cases hin : i < n
    · let N : L2.St → Hp → Prop := fun σ' H' => ∃ F' ρ2, Stt c.K F0 H0 ρ2 σ' F' H' ∧ Same F1 F' ∧ I (i + 1) ρ2
      have f01 : Same F0 F1 := (S0.grow g1).g.f
      refine ⟨N, fun σ' H' ⟨F', ρ2, S', s', hI'⟩ => ⟨_, by omega, rfl, hin, F', ρ2, S', s', hI'⟩, fun v H3 hv => ?_⟩
      obtain ⟨F3, g3, r3⟩ := yl v H3 hv
      obtain ⟨is, ρ1, ht, hb⟩ := h i _ ρ' hin e1 hI
      refine ht.run F0 H0 σ F3 H3 v (S.grow g3) r3 _ fun σ' S' _ _ => ?_
      have := SD.fromE hb S' f01 (s.trans g3.f) ⟨N, E.rt, E.nx, N⟩ fun ρ2 σ2 F2 H2 hp S2 s2 => ⟨F2, ρ2, S2, s2, hp⟩
      exact WQ.x (bs := [body]) this
    · have hin : i = n := by omega
      subst hin
      refine ⟨fun _ _ => False, fun _ _ z => z.elim, fun v H3 hv => ?_⟩
      obtain ⟨F3, g3, r3⟩ := yl v H3 hv
      obtain ⟨is, ρ1, ht, hb⟩ := hl _ ρ' e1 hI
      refine ht.run F0 H0 σ F3 H3 v (S.grow g3) r3 _ fun σ' S' _ _ => ?_
      exact hb.run F0 H0 σ' F3 H3 S' W ⟨fun _ _ => False, E.rt, E.nx, fun _ _ => False⟩ w)⟩
theorem sx_forN (j n : Nat) {v : Str} {it : Expr} {body : List Stmt} {z : Str} (ρs : Nat → Rho) (hi : ID c η (.Name v p) it ρ ds) (hN : η.N.Nodup) (h0 : leR (ρs 0) ρ) (hlen : ∀ i, j < (ρs i).length) (hn : n < ds.length)
    (h : ∀ i d', i < n → ds[i]? = some d' → SD c η [body] ((ρs i).set j (.va d')) (.nx (ρs (i + 1)))) (hl : ∀ d', ds[n]? = some d' → SM c η [body] ((ρs n).set j (.va d')) (.xc z d))
    (hj : η.N[j]? = some v := by rfl) (hx : stoB η v = true := by decide +kernel) (hf : isSetD it = false := by rfl) : SX c η (.For (.Name v p) it body [] pos) ρ z d := by
  refine sx_forE (fun i ρ' => leR (ρs i) ρ') hi h0 hn (fun i d' ρ' hi2 hd hI => ⟨[j], _, td_name j hN hj hx (by rw [← hI.len]; exact hlen i), ?_⟩) (fun d' ρ' hd hI => ⟨[j], _, td_name j hN hj hx (by rw [← hI.len]; exact hlen n), ?_⟩) hf
  · refine sd_mono (P := fun ρ' => ρ' = ρs (i + 1)) ?_ (fun ρ' e => by subst e; exact leR.refl _)
    exact sd_pre (sd_exact (h i d' hi2 hd)) (leR.set hI)
  · exact sm_pre (hl d' hd) (leR.set hI)
end DL

set_option Elab.async false
set_option linter.all false
set_option maxRecDepth 100000
set_option maxHeartbeats 4000000
namespace DL
open PySem L2
abbrev Fs := Str → Int
structure Ss where
  f : Fs
  p : List Int
def Th.vF (f : Fs) : Th → Int
  | .num i => i
  | .box x => f x
def Qn.aF (f : Fs) (q : Qn) : Bool := q.s.holds (q.a.vF f) (q.b.vF f)
def Sm.rF (f : Fs) : Sm → Int
  | .one a => a.vF f
  | .op .plus a b => (a.vF f + b.vF f) % 1000000
  | .op .minus a b => (a.vF f - b.vF f) % 1000000
  | .op .times a b => a.vF f * b.vF f % 1000000
  | .op (.ask s) a b => if s.holds (a.vF f) (b.vF f) then 1 else 0
def setF (f : Fs) (x : Str) (i : Int) : Fs := fun y => if y = x then i else f y
def Gs.ss (g : Gs) : Ss := ⟨getI g.boxes, g.pile⟩
def fGive (s : Ss) (x : Str) : Option Ss := some ⟨setF s.f x 0, s.p ++ [s.f x]⟩
def fTake (s : Ss) (x : Str) : Option Ss := if s.p = [] ∨ s.f x ≠ 0 then none else some ⟨setF s.f x (s.p.getLastD 0), s.p.dropLast⟩
def fPlain (s : Ss) (r : Row) (back : Bool) : Option Ss :=
  match r with
  | .put x pl m => some ⟨setF s.f x ((s.f x + (if back ≠ !pl then 0 - m.rF s.f else m.rF s.f)) % 1000000), s.p⟩
  | .swap x y => some ⟨setF (setF s.f x (s.f y)) y (s.f x), s.p⟩
  | .push x => if back then fTake s x else fGive s x
  | .pull x => if back then fGive s x else fTake s x
  | _ => some s
def Ss.ok (s : Ss) : Prop := (∀ x, 0 ≤ s.f x ∧ s.f x < 1000000) ∧ ∀ i ∈ s.p, 0 ≤ i ∧ i < 1000000
def Th.free (x : Str) : Th → Prop
  | .num _ => True
  | .box y => y ≠ x
def Sm.free (x : Str) : Sm → Prop
  | .one a => a.free x
  | .op _ a b => a.free x ∧ b.free x
theorem vF_free {f : Fs} {x : Str} {v : Int} {t : Th} (h : t.free x) : t.vF (setF f x v) = t.vF f := by
  cases t with
  | num i => rfl
  | box y => exact if_neg h
theorem rF_free {f : Fs} {x : Str} {v : Int} {m : Sm} (h : m.free x) : m.rF (setF f x v) = m.rF f := by
  cases m with
  | one a => exact vF_free h
  | op s a b =>
    obtain ⟨h1, h2⟩ := h
    cases s <;> simp only [Sm.rF, vF_free h1, vF_free h2]
def Row.putFree : Row → Prop
  | .put x _ m => m.free x
  | _ => True
theorem setF_same (f : Fs) (x : Str) : setF f x (f x) = f := funext fun y => by
  unfold setF
  split
  · rename_i h; rw [h]
  · rfl
theorem setF_twice (f : Fs) (x : Str) (i j : Int) : setF (setF f x i) x j = setF f x j := funext fun y => by
  unfold setF
  split <;> rfl
theorem setF_at (f : Fs) (x : Str) (i : Int) : setF f x i x = i := if_pos rfl
theorem give_back {s s' : Ss} {x : Str} (ok : s.ok) (h : fGive s x = some s') : fTake s' x = some s ∧ s'.ok := by
  cases h
  refine ⟨?_, fun y => ?_, fun i hi => ?_⟩
  · unfold fTake
    rw [if_neg (by
      rintro (h | h)
      · exact absurd h (by simp)
      · exact h (setF_at _ _ _))]
    show some (⟨setF (setF s.f x 0) x ((s.p ++ [s.f x]).getLastD 0), (s.p ++ [s.f x]).dropLast⟩ : Ss) = some s
    rw [setF_twice, List.dropLast_concat, List.getLastD_concat, setF_same]
  · show 0 ≤ setF s.f x 0 y ∧ setF s.f x 0 y < 1000000
    unfold setF
    split
    · omega
    · exact ok.1 y
  · rcases List.mem_append.mp hi with hi | hi
    · exact ok.2 i hi
    · rw [List.mem_singleton] at hi; rw [hi]; exact ok.1 x
theorem take_back {s s' : Ss} {x : Str} (ok : s.ok) (h : fTake s x = some s') : fGive s' x = some s ∧ s'.ok := by
  unfold fTake at h
  split at h
  · cases h
  · rename_i hn
    rw [not_or] at hn
    cases h
    have h0 : s.f x = 0 := by
      by_cases e : s.f x = 0
      · exact e
      · exact absurd e hn.2
    have hl : s.p.dropLast ++ [s.p.getLastD 0] = s.p := by
      rw [List.getLastD_eq_getLast?, List.getLast?_eq_some_getLast hn.1]
      exact List.dropLast_concat_getLast hn.1
    have hm : s.p.getLastD 0 ∈ s.p := by
      rw [List.getLastD_eq_getLast?, List.getLast?_eq_some_getLast hn.1]
      exact List.getLast_mem hn.1
    refine ⟨?_, fun y => ?_, fun i hi => ok.2 i (List.dropLast_subset _ hi)⟩
    · show some (⟨setF (setF s.f x _) x 0, s.p.dropLast ++ [setF s.f x (s.p.getLastD 0) x]⟩ : Ss) = some s
      rw [setF_at, hl, setF_twice, ← h0, setF_same]
    · show 0 ≤ setF s.f x (s.p.getLastD 0) y ∧ setF s.f x (s.p.getLastD 0) y < 1000000
      unfold setF
      split
      · exact ok.2 _ hm
      · exact ok.1 y
theorem plain_back {s s' : Ss} {r : Row} {back : Bool} (ok : s.ok) (hr : r.putFree) (h : fPlain s r back = some s') : fPlain s' r (!back) = some s ∧ s'.ok := by
  cases r with
  | put x pl m =>
    cases h
    have e : m.rF (setF s.f x ((s.f x + (if back ≠ !pl then 0 - m.rF s.f else m.rF s.f)) % 1000000)) = m.rF s.f := rF_free hr
    have ox := ok.1 x
    refine ⟨?_, fun y => ?_, ok.2⟩
    · show some (⟨setF (setF s.f x _) x ((setF s.f x _ x + (if (!back) ≠ !pl then 0 - m.rF (setF s.f x _) else m.rF (setF s.f x _))) % 1000000), s.p⟩ : Ss) = some s
      rw [e, setF_twice, setF_at]
      have : ((s.f x + (if back ≠ !pl then 0 - m.rF s.f else m.rF s.f)) % 1000000 + (if (!back) ≠ !pl then 0 - m.rF s.f else m.rF s.f)) % 1000000 = s.f x := by
        cases back <;> cases pl <;> simp <;> omega
      rw [this, setF_same]
    · show 0 ≤ setF s.f x _ y ∧ setF s.f x _ y < 1000000
      unfold setF
      split
      · constructor <;> omega
      · exact ok.1 y
  | swap x y =>
    cases h
    refine ⟨?_, fun z => ?_, ok.2⟩
    · show some (⟨setF (setF (setF (setF s.f x (s.f y)) y (s.f x)) x (setF (setF s.f x (s.f y)) y (s.f x) y)) y (setF (setF s.f x (s.f y)) y (s.f x) x), s.p⟩ : Ss) = some s
      have : setF (setF (setF (setF s.f x (s.f y)) y (s.f x)) x (setF (setF s.f x (s.f y)) y (s.f x) y)) y (setF (setF s.f x (s.f y)) y (s.f x) x) = s.f := by
        funext z
        unfold setF
        by_cases h1 : z = y
        · by_cases h2 : x = y
          · simp [h1, h2]
          · simp [h1, h2]
        · by_cases h2 : z = x
          · subst h2
            simp [h1]
          · simp [h1, h2]
      rw [this]
    · show 0 ≤ setF (setF s.f x (s.f y)) y (s.f x) z ∧ setF (setF s.f x (s.f y)) y (s.f x) z < 1000000
      unfold setF
      split
      · exact ok.1 x
      · split
        · exact ok.1 y
        · exact ok.1 z
  | push x =>
    cases back
    · exact give_back ok h
    · exact take_back ok h
  | pull x =>
    cases back
    · exact take_back ok h
    · exact give_back ok h
  | iff => cases h; exact ⟨rfl, ok⟩
  | round => cases h; exact ⟨rfl, ok⟩
  | call => cases h; exact ⟨rfl, ok⟩
  | undo => cases h; exact ⟨rfl, ok⟩
abbrev SR := Row → Bool → Ss → Nat → Ss → Prop
inductive SCh (R : Row → Ss → Nat → Ss → Prop) : List Row → Ss → Nat → Ss → Prop
  | nil (s : Ss) : SCh R [] s 0 s
  | cons {r : Row} {rs : List Row} {s s1 s2 : Ss} {k k2 : Nat} : R r s k s1 → SCh R rs s1 k2 s2 → SCh R (r :: rs) s (k + k2) s2
theorem SCh.snoc {R : Row → Ss → Nat → Ss → Prop} {r : Row} {s1 s2 : Ss} {k2 : Nat} (hr : R r s1 k2 s2) : ∀ {rs : List Row} {s : Ss} {k : Nat}, SCh R rs s k s1 → SCh R (rs ++ [r]) s (k + k2) s2
  | _, _, _, .nil _ => by
    have := SCh.cons hr (.nil s2)
    rw [Nat.add_zero] at this
    rw [Nat.zero_add]
    exact this
  | _, _, _, .cons h1 h2 => by
    rw [Nat.add_assoc]
    exact .cons h1 (h2.snoc hr)
theorem SCh.back {R R' : Row → Ss → Nat → Ss → Prop} : ∀ {rs : List Row} {s s' : Ss} {k : Nat}, (∀ r ∈ rs, ∀ s k s', s.ok → R r s k s' → R' r s' k s ∧ s'.ok) → s.ok → SCh R rs s k s' → SCh R' rs.reverse s' k s ∧ s'.ok
  | _, _, _, _, _, ok, .nil _ => ⟨.nil _, ok⟩
  | _, _, _, _, h, ok, .cons h1 h2 => by
    obtain ⟨a, ok1⟩ := h _ List.mem_cons_self _ _ _ ok h1
    obtain ⟨b, ok2⟩ := h2.back (fun r hr => h r (List.mem_cons_of_mem _ hr)) ok1
    rw [List.reverse_cons, Nat.add_comm]
    exact ⟨b.snoc a, ok2⟩
def inOrd (rs : List Row) (back : Bool) : List Row := if back then rs.reverse else rs
def SRows (R : SR) (rs : List Row) (back : Bool) : Ss → Nat → Ss → Prop := SCh (fun r => R r back) (inOrd rs back)
theorem SRows.back {R : SR} {rs : List Row} {back : Bool} {s s' : Ss} {k : Nat} (h : ∀ r ∈ rs, ∀ s k s', s.ok → R r back s k s' → R r (!back) s' k s ∧ s'.ok) (ok : s.ok) (hs : SRows R rs back s k s') : SRows R rs (!back) s' k s ∧ s'.ok := by
  have h' : ∀ r ∈ inOrd rs back, ∀ s k s', s.ok → R r back s k s' → R r (!back) s' k s ∧ s'.ok := fun r hr => h r (by
    unfold inOrd at hr
    split at hr
    · exact List.mem_reverse.mp hr
    · exact hr)
  obtain ⟨a, b⟩ := SCh.back h' ok hs
  refine ⟨?_, b⟩
  have e : (inOrd rs back).reverse = inOrd rs (!back) := by cases back <;> simp [inOrd]
  unfold SRows
  rw [← e]
  exact a
inductive SLoop (A B : Ss → Nat → Ss → Prop) (q1 q2 : Qn) : Bool → Ss → Nat → Ss → Prop
  | last {d : Bool} {s s1 : Ss} {k : Nat} : q1.aF s.f = d → A s k s1 → q2.aF s1.f = true → SLoop A B q1 q2 d s (k + 2) s1
  | more {d : Bool} {s s1 s2 s3 : Ss} {k k2 k3 : Nat} : q1.aF s.f = d → A s k s1 → q2.aF s1.f = false → B s1 k2 s2 → SLoop A B q1 q2 false s2 k3 s3 → SLoop A B q1 q2 d s (k + 2 + k2 + k3) s3
theorem SLoop.back {A B A' B' : Ss → Nat → Ss → Prop} {q1 q2 : Qn} (hA : ∀ s k s', s.ok → A s k s' → A' s' k s ∧ s'.ok) (hB : ∀ s k s', s.ok → B s k s' → B' s' k s ∧ s'.ok) {d : Bool} {s s' : Ss} {k : Nat} (h : SLoop A B q1 q2 d s k s') (ok : s.ok) : (d = true → SLoop A' B' q2 q1 true s' k s) ∧ (d = false → ∀ k2 s2 k3 s3, B' s k2 s2 → SLoop A' B' q2 q1 false s2 k3 s3 → SLoop A' B' q2 q1 true s' (k + k2 + k3) s3) ∧ s'.ok := by
  induction h with
  | last h1 h2 h3 =>
    obtain ⟨a, o⟩ := hA _ _ _ ok h2
    refine ⟨fun e => .last h3 a (h1.trans e), fun e k2 s2 k3 s3 b c => .more h3 a (h1.trans e) b c, o⟩
  | @more d s s1 s2 s3 k k2 k3 h1 h2 h3 h4 h5 ih =>
    obtain ⟨a, o⟩ := hA _ _ _ ok h2
    obtain ⟨b, o2⟩ := hB _ _ _ o h4
    obtain ⟨_, i2, o3⟩ := ih o2
    refine ⟨fun e => ?_, fun e j2 t2 j3 t3 c1 c2 => ?_, o3⟩
    · have := i2 rfl _ _ _ _ b (.last h3 a (h1.trans e))
      rw [show k + 2 + k2 + k3 = k3 + k2 + (k + 2) by omega]
      exact this
    · have := i2 rfl _ _ _ _ b (.more h3 a (h1.trans e) c1 c2)
      rw [show k + 2 + k2 + k3 + j2 + j3 = k3 + k2 + (k + 2 + j2 + j3) by omega]
      exact this
def SRow (pr : Prog) : Nat → Int → SR
  | 0, _ => fun _ _ _ _ _ => False
  | n + 1, c => fun r back s k s' =>
    match r with
    | .iff q1 a b q2 => ∃ k1, k = k1 + 2 ∧ SRows (SRow pr n c) (partOf (.iff q1 a b q2) ((firstQ (.iff q1 a b q2) back).aF s.f)) back s k1 s' ∧ (lastQ (.iff q1 a b q2) back).aF s'.f = (firstQ (.iff q1 a b q2) back).aF s.f
    | .round q1 a b q2 => SLoop (SRows (SRow pr n c) a back) (SRows (SRow pr n c) b back) (firstQ (.round q1 a b q2) back) (lastQ (.round q1 a b q2) back) true s k s'
    | .call y => c ≠ 10 ∧ ∃ k1, k = k1 + 1 ∧ SRows (SRow pr n (c + 1)) (rowsOf pr y) (back != false) s k1 s'
    | .undo y => c ≠ 10 ∧ ∃ k1, k = k1 + 1 ∧ SRows (SRow pr n (c + 1)) (rowsOf pr y) (back != true) s k1 s'
    | r => k = 1 ∧ fPlain s r back = some s'
mutual
/-- no sum asks the box that it goes to -/
def Row.rev : Row → Prop
  | .put x _ m => m.free x
  | .iff _ a b _ => rowsRev a ∧ rowsRev b
  | .round _ a b _ => rowsRev a ∧ rowsRev b
  | _ => True
def rowsRev : List Row → Prop
  | [] => True
  | r :: rs => r.rev ∧ rowsRev rs
end
theorem rowsRev_mem : ∀ {rs : List Row} {r : Row}, rowsRev rs → r ∈ rs → r.rev
  | q :: rs, r, hf, h => by
    rw [rowsRev] at hf
    rcases List.mem_cons.mp h with rfl | h
    · exact hf.1
    · exact rowsRev_mem hf.2 h
theorem rowsRev_of : ∀ {rs : List Row}, (∀ r ∈ rs, r.rev) → rowsRev rs
  | [], _ => by rw [rowsRev]; trivial
  | q :: rs, h => by
    rw [rowsRev]
    exact ⟨h q List.mem_cons_self, rowsRev_of fun r hr => h r (List.mem_cons_of_mem _ hr)⟩
theorem rev_putFree {r : Row} (h : r.rev) : r.putFree := by
  cases r with
  | put => rw [Row.rev] at h; exact h
  | _ => trivial
theorem SRow.back {pr : Prog} (hP : ∀ y, rowsRev (rowsOf pr y)) : ∀ (n : Nat) (c : Int) (r : Row) (back : Bool) (s : Ss) (k : Nat) (s' : Ss), r.rev → s.ok → SRow pr n c r back s k s' → SRow pr n c r (!back) s' k s ∧ s'.ok
  | 0, _, _, _, _, _, _, _, _, h => by cases h
  | n + 1, c, r, back, s, k, s', hr, ok, h => by
    have rows : ∀ (c : Int) (rs : List Row) (back : Bool), rowsRev rs → ∀ s k s', s.ok → SRows (SRow pr n c) rs back s k s' → SRows (SRow pr n c) rs (!back) s' k s ∧ s'.ok := fun c rs back hrs s k s' ok h => SRows.back (fun r hr s k s' ok h => SRow.back hP n c r back s k s' (rowsRev_mem hrs hr) ok h) ok h
    have leaf : ∀ r : Row, r.rev → fPlain s r back = some s' → k = 1 → (k = 1 ∧ fPlain s' r (!back) = some s) ∧ s'.ok := fun r hr h e => by
      obtain ⟨a, b⟩ := plain_back ok (rev_putFree hr) h
      exact ⟨⟨e, a⟩, b⟩
    cases r with
    | iff q1 a b q2 =>
      rw [Row.rev] at hr
      obtain ⟨k1, rfl, h1, h2⟩ := h
      have hp : rowsRev (partOf (.iff q1 a b q2) ((firstQ (.iff q1 a b q2) back).aF s.f)) := by unfold partOf; split <;> first | exact hr.1 | exact hr.2
      obtain ⟨i1, i2⟩ := rows c _ back hp s k1 s' ok h1
      have e1 : firstQ (.iff q1 a b q2) (!back) = lastQ (.iff q1 a b q2) back := by cases back <;> rfl
      have e2 : lastQ (.iff q1 a b q2) (!back) = firstQ (.iff q1 a b q2) back := by cases back <;> rfl
      refine ⟨⟨k1, rfl, ?_, ?_⟩, i2⟩
      · rw [e1, h2]; exact i1
      · rw [e1, e2, h2]
    | round q1 a b q2 =>
      rw [Row.rev] at hr
      have e1 : firstQ (.round q1 a b q2) (!back) = lastQ (.round q1 a b q2) back := by cases back <;> rfl
      have e2 : lastQ (.round q1 a b q2) (!back) = firstQ (.round q1 a b q2) back := by cases back <;> rfl
      obtain ⟨i1, _, i3⟩ := SLoop.back (rows c a back hr.1) (rows c b back hr.2) h ok
      refine ⟨?_, i3⟩
      show SLoop _ _ (firstQ (.round q1 a b q2) (!back)) (lastQ (.round q1 a b q2) (!back)) true s' k s
      rw [e1, e2]
      exact i1 rfl
    | call y =>
      obtain ⟨h0, k1, rfl, h1⟩ := h
      obtain ⟨i1, i2⟩ := rows (c + 1) _ _ (hP y) s k1 s' ok h1
      refine ⟨⟨h0, k1, rfl, ?_⟩, i2⟩
      have e : (!(back != false)) = ((!back) != false) := by cases back <;> rfl
      rw [← e]
      exact i1
    | undo y =>
      obtain ⟨h0, k1, rfl, h1⟩ := h
      obtain ⟨i1, i2⟩ := rows (c + 1) _ _ (hP y) s k1 s' ok h1
      refine ⟨⟨h0, k1, rfl, ?_⟩, i2⟩
      have e : (!(back != true)) = ((!back) != true) := by cases back <;> rfl
      rw [← e]
      exact i1
    | put x pl m => exact leaf (.put x pl m) hr h.2 h.1
    | swap x y => exact leaf (.swap x y) hr h.2 h.1
    | push x => exact leaf (.push x) hr h.2 h.1
    | pull x => exact leaf (.pull x) hr h.2 h.1
end DL

set_option Elab.async false
set_option linter.all false
set_option maxRecDepth 100000
set_option maxHeartbeats 4000000
namespace DL
open PySem L2
section
variable {pr : Prog} {mo : Int} {cs : Str → Prop} {g g1 : Gs} {x : Bool × Gs} {q : Qn} {p : Plc} {r : Row} {rs : List Row} {back : Bool} {f : BF} {n : Nat} {R : Int → SR}
end
end DL

set_option Elab.async false
set_option linter.all false
set_option maxRecDepth 100000
set_option maxHeartbeats 4000000
namespace DL
open PySem L2
def Cmp (mo : Int) (g : Gs) (k : Nat) (s' : Ss) (x : Bool × Gs) : Prop := if g.steps + k ≤ mo then x.1 = true ∧ x.2.ss = s' ∧ x.2.steps = g.steps + k else x.1 = false ∧ x.2.word = some .long
section
variable {pr : Prog} {mo : Int} {cs : Str → Prop} {g g1 : Gs} {x : Bool × Gs} {q : Qn} {p : Plc} {r : Row} {rs : List Row} {back : Bool} {f : BF} {n : Nat} {R : Int → SR} {k : Nat} {s' : Ss}
theorem Cmp.t (h : Cmp mo g k s' x) (e : g.steps + k ≤ mo) : x.1 = true ∧ x.2.ss = s' ∧ x.2.steps = g.steps + k := by unfold Cmp at h; rwa [if_pos e] at h
theorem Cmp.no (h : Cmp mo g k s' x) (e : ¬ g.steps + k ≤ mo) : x.1 = false ∧ x.2.word = some .long := by unfold Cmp at h; rwa [if_neg e] at h
end
section
variable {cs : Str → Prop} {nm : Str} {rows : List Row} {pr : Prog} {bx : Bx} {pile : List Int} {most : Int} {back : Bool}
end
end DL

set_option Elab.async false
set_option linter.all false
set_option maxRecDepth 100000
set_option maxHeartbeats 4000000
namespace DL
open PySem L2
def keysB (bx : Bx) : List Str := bx.map (·.1)
theorem hasI_mem (bx : Bx) (x : Str) : hasI bx x = true ↔ x ∈ keysB bx := by
  unfold hasI keysB
  rw [List.any_eq_true, List.mem_map]
  constructor
  · rintro ⟨p, hp, e⟩; exact ⟨p, hp, of_decide_eq_true e⟩
  · rintro ⟨p, hp, e⟩; exact ⟨p, hp, decide_eq_true e⟩
theorem putI_nd {bx : Bx} {x : Str} {i : Int} (h : (keysB bx).Nodup) : (keysB (putI bx x i)).Nodup := by
  unfold putI
  split
  · have e : keysB (bx.map fun p => if p.1 = x then (p.1, i) else p) = keysB bx := by
      unfold keysB
      rw [List.map_map]
      apply List.map_congr_left
      intro p _
      show (if p.1 = x then (p.1, i) else p).1 = p.1
      split <;> rfl
    rw [e]
    exact h
  · rename_i hn
    have hx : x ∉ keysB bx := fun z => hn ((hasI_mem bx x).mpr z)
    have e : keysB (bx ++ [(x, i)]) = keysB bx ++ [x] := by unfold keysB; rw [List.map_append]; rfl
    rw [e, List.nodup_append]
    exact ⟨h, List.nodup_cons.mpr ⟨by simp, List.nodup_nil⟩, by
      intro a ha b hb e
      rw [List.mem_singleton] at hb
      subst e
      subst hb
      exact hx ha⟩
def Supp (s : Ss) (n : Nat) : Prop := ∃ L : List Str, L.length ≤ n ∧ ∀ x, s.f x ≠ 0 → x ∈ L
def Sz2 (s : Ss) (n j : Nat) : Prop := Supp s n ∧ s.p.length ≤ j
theorem supp_set {f : Fs} {p p' : List Int} {n : Nat} {x : Str} {i : Int} (h : Supp ⟨f, p⟩ n) : Supp ⟨setF f x i, p'⟩ (n + 1) := by
  obtain ⟨L, h1, h2⟩ := h
  refine ⟨x :: L, by rw [List.length_cons]; omega, fun y hy => ?_⟩
  have hy : setF f x i y ≠ 0 := hy
  unfold setF at hy
  split at hy
  · rename_i e; rw [e]; exact List.mem_cons_self
  · exact List.mem_cons_of_mem _ (h2 y hy)
theorem Supp.mono {s : Ss} {n m : Nat} (h : Supp s n) (e : n ≤ m) : Supp s m := by
  obtain ⟨L, h1, h2⟩ := h
  exact ⟨L, by omega, h2⟩
theorem plain_size {s s' : Ss} {r : Row} {back : Bool} {n j : Nat} (h : Sz2 s n j) (e : fPlain s r back = some s') : Sz2 s' (n + 2) (j + 1) := by
  obtain ⟨h1, h2⟩ := h
  have give : ∀ x, fGive s x = some s' → Sz2 s' (n + 2) (j + 1) := fun x e => by
    cases e
    exact ⟨(supp_set h1).mono (by omega), by show (s.p ++ [_]).length ≤ _; rw [List.length_append, List.length_singleton]; omega⟩
  have take : ∀ x, fTake s x = some s' → Sz2 s' (n + 2) (j + 1) := fun x e => by
    unfold fTake at e
    split at e
    · cases e
    · cases e
      exact ⟨(supp_set h1).mono (by omega), by show s.p.dropLast.length ≤ _; rw [List.length_dropLast]; omega⟩
  cases r with
  | put x pl m => cases e; exact ⟨(supp_set h1).mono (by omega), by show s.p.length ≤ _; omega⟩
  | swap x y => cases e; exact ⟨supp_set (p := s.p) (supp_set h1), by show s.p.length ≤ _; omega⟩
  | push x =>
    cases back
    · exact give x e
    · exact take x e
  | pull x =>
    cases back
    · exact take x e
    · exact give x e
  | _ => cases e; exact ⟨h1.mono (by omega), by omega⟩
theorem SCh.size {R : Row → Ss → Nat → Ss → Prop} (hR : ∀ r s k s' n j, Sz2 s n j → R r s k s' → Sz2 s' (n + 2 * k) (j + k)) : ∀ {rs : List Row} {s s' : Ss} {k n j : Nat}, Sz2 s n j → SCh R rs s k s' → Sz2 s' (n + 2 * k) (j + k)
  | _, _, _, _, _, _, h, .nil _ => h
  | _, _, _, _, n, j, h, @SCh.cons _ _ _ _ _ _ k k2 h1 h2 => by
    have := h2.size hR (hR _ _ _ _ _ _ h h1)
    rw [show n + 2 * (k + k2) = n + 2 * k + 2 * k2 by omega, show j + (k + k2) = j + k + k2 by omega]
    exact this
theorem Sz2.mono {s : Ss} {n j n' j' : Nat} (h : Sz2 s n j) (a : n ≤ n') (b : j ≤ j') : Sz2 s n' j' := ⟨h.1.mono a, Nat.le_trans h.2 b⟩
theorem SLoop.size {A B : Ss → Nat → Ss → Prop} {q1 q2 : Qn} (hA : ∀ s k s' n j, Sz2 s n j → A s k s' → Sz2 s' (n + 2 * k) (j + k)) (hB : ∀ s k s' n j, Sz2 s n j → B s k s' → Sz2 s' (n + 2 * k) (j + k)) {d : Bool} {s s' : Ss} {k : Nat} (h : SLoop A B q1 q2 d s k s') : ∀ {n j : Nat}, Sz2 s n j → Sz2 s' (n + 2 * k) (j + k) := by
  induction h with
  | last _ h2 _ => intro n j h; exact (hA _ _ _ _ _ h h2).mono (by omega) (by omega)
  | more _ h2 _ h4 _ ih => intro n j h; exact (ih (hB _ _ _ _ _ (hA _ _ _ _ _ h h2) h4)).mono (by omega) (by omega)
theorem SRow.size {pr : Prog} : ∀ (n : Nat) (c : Int) (r : Row) (back : Bool) (s : Ss) (k : Nat) (s' : Ss) (m j : Nat), Sz2 s m j → SRow pr n c r back s k s' → Sz2 s' (m + 2 * k) (j + k)
  | 0, _, _, _, _, _, _, _, _, _, h => by cases h
  | n + 1, c, r, back, s, k, s', m, j, hz, h => by
    have rows : ∀ (c : Int) (rs : List Row) (back : Bool) s k s' m j, Sz2 s m j → SRows (SRow pr n c) rs back s k s' → Sz2 s' (m + 2 * k) (j + k) := fun c rs back s k s' m j hz h => SCh.size (fun r s k s' n' j' hz h => SRow.size n c r back s k s' n' j' hz h) hz h
    have leaf : ∀ r : Row, k = 1 ∧ fPlain s r back = some s' → Sz2 s' (m + 2 * k) (j + k) := fun r hx => by
      obtain ⟨rfl, hx⟩ := hx
      exact plain_size hz hx
    cases r with
    | iff q1 a b q2 =>
      obtain ⟨k1, rfl, h1, _⟩ := h
      exact (rows _ _ _ _ _ _ _ _ hz h1).mono (by omega) (by omega)
    | round q1 a b q2 => exact SLoop.size (fun s k s' n' j' => rows c a back s k s' n' j') (fun s k s' n' j' => rows c b back s k s' n' j') h hz
    | call y =>
      obtain ⟨_, k1, rfl, h1⟩ := h
      exact (rows _ _ _ _ _ _ _ _ hz h1).mono (by omega) (by omega)
    | undo y =>
      obtain ⟨_, k1, rfl, h1⟩ := h
      exact (rows _ _ _ _ _ _ _ _ hz h1).mono (by omega) (by omega)
    | put y s m => exact leaf (.put y s m) h
    | swap y z => exact leaf (.swap y z) h
    | push y => exact leaf (.push y) h
    | pull y => exact leaf (.pull y) h
end DL

set_option Elab.async false
set_option linter.all false
set_option maxRecDepth 100000
set_option maxHeartbeats 4000000
namespace DL
open PySem L2
def Six (names : List Str) : Prop := ∀ i : Nat, i < 5 → nmAt names 6 ≠ nmAt names (i : Nat)
theorem lawNames_eight (x : Int) {i j : Nat} (hi : i < 8) (hj : j < 8) (h : (lawNames x)[i]? = (lawNames x)[j]?) : i = j := by
  unfold lawNames at h
  have hl := lawNames1_len x
  split at h
  · rw [show cutL (lawNames1 x) none (some 8) = (lawNames1 x).take 8 from cutL_to _ 8] at h
    have l8 : ((lawNames1 x).take 8).length = 8 := by rw [List.length_take, hl]; rfl
    rw [List.getElem?_append_left (by omega), List.getElem?_append_left (by omega), List.getElem?_take_of_lt hi, List.getElem?_take_of_lt hj] at h
    exact lawNames1_ne x (by omega) (by omega) h
  · exact lawNames1_ne x (by omega) (by omega) h
theorem lawNames_six (x : Int) : Six (lawNames x) := fun i hi h => by
  have hl := lawNames_len x
  unfold nmAt at h
  rw [show (6 : Int).toNat = 6 from rfl, show ((i : Nat) : Int).toNat = i by omega, List.getD_eq_getElem?_getD, List.getD_eq_getElem?_getD, List.getElem?_eq_getElem (show 6 < (lawNames x).length by omega), List.getElem?_eq_getElem (show i < (lawNames x).length by omega)] at h
  have := lawNames_eight x (i := 6) (j := i) (by omega) (by omega) (by rw [List.getElem?_eq_getElem (show 6 < (lawNames x).length by omega), List.getElem?_eq_getElem (show i < (lawNames x).length by omega)]; exact congrArg some h)
  omega
theorem lawThing_free (n : Int) (own : Str) (names : List Str) : (lawThing n own names).free own := by
  unfold lawThing
  split
  · rename_i h
    first | exact h.2 | (simp at h; exact h.2)
  · trivial
theorem lawSum_free (n : Int) (own : Str) (names : List Str) : (lawSum n own names).free own := by
  unfold lawSum
  split
  · exact lawThing_free _ _ _
  · exact ⟨lawThing_free _ _ _, lawThing_free _ _ _⟩
def Row.leafB : Row → Bool
  | .put .. => false | .iff .. => false | .round .. => false | _ => true
theorem rev_leaf {r : Row} (h : r.leafB = true) : r.rev := by
  cases r with
  | put => cases h
  | iff => cases h
  | round => cases h
  | swap => exact (trivial : True)
  | push => exact (trivial : True)
  | pull => exact (trivial : True)
  | call => exact (trivial : True)
  | undo => exact (trivial : True)
theorem lawSimple_rev {n : Int} {names : List Str} (h6 : Six names) : ∀ r ∈ lawSimple n names, r.rev := fun r hr => by
  unfold lawSimple at hr
  split at hr
  · rw [List.mem_singleton] at hr; subst hr; rw [Row.rev]; exact lawSum_free _ _ _
  · split at hr
    · rw [List.mem_singleton] at hr; subst hr; exact rev_leaf rfl
    · split at hr
      · rw [List.mem_singleton] at hr; subst hr; exact rev_leaf rfl
      · simp only [List.mem_cons, List.not_mem_nil, or_false] at hr
        rcases hr with rfl | rfl | rfl
        · exact rev_leaf rfl
        · rw [Row.rev]
          have := h6 (n / 8 % 5).toNat (by omega)
          rw [show (((n / 8 % 5).toNat : Nat) : Int) = n / 8 % 5 by omega] at this
          exact this
        · exact rev_leaf rfl
def FRv (fs : List RFr) : Prop := ∀ f ∈ fs, rowsRev f.a ∧ rowsRev f.b
theorem rowsRev_app {a b : List Row} (h1 : rowsRev a) (h2 : rowsRev b) : rowsRev (a ++ b) := rowsRev_of fun r hr => by
  rcases List.mem_append.mp hr with hr | hr
  · exact rowsRev_mem h1 hr
  · exact rowsRev_mem h2 hr
theorem app_rev {f : RFr} {rs : List Row} (h : rowsRev f.a ∧ rowsRev f.b) (hr : rowsRev rs) : rowsRev (f.app rs).a ∧ rowsRev (f.app rs).b := by
  unfold Fr.app
  split
  · exact ⟨rowsRev_app h.1 hr, h.2⟩
  · exact ⟨h.1, rowsRev_app h.2 hr⟩
theorem rClosed_rev {f : RFr} {block level : Int} {names : List Str} (h : rowsRev f.a ∧ rowsRev f.b) : rowsRev (rClosed f block level names) := by
  unfold rClosed
  refine rowsRev_of fun r hr => ?_
  split at hr
  · rw [List.mem_singleton] at hr; subst hr; rw [Row.rev]; exact h
  · simp only [List.mem_cons, List.not_mem_nil, or_false] at hr
    rcases hr with rfl | rfl
    · rw [Row.rev]
      refine ⟨h.1, rowsRev_app h.2 (rowsRev_of fun r hr => ?_)⟩
      rw [List.mem_singleton] at hr; subst hr; rw [Row.rev]; trivial
    · rw [Row.rev]; trivial
theorem FRv.app {t : RFr} {r : List RFr} {rs : List Row} (h : FRv (t :: r)) (hr : rowsRev rs) : FRv (t.app rs :: r) := fun f hf => by
  rcases List.mem_cons.mp hf with rfl | hf
  · exact app_rev (h t List.mem_cons_self) hr
  · exact h f (List.mem_cons_of_mem _ hf)
theorem rClose_rev {block : Int} {names : List Str} : ∀ {fs : List RFr}, FRv fs → FRv (rClose block names fs)
  | [], h => h
  | [f], h => h
  | t :: u :: r, h => by
    rw [rClose_cons]
    split
    · intro f hf
      rcases List.mem_cons.mp hf with rfl | hf
      · exact h t List.mem_cons_self
      · exact h f (List.mem_cons_of_mem _ hf)
    · exact FRv.app (fun f hf => h f (List.mem_cons_of_mem _ hf)) (rClosed_rev (h t List.mem_cons_self))
theorem rStep_rev {block many : Int} {names : List Str} {n : Int} (h6 : Six names) : ∀ {fs : List RFr}, FRv fs → FRv (rStep block many names n fs)
  | [], h => h
  | t :: r, h => by
    rw [rStep_cons]
    split
    · exact h.app (rowsRev_of (lawSimple_rev h6))
    · split
      · refine h.app (rowsRev_of fun r hr => ?_)
        rw [List.mem_singleton] at hr
        subst hr
        unfold rCall
        split <;> exact rev_leaf rfl
      · split
        · intro f hf
          rcases List.mem_cons.mp hf with rfl | hf
          · exact ⟨by show rowsRev []; rw [rowsRev]; trivial, by show rowsRev []; rw [rowsRev]; trivial⟩
          · exact h f hf
        · split
          · exact rClose_rev h
          · exact h
theorem rFrames_rev {block many : Int} {names : List Str} {cells : List Int} (h6 : Six names) : ∀ i, FRv (rFrames block many names cells i)
  | 0 => fun f hf => by
    rw [rFrames, List.mem_singleton] at hf
    subst hf
    exact ⟨by show rowsRev []; rw [rowsRev]; trivial, by show rowsRev []; rw [rowsRev]; trivial⟩
  | i + 1 => by
    rw [rFrames]
    exact rStep_rev h6 (rFrames_rev h6 i)
theorem rFinal_rev (block : Int) (names : List Str) : ∀ (m : Nat) (fs : List RFr), rMeas fs ≤ m → FRv fs → FRv (rFinal block names fs)
  | m, fs, hm, h => by
    by_cases h1 : 1 < fs.length
    · rw [rFinal_more h1]
      have h2 := rClose_meas block names h1
      match m, hm with
      | 0, hm => omega
      | m + 1, hm => exact rFinal_rev block names m _ (by omega) (rClose_rev h)
    · rw [rFinal_one h1]
      exact h
theorem lawBlock_rev (block many : Int) (names : List Str) (cells : List Int) (h6 : Six names) : rowsRev (lawBlock block many names cells) := by
  have h := rFinal_rev block names _ _ (Nat.le_refl _) (rFrames_rev (block := block) (many := many) (cells := cells) h6 cells.length)
  unfold lawBlock
  cases e : rFinal block names (rFrames block many names cells cells.length) with
  | nil => show rowsRev []; rw [rowsRev]; trivial
  | cons f r =>
    rw [e] at h
    exact (h f List.mem_cons_self).1
theorem lawLast_rev (names : List Str) (way many : Int) : (lawLast names way many).rev := by
  have h0 : (lawLast0 names way many).rev := by unfold lawLast0; split <;> exact rev_leaf rfl
  have h1 : rowsRev [lawLast0 names way many] := rowsRev_of fun r hr => by rw [List.mem_singleton] at hr; rw [hr]; exact h0
  have h2 : rowsRev [] := by rw [rowsRev]; trivial
  unfold lawLast
  split
  · split <;> (rw [Row.rev]; exact ⟨h1, h2⟩)
  · exact h0
theorem addLast_rev {r : Row} (hr : r.rev) : ∀ pr : Prog, (∀ b ∈ pr, rowsRev b.2) → ∀ b ∈ addLast r pr, rowsRev b.2
  | [], _, b, hb => by cases hb
  | [a], h, b, hb => by
    have e : b = (a.1, a.2 ++ [r]) := List.mem_singleton.mp hb
    subst e
    exact rowsRev_app (h a List.mem_cons_self) (rowsRev_of fun q hq => by rw [List.mem_singleton] at hq; rw [hq]; exact hr)
  | a :: a2 :: bs, h, b, hb => by
    have hb : b ∈ a :: addLast r (a2 :: bs) := hb
    rcases List.mem_cons.mp hb with rfl | hb
    · exact h b List.mem_cons_self
    · exact addLast_rev hr (a2 :: bs) (fun b hb => h b (List.mem_cons_of_mem _ hb)) b hb
theorem lawProg_rev (cells : List Int) (names : List Str) (way : Int) (h6 : Six names) : ∀ b ∈ lawProg cells names way, rowsRev b.2 := by
  have h0 : ∀ b ∈ lawProg0 cells names (lawMany way), rowsRev b.2 := fun b hb => by
    unfold lawProg0 at hb
    rw [List.mem_map] at hb
    obtain ⟨j, _, rfl⟩ := hb
    exact lawBlock_rev _ _ _ _ h6
  unfold lawProg
  split
  · exact addLast_rev (lawLast_rev _ _ _) _ h0
  · exact h0
end DL

set_option Elab.async false
set_option linter.all false
set_option maxRecDepth 100000
set_option maxHeartbeats 4000000
namespace DL
open PySem L2
inductive PRow where
  | set (x : Str) (m : Sm) | iff (q : Qn) (a b : List PRow) | wh (q : Qn) (a : List PRow)
mutual
def PRow.d : PRow → D
  | .set x m => .tup [.str "set", .str x, m.d]
  | .iff q a b => .tup [.str "if", q.d, .lst (prowsD a), .lst (prowsD b)]
  | .wh q a => .tup [.str "while", q.d, .lst (prowsD a)]
def prowsD : List PRow → List D
  | [] => []
  | r :: rs => r.d :: prowsD rs
end
mutual
/-- how deep ifs and whiles stand in one another -/
def PRow.dep : PRow → Nat
  | .set _ _ => 0
  | .iff _ a b => max (prowsDep a) (prowsDep b) + 1
  | .wh _ a => prowsDep a + 1
def prowsDep : List PRow → Nat
  | [] => 0
  | r :: rs => max r.dep (prowsDep rs)
end
mutual
/-- all sums are right, no list is long -/
def PRow.fine : PRow → Prop
  | .set _ m => m.ok
  | .iff _ a b => (a.length ≤ 30000 ∧ b.length ≤ 30000) ∧ prowsFine a ∧ prowsFine b
  | .wh _ a => a.length ≤ 30000 ∧ prowsFine a
def prowsFine : List PRow → Prop
  | [] => True
  | r :: rs => r.fine ∧ prowsFine rs
end
theorem prowsDep_le {n : Nat} : ∀ {rs : List PRow}, (∀ r ∈ rs, r.dep ≤ n) → prowsDep rs ≤ n
  | [], _ => by rw [prowsDep]; omega
  | q :: rs, h => by
    rw [prowsDep]
    have h1 := h q List.mem_cons_self
    have h2 := prowsDep_le (rs := rs) fun r hr => h r (List.mem_cons_of_mem _ hr)
    omega
theorem prowsFine_of : ∀ {rs : List PRow}, (∀ r ∈ rs, r.fine) → prowsFine rs
  | [], _ => by rw [prowsFine]; trivial
  | q :: rs, h => by
    rw [prowsFine]
    exact ⟨h q List.mem_cons_self, prowsFine_of fun r hr => h r (List.mem_cons_of_mem _ hr)⟩
structure PS where
  bx : Bx
  st : Int
structure PS.ok (most : Int) (s : PS) : Prop where
  bx : BxOk s.bx
  st : 0 ≤ s.st ∧ s.st ≤ most
  len : (s.bx.length : Int) ≤ 100 + s.st
theorem PS.ok.step {most : Int} {s : PS} (h : s.ok most) (hn : ¬ s.st = most) : PS.ok most ⟨s.bx, s.st + 1⟩ := by
  obtain ⟨h1, h2, h3⟩ := h
  exact ⟨h1, by show 0 ≤ s.st + 1 ∧ s.st + 1 ≤ most; omega, by show (s.bx.length : Int) ≤ 100 + (s.st + 1); omega⟩
end DL

set_option Elab.async false
set_option linter.all false
set_option maxRecDepth 100000
set_option maxHeartbeats 4000000
namespace DL
open PySem L2
def plN : List Str := ["boxes", "steps", "most"]
structure PlC (c : Cc) (C : Addr) : Prop where
  cl : Cls c.K C
  na : ∀ f, f ∈ plN → NoAttr c.K C f
section
variable {c : Cc} {C : Addr} (G : PlC c C) {η : Nm} {s : List Sl} {x dx b : Addr} {g : PS} {most : Int} {e k : Expr} {ps ps1 ps2 ps3 : Pos} {d : D} {y : Str} {i : Int}
include G
end
end DL

set_option Elab.async false
set_option linter.all false
set_option maxRecDepth 100000
set_option maxHeartbeats 4000000
namespace DL
open PySem L2
def lawPTail (x : Int) : Str := Txt.join "" ((List.range 6).map fun j => ltr ((x / 40 + 5 * (0 + (j : Nat)) + 1) % 26))
def lawPOther (x : Int) : Str := Txt.join "" ((List.range 6).map fun j => ltr ((x / 40 + 5 * (0 + (j : Nat)) + 13) % 26))
theorem lawPTail_eq (x : Int) : lawPTail x = ltr ((x / 40 + 5 * (0 + (0 : Nat)) + 1) % 26) ++ ltr ((x / 40 + 5 * (0 + (1 : Nat)) + 1) % 26) ++ ltr ((x / 40 + 5 * (0 + (2 : Nat)) + 1) % 26) ++ ltr ((x / 40 + 5 * (0 + (3 : Nat)) + 1) % 26) ++ ltr ((x / 40 + 5 * (0 + (4 : Nat)) + 1) % 26) ++ ltr ((x / 40 + 5 * (0 + (5 : Nat)) + 1) % 26) := by rfl
theorem lawPOther_eq (x : Int) : lawPOther x = ltr ((x / 40 + 5 * (0 + (0 : Nat)) + 13) % 26) ++ ltr ((x / 40 + 5 * (0 + (1 : Nat)) + 13) % 26) ++ ltr ((x / 40 + 5 * (0 + (2 : Nat)) + 13) % 26) ++ ltr ((x / 40 + 5 * (0 + (3 : Nat)) + 13) % 26) ++ ltr ((x / 40 + 5 * (0 + (4 : Nat)) + 13) % 26) ++ ltr ((x / 40 + 5 * (0 + (5 : Nat)) + 13) % 26) := by rfl
theorem lawPTail_len (x : Int) : (lawPTail x).length = 6 := by rw [lawPTail_eq]; simp only [len_append, ltr_len]
theorem lawPOther_len (x : Int) : (lawPOther x).length = 6 := by rw [lawPOther_eq]; simp only [len_append, ltr_len]
instance {x : Int} : Sz (lawPTail x) 6 := ⟨Nat.le_of_eq (lawPTail_len x)⟩
instance {x : Int} : Sz (lawPOther x) 6 := ⟨Nat.le_of_eq (lawPOther_len x)⟩
end DL

set_option Elab.async false
set_option linter.all false
set_option maxRecDepth 100000
set_option maxHeartbeats 4000000
namespace DL
open PySem L2
abbrev PFr := Fr PRow
def pClosed (f : PFr) (level : Int) (names : List Str) : List PRow :=
  if f.k = "if" then [.iff (lawQuestion f.n names) f.a f.b]
  else if f.n / 4 % 16 = 0 then [.wh (lawQuestion (f.n / 64) names) f.a]
  else [.set (nmAt names (5 + level)) (.one (.num 0)), .wh ⟨.lt, .box (nmAt names (5 + level)), .num (f.n % 4)⟩ (f.a ++ [.set (nmAt names (5 + level)) (.op .plus (.box (nmAt names (5 + level))) (.num 1))])]
def pClose (names : List Str) : List PFr → List PFr
  | t :: u :: r => if t.k = "if" ∧ t.s = 0 then { t with s := 1 } :: u :: r else u.app (pClosed t ((r.length + 1 : Nat) : Int) names) :: r
  | l => l
theorem pClose_cons (names : List Str) (t u : PFr) (r : List PFr) : pClose names (t :: u :: r) = if t.k = "if" ∧ t.s = 0 then { t with s := 1 } :: u :: r else u.app (pClosed t ((r.length + 1 : Nat) : Int) names) :: r := rfl
def pNew (rest : Int) : PFr := ⟨if rest % 2 = 0 then "if" else "while", 0, [], [], rest / 2⟩
def pStep (names : List Str) (n : Int) : List PFr → List PFr
  | t :: r =>
    if n % 12 < 6 then t.app [.set (nmAt names (n / 12 % 5)) (lawSum (n / 12 / 5) "" names)] :: r
    else if n % 12 < 9 ∧ (r.length + 1 < 4) then pNew (n / 12) :: t :: r
    else if 1 < r.length + 1 then pClose names (t :: r) else t :: r
  | [] => []
theorem pStep_cons (names : List Str) (n : Int) (t : PFr) (r : List PFr) : pStep names n (t :: r) = if n % 12 < 6 then t.app [.set (nmAt names (n / 12 % 5)) (lawSum (n / 12 / 5) "" names)] :: r else if n % 12 < 9 ∧ (r.length + 1 < 4) then pNew (n / 12) :: t :: r else if 1 < r.length + 1 then pClose names (t :: r) else t :: r := rfl
def PInv (B : Nat) : List PFr → Prop
  | [] => True
  | f :: r => (f.s = 0 ∨ f.s = 1) ∧ f.a.length ≤ B ∧ f.b.length ≤ B ∧ (∀ q ∈ f.a, q.fine ∧ q.dep + r.length ≤ 3) ∧ (∀ q ∈ f.b, q.fine ∧ q.dep + r.length ≤ 3) ∧ r.length ≤ 3 ∧ PInv B r
theorem PInv.mono {B B' : Nat} (h : B ≤ B') : ∀ {fs : List PFr}, PInv B fs → PInv B' fs
  | [], _ => trivial
  | f :: r, ⟨h1, h2, h3, h4, h5, h6, h7⟩ => ⟨h1, by omega, by omega, h4, h5, h6, PInv.mono h h7⟩
theorem PInv.app {B m : Nat} {f : PFr} {r : List PFr} {rs : List PRow} (h : PInv B (f :: r)) (hl : rs.length ≤ m) (hr : ∀ q ∈ rs, q.fine ∧ q.dep + r.length ≤ 3) : PInv (B + m) (f.app rs :: r) := by
  obtain ⟨h1, h2, h3, h4, h5, h6, h7⟩ := h
  unfold Fr.app
  split
  · refine ⟨h1, by show (f.a ++ rs).length ≤ _; rw [List.length_append]; omega, by show f.b.length ≤ _; omega, fun q hq => ?_, h5, h6, h7.mono (by omega)⟩
    rcases List.mem_append.mp hq with hq | hq
    · exact h4 q hq
    · exact hr q hq
  · refine ⟨h1, by show f.a.length ≤ _; omega, by show (f.b ++ rs).length ≤ _; rw [List.length_append]; omega, h4, fun q hq => ?_, h6, h7.mono (by omega)⟩
    rcases List.mem_append.mp hq with hq | hq
    · exact h5 q hq
    · exact hr q hq
theorem pClosed_ok {B : Nat} {f : PFr} {r : List PFr} {level : Int} {names : List Str} (h : PInv B (f :: r)) (hr : 1 ≤ r.length) (hB : B ≤ 20000) : (pClosed f level names).length ≤ 2 ∧ ∀ q ∈ pClosed f level names, q.fine ∧ q.dep + (r.length - 1) ≤ 3 := by
  obtain ⟨h1, h2, h3, h4, h5, h6, h7⟩ := h
  have da : prowsDep f.a ≤ 3 - r.length := prowsDep_le fun q hq => by have := (h4 q hq).2; omega
  have db : prowsDep f.b ≤ 3 - r.length := prowsDep_le fun q hq => by have := (h5 q hq).2; omega
  have fa : prowsFine f.a := prowsFine_of fun q hq => (h4 q hq).1
  have fb : prowsFine f.b := prowsFine_of fun q hq => (h5 q hq).1
  unfold pClosed
  split
  · refine ⟨by simp, fun q hq => ?_⟩
    rw [List.mem_singleton] at hq
    subst hq
    exact ⟨by rw [PRow.fine]; exact ⟨⟨by omega, by omega⟩, fa, fb⟩, by rw [PRow.dep]; omega⟩
  · split
    · refine ⟨by simp, fun q hq => ?_⟩
      rw [List.mem_singleton] at hq
      subst hq
      exact ⟨by rw [PRow.fine]; exact ⟨by omega, fa⟩, by rw [PRow.dep]; omega⟩
    · refine ⟨by simp, fun q hq => ?_⟩
      simp only [List.mem_cons, List.not_mem_nil, or_false] at hq
      rcases hq with rfl | rfl
      · exact ⟨show (0 : Int) ≤ 0 ∧ (0 : Int) < 1000000 by omega, by rw [PRow.dep]; omega⟩
      · refine ⟨?_, ?_⟩
        · rw [PRow.fine]
          refine ⟨by rw [List.length_append, List.length_singleton]; omega, ?_⟩
          refine prowsFine_of fun q hq => ?_
          rcases List.mem_append.mp hq with hq | hq
          · exact (h4 q hq).1
          · rw [List.mem_singleton] at hq; subst hq
            exact ⟨trivial, show (0 : Int) ≤ 1 ∧ (1 : Int) < 1000000 by omega⟩
        · rw [PRow.dep]
          have : prowsDep (f.a ++ [PRow.set (nmAt names (5 + level)) (.op .plus (.box (nmAt names (5 + level))) (.num 1))]) ≤ 3 - r.length := prowsDep_le fun q hq => by
            rcases List.mem_append.mp hq with hq | hq
            · have := (h4 q hq).2; omega
            · rw [List.mem_singleton] at hq; subst hq; rw [PRow.dep]; omega
          omega
theorem PInv.close {B : Nat} {names : List Str} (hB : B ≤ 20000) : ∀ {fs : List PFr}, PInv B fs → PInv (B + 2) (pClose names fs)
  | [], h => trivial
  | [f], h => h.mono (by omega)
  | t :: u :: r, h => by
    rw [pClose_cons]
    split
    · obtain ⟨h1, h2, h3, h4, h5, h6, h7⟩ := h
      exact ⟨.inr rfl, by show t.a.length ≤ _; omega, by show t.b.length ≤ _; omega, h4, h5, h6, h7.mono (by omega)⟩
    · obtain ⟨c1, c2⟩ := pClosed_ok (level := ((r.length + 1 : Nat) : Int)) (names := names) h (by simp) hB
      obtain ⟨h1, h2, h3, h4, h5, h6, h7⟩ := h
      exact h7.app c1 fun q hq => by have := c2 q hq; rw [List.length_cons] at this; exact ⟨this.1, by omega⟩
theorem PInv.step {B : Nat} {names : List Str} {n : Int} (hB : B ≤ 20000) : ∀ {fs : List PFr}, PInv B fs → PInv (B + 2) (pStep names n fs)
  | [], h => trivial
  | t :: r, h => by
    rw [pStep_cons]
    split
    · exact h.app (m := 2) (by simp) fun q hq => by
        rw [List.mem_singleton] at hq; subst hq
        exact ⟨lawSum_ok _ _ _, by rw [PRow.dep]; have := h.2.2.2.2.2.1; omega⟩
    · split
      · rename_i hc
        exact ⟨.inl rfl, Nat.zero_le _, Nat.zero_le _, (fun q hq => by cases hq), (fun q hq => by cases hq), by show (t :: r).length ≤ 3; rw [List.length_cons]; omega, h.mono (by omega)⟩
      · split
        · exact PInv.close hB h
        · exact h.mono (by omega)
end DL

set_option Elab.async false
set_option linter.all false
set_option maxRecDepth 100000
set_option maxHeartbeats 4000000
namespace DL
open PySem L2
def PnB (y : Str) : Bool := y.cps.toList.all ltrB
def wN (l : Nat) : Str := "w" ++ Str.ofString (toString (l : Int))
def cN (l : Nat) : Str := "c" ++ Str.ofString (toString (l : Int))
theorem wN_inj : ∀ l, l < 10 → ∀ m, m < 10 → wN l = wN m → l = m := by decide +kernel
theorem cN_inj : ∀ l, l < 10 → ∀ m, m < 10 → cN l = cN m → l = m := by decide +kernel
theorem wN_cN : ∀ l, l < 10 → ∀ m, m < 10 → wN l ≠ cN m := by decide +kernel
theorem wN_t0 : ∀ l, l < 10 → wN l ≠ "t0" ∧ cN l ≠ "t0" ∧ wN l ≠ "out0" ∧ cN l ≠ "out0" := by decide +kernel
def Th.pn : Th → Prop
  | .num _ => True
  | .box x => PnB x = true
def Sm.pn : Sm → Prop
  | .one a => a.pn
  | .op _ a b => a.pn ∧ b.pn
def Qn.pn (q : Qn) : Prop := q.a.pn ∧ q.b.pn
mutual
def PRow.pn : PRow → Prop
  | .set x m => PnB x = true ∧ m.pn ∧ m.ok
  | .iff q a b => (q.pn ∧ q.ok) ∧ (a.length ≤ 95 ∧ b.length ≤ 95) ∧ prowsPn a ∧ prowsPn b
  | .wh q a => (q.pn ∧ q.ok) ∧ a.length ≤ 95 ∧ prowsPn a
def prowsPn : List PRow → Prop
  | [] => True
  | r :: rs => r.pn ∧ prowsPn rs
end
theorem prowsPn_mem : ∀ {rs : List PRow} {r : PRow}, prowsPn rs → r ∈ rs → r.pn
  | q :: rs, r, hf, h => by
    rw [prowsPn] at hf
    rcases List.mem_cons.mp h with rfl | h
    · exact hf.1
    · exact prowsPn_mem hf.2 h
theorem prowsPn_of : ∀ {rs : List PRow}, (∀ r ∈ rs, r.pn) → prowsPn rs
  | [], _ => by rw [prowsPn]; trivial
  | q :: rs, h => by
    rw [prowsPn]
    exact ⟨h q List.mem_cons_self, prowsPn_of fun r hr => h r (List.mem_cons_of_mem _ hr)⟩
def oppA : Ak → Ak
  | .lt => .ge | .ge => .lt | .eq => .ne | .ne => .eq
theorem opp_holds (s : Ak) (i j : Int) : (oppA s).holds i j = !s.holds i j := by
  cases s
  · show decide (j ≤ i) = !decide (i < j)
    by_cases h : i < j
    · rw [decide_eq_true h, decide_eq_false (by omega)]; rfl
    · rw [decide_eq_false h, decide_eq_true (by omega)]; rfl
  · rfl
  · show decide (i < j) = !decide (j ≤ i)
    by_cases h : i < j
    · rw [decide_eq_true h, decide_eq_false (by omega)]; rfl
    · rw [decide_eq_false h, decide_eq_true (by omega)]; rfl
  · show decide (i = j) = !!decide (i = j)
    rw [Bool.not_not]
theorem one_ok : (Th.num 1).ok := show (0 : Int) ≤ 1 ∧ (1 : Int) < 1000000 by omega
def mix (f : Fs) (bx : Bx) : Fs := fun y => if PnB y = true then getI bx y else f y
theorem setF_ne (f : Fs) {x y : Str} (v : Int) (h : y ≠ x) : setF f x v y = f y := if_neg h
def Clean (L : Nat) (f : Fs) : Prop := f "t0" = 0 ∧ ∀ l, L ≤ l → l < 10 → f (wN l) = 0 ∧ f (cN l) = 0
theorem Clean.w {L : Nat} {f : Fs} {v : Int} (hL : L < 10) (h : Clean L f) : Clean (L + 1) (setF f (wN L) v) := by
  refine ⟨?_, fun l h1 h2 => ?_⟩
  · rw [setF_ne _ _ (wN_t0 L hL).1.symm]; exact h.1
  · obtain ⟨a, b⟩ := h.2 l (by omega) h2
    rw [setF_ne _ _ (fun e => by have := wN_inj l h2 L hL e; omega), setF_ne _ _ (fun e => wN_cN L hL l h2 e.symm)]
    exact ⟨a, b⟩
theorem Clean.c {L : Nat} {f : Fs} {v : Int} (hL : L < 10) (h : Clean L f) : Clean (L + 1) (setF f (cN L) v) := by
  refine ⟨?_, fun l h1 h2 => ?_⟩
  · rw [setF_ne _ _ (wN_t0 L hL).2.1.symm]; exact h.1
  · obtain ⟨a, b⟩ := h.2 l (by omega) h2
    rw [setF_ne _ _ (wN_cN l h2 L hL), setF_ne _ _ (fun e => by have := cN_inj l h2 L hL e; omega)]
    exact ⟨a, b⟩
theorem SCh.app {R : Row → Ss → Nat → Ss → Prop} : ∀ {a b : List Row} {s s1 s2 : Ss} {k k2 : Nat}, SCh R a s k s1 → SCh R b s1 k2 s2 → SCh R (a ++ b) s (k + k2) s2
  | _, _, _, _, _, _, _, .nil _, h => by rw [Nat.zero_add]; exact h
  | _, _, _, _, _, _, _, .cons (k := k) (k2 := k2) r t, h => by
    rw [Nat.add_assoc]
    exact .cons r (SCh.app t h)
theorem SCh.one {R : Row → Ss → Nat → Ss → Prop} {r : Row} {s s1 : Ss} {k : Nat} (h : R r s k s1) : SCh R [r] s k s1 := .cons (k2 := 0) h (.nil s1)
section
variable {pr : Prog} {c : Int} {n : Nat}
abbrev FR (pr : Prog) (c : Int) (n : Nat) : Row → Ss → Nat → Ss → Prop := fun r => SRow pr n c r false
def Sim (pr : Prog) (c : Int) (n L : Nat) (rs : List Row) (bx bx' : Bx) (k : Nat) (q : List Int) : Prop := ∀ f p, Clean L f → SCh (FR pr c n) rs ⟨mix f bx, p⟩ k ⟨mix f bx', p ++ q⟩
theorem Sim.app {L : Nat} {a b : List Row} {bx bx1 bx2 : Bx} {k k2 : Nat} {q q2 : List Int} (h : Sim pr c n L a bx bx1 k q) (h2 : Sim pr c n L b bx1 bx2 k2 q2) : Sim pr c n L (a ++ b) bx bx2 (k + k2) (q ++ q2) := fun f p hc => by
  rw [← List.append_assoc]
  exact SCh.app (h f p hc) (h2 f _ hc)
end
def AllPn (bx : Bx) : Prop := ∀ y, getI bx y ≠ 0 → PnB y = true
theorem AllPn.put {bx : Bx} {x : Str} {i : Int} (h : AllPn bx) (hx : PnB x = true) : AllPn (putI bx x i) := fun y hy => by
  rw [getI_put] at hy
  by_cases e : y = x
  · rw [e]; exact hx
  · rw [if_neg e] at hy; exact h y hy
end DL

set_option Elab.async false
set_option linter.all false
set_option maxRecDepth 100000
set_option maxHeartbeats 4000000
namespace DL
open PySem L2
theorem getD_pn {names : List Str} (h : ∀ z ∈ names, PnB z = true) (i : Nat) : PnB (names.getD i default) = true := by
  rw [List.getD_eq_getElem?_getD]
  cases e : names[i]? with
  | none => decide +kernel
  | some z => exact h z (List.mem_of_getElem? e)
theorem nmAt_pn {names : List Str} (h : ∀ z ∈ names, PnB z = true) (i : Int) : PnB (nmAt names i) = true := getD_pn h _
section
variable {names : List Str} (hn : ∀ z ∈ names, PnB z = true)
include hn
theorem lawThing_pn (n : Int) (own : Str) : (lawThing n own names).pn := by
  unfold lawThing
  split
  · exact getD_pn hn _
  · trivial
theorem lawSum_pn (n : Int) (own : Str) : (lawSum n own names).pn := by
  unfold lawSum
  split
  · exact lawThing_pn hn _ _
  · exact ⟨lawThing_pn hn _ _, lawThing_pn hn _ _⟩
theorem lawQuestion_pn (n : Int) : (lawQuestion n names).pn := ⟨lawThing_pn hn _ _, lawThing_pn hn _ _⟩
def FPn (B : Nat) (fs : List PFr) : Prop := ∀ f ∈ fs, f.a.length ≤ B ∧ f.b.length ≤ B ∧ prowsPn f.a ∧ prowsPn f.b
omit hn in
theorem FPn.mono {B B' : Nat} {fs : List PFr} (h : FPn B fs) (e : B ≤ B') : FPn B' fs := fun f hf => by
  obtain ⟨a, b, c⟩ := h f hf
  exact ⟨by omega, by omega, c⟩
omit hn in
theorem prowsPn_app {a b : List PRow} (h1 : prowsPn a) (h2 : prowsPn b) : prowsPn (a ++ b) := prowsPn_of fun r hr => by
  rcases List.mem_append.mp hr with h | h
  · exact prowsPn_mem h1 h
  · exact prowsPn_mem h2 h
omit hn in
theorem prowsPn_one {r : PRow} (h : r.pn) : prowsPn [r] := by rw [prowsPn, prowsPn]; exact ⟨h, trivial⟩
omit hn in
theorem FPn.app {B m : Nat} {t : PFr} {r : List PFr} {rs : List PRow} (h : FPn B (t :: r)) (hl : rs.length ≤ m) (hr : prowsPn rs) : FPn (B + m) (t.app rs :: r) := fun f hf => by
  rcases List.mem_cons.mp hf with rfl | hf
  · obtain ⟨a, b, c, d⟩ := h t List.mem_cons_self
    unfold Fr.app
    split
    · exact ⟨by show (t.a ++ rs).length ≤ _; rw [List.length_append]; omega, by show t.b.length ≤ _; omega, prowsPn_app c hr, d⟩
    · exact ⟨by show t.a.length ≤ _; omega, by show (t.b ++ rs).length ≤ _; rw [List.length_append]; omega, c, prowsPn_app d hr⟩
  · exact (h.mono (by omega)) f (List.mem_cons_of_mem _ hf)
theorem pClosed_pn {B : Nat} {f : PFr} {level : Int} (h : f.a.length ≤ B ∧ f.b.length ≤ B ∧ prowsPn f.a ∧ prowsPn f.b) (hB : B ≤ 94) : (pClosed f level names).length ≤ 2 ∧ prowsPn (pClosed f level names) := by
  obtain ⟨a, b, c, d⟩ := h
  have hm := nmAt_pn hn (5 + level)
  unfold pClosed
  split
  · exact ⟨by simp, prowsPn_one (by rw [PRow.pn]; exact ⟨⟨lawQuestion_pn hn _, lawQuestion_ok _ _⟩, ⟨by omega, by omega⟩, c, d⟩)⟩
  · split
    · exact ⟨by simp, prowsPn_one (by rw [PRow.pn]; exact ⟨⟨lawQuestion_pn hn _, lawQuestion_ok _ _⟩, by omega, c⟩)⟩
    · refine ⟨by simp, ?_⟩
      rw [prowsPn, prowsPn, prowsPn, PRow.pn, PRow.pn]
      exact ⟨⟨hm, trivial, show (0 : Int) ≤ 0 ∧ (0 : Int) < 1000000 by omega⟩, ⟨⟨⟨hm, trivial⟩, trivial, show (0 : Int) ≤ f.n % 4 ∧ f.n % 4 < 1000000 by omega⟩, by rw [List.length_append, List.length_singleton]; omega, prowsPn_app c (prowsPn_one (by rw [PRow.pn]; exact ⟨hm, ⟨hm, trivial⟩, trivial, one_ok⟩))⟩, trivial⟩
theorem FPn.close {B : Nat} (hB : B ≤ 94) : ∀ {fs : List PFr}, FPn B fs → FPn (B + 2) (pClose names fs)
  | [], h => h.mono (by omega)
  | [f], h => h.mono (by omega)
  | t :: u :: r, h => by
    rw [pClose_cons]
    split
    · intro f hf
      rcases List.mem_cons.mp hf with rfl | hf
      · obtain ⟨a, b, c⟩ := h t List.mem_cons_self
        exact ⟨by show t.a.length ≤ _; omega, by show t.b.length ≤ _; omega, c⟩
      · exact (h.mono (by omega)) f (List.mem_cons_of_mem _ hf)
    · obtain ⟨c1, c2⟩ := pClosed_pn hn (level := ((r.length + 1 : Nat) : Int)) (h t List.mem_cons_self) hB
      exact FPn.app (fun f hf => h f (List.mem_cons_of_mem _ hf)) c1 c2
theorem FPn.step {B : Nat} {n : Int} (hB : B ≤ 94) : ∀ {fs : List PFr}, FPn B fs → FPn (B + 2) (pStep names n fs)
  | [], h => h.mono (by omega)
  | t :: r, h => by
    rw [pStep_cons]
    split
    · exact h.app (m := 2) (by simp) (prowsPn_one (by rw [PRow.pn]; exact ⟨nmAt_pn hn _, lawSum_pn hn _ _, lawSum_ok _ _ _⟩))
    · split
      · intro f hf
        rcases List.mem_cons.mp hf with rfl | hf
        · exact ⟨Nat.zero_le _, Nat.zero_le _, by show prowsPn []; rw [prowsPn]; trivial, by show prowsPn []; rw [prowsPn]; trivial⟩
        · exact (h.mono (by omega)) f hf
      · split
        · exact FPn.close hn hB h
        · exact h.mono (by omega)
end
end DL

set_option Elab.async false
set_option linter.all false
set_option maxRecDepth 100000
set_option maxHeartbeats 4000000
namespace DL
open PySem L2
theorem RTS.pre {x : Addr} {d0 : D} {a b : List Sl} (h : RTS x d0 a b) : ∀ pre : List Sl, RTS x d0 (pre ++ a) (pre ++ b)
  | [] => h
  | _ :: pre => .same (RTS.pre h pre)
end DL

set_option Elab.async false
set_option linter.all false
set_option maxRecDepth 100000
set_option maxHeartbeats 4000000
namespace DL
open PySem L2
mutual
def tRow : Row → Row
  | .put x s m => .put x (!s) m
  | .swap x y => .swap x y
  | .push x => .pull x
  | .pull x => .push x
  | .iff q1 a b q2 => .iff q2 (tRows a) (tRows b) q1
  | .round q1 a b q2 => .round q2 (tRows a) (tRows b) q1
  | .call y => .call y
  | .undo y => .undo y
def tRows : List Row → List Row
  | [] => []
  | r :: rs => tRows rs ++ [tRow r]
end
def tProg (pr : Prog) : Prog := pr.map fun b => (b.1, tRows b.2)
inductive MirR (pr : Prog) : Plc → Plc → List Row → Prop
  | blk (x : Str) : MirR pr ⟨x, []⟩ ⟨x, []⟩ (rowsOf pr x)
  | part {p p' : Plc} {rs : List Row} {k : Nat} (t : Bool) : MirR pr p p' rs → k < rs.length → (rs.getD k (.call "")).asks = true → MirR pr ((p.at (k : Nat)).at (sideOf t)) ((p'.at ((rs.length - 1 - k : Nat) : Int)).at (sideOf t)) (partOf (rs.getD k (.call "")) t)
def MirP (pr : Prog) (p p' : Plc) : Prop := ∃ q q' rs k, MirR pr q q' rs ∧ k < rs.length ∧ p = q.at (k : Nat) ∧ p' = q'.at ((rs.length - 1 - k : Nat) : Int)
def MirO (pr : Prog) (o o' : Option Plc) : Prop := (o = none ∧ o' = none) ∨ ∃ p p', o = some p ∧ o' = some p' ∧ MirP pr p p'
structure Twin (pr : Prog) (g g' : Gs) : Prop where
  bl : g'.blocks = tProg pr
  bx : g'.boxes = g.boxes
  pl : g'.pile = g.pile
  st : g'.steps = g.steps
  mo : g'.most = g.most
  cl : g'.calls = g.calls
  wd : g'.word = g.word
  pc : MirO pr g.place g'.place
def Twins (pr : Prog) (x x' : Bool × Gs) : Prop := x'.1 = x.1 ∧ Twin pr x.2 x'.2
section
variable {pr : Prog} {g g' : Gs} {p p' : Plc} {q : Qn} {k : Bool}
theorem Twin.over (h : Twin pr g g') (w : Wd) {o o' : Option Plc} (ho : MirO pr o o') : Twin pr (g.over w o) (g'.over w o') := by
  obtain ⟨h1, h2, h3, h4, h5, h6, h7, h8⟩ := h
  exact ⟨h1, h2, h3, h4, h5, h6, rfl, ho⟩
theorem Twin.may (h : Twin pr g g') : Twins pr g.may g'.may := by
  by_cases e : g.steps = g.most
  · rw [may_no e, may_no (by rw [h.st, h.mo]; exact e)]
    exact ⟨rfl, h.over _ (.inl ⟨rfl, rfl⟩)⟩
  · rw [may_yes e, may_yes (by rw [h.st, h.mo]; exact e)]
    obtain ⟨h1, h2, h3, h4, h5, h6, h7, h8⟩ := h
    exact ⟨rfl, h1, h2, h3, by show g'.steps + 1 = g.steps + 1; rw [h4], h5, h6, h7, h8⟩
theorem Twin.wants (h : Twin pr g g') (hp : MirP pr p p') : Twins pr (g.wants q p k) (g'.wants q p' k) := by
  obtain ⟨m1, m2⟩ := h.may
  unfold Gs.wants
  by_cases e : g.may.1 = true
  · rw [if_pos e, if_pos (m1.trans e), m2.bx]
    by_cases e2 : q.asked g.may.2.boxes = k
    · rw [if_pos e2, if_pos e2]
      exact ⟨rfl, m2⟩
    · rw [if_neg e2, if_neg e2]
      exact ⟨rfl, m2.over _ (.inr ⟨p, p', rfl, rfl, hp⟩)⟩
  · rw [if_neg e, if_neg (fun z => e (m1.symm.trans z))]
    exact ⟨rfl, m2⟩
end
section
variable {pr : Prog} {mo : Int} {cs : Str → Prop} {n : Nat} {f : BF} {rs : List Row} {p p' : Plc} {back : Bool}
end
end DL

set_option Elab.async false
set_option linter.all false
set_option maxRecDepth 100000
set_option maxHeartbeats 4000000
namespace DL
open PySem L2
structure Shift (pr2 : Prog) (g g' : Gs) : Prop where
  bl : g'.blocks = pr2
  bx : g'.boxes = g.boxes
  pl : g'.pile = g.pile
  st : g'.steps = g.steps + 1
  mo : g'.most = g.most + 1
  cl : g'.calls = g.calls + 1
  wd : g'.word = g.word
  pc : g'.place = g.place
section
variable {pr pr2 : Prog} {mo : Int} {cs : Str → Prop} {g g' : Gs} {p : Plc} {q : Qn} {k back : Bool} {n : Nat} {f f' : BF} {rs : List Row} {r : Row}
theorem Shift.over (h : Shift pr2 g g') (w : Wd) (o : Option Plc) : Shift pr2 (g.over w o) (g'.over w o) := by
  obtain ⟨h1, h2, h3, h4, h5, h6, h7, h8⟩ := h
  exact ⟨h1, h2, h3, h4, h5, h6, rfl, rfl⟩
theorem Shift.may (h : Shift pr2 g g') : g'.may.1 = g.may.1 ∧ Shift pr2 g.may.2 g'.may.2 := by
  have e1 := h.st
  have e2 := h.mo
  by_cases e : g.steps = g.most
  · rw [may_no e, may_no (g := g') (by omega)]
    exact ⟨rfl, h.over _ _⟩
  · rw [may_yes e, may_yes (g := g') (by omega)]
    obtain ⟨h1, h2, h3, h4, h5, h6, h7, h8⟩ := h
    exact ⟨rfl, h1, h2, h3, by show g'.steps + 1 = g.steps + 1 + 1; omega, h5, h6, h7, h8⟩
theorem Shift.wants (h : Shift pr2 g g') : (g'.wants q p k).1 = (g.wants q p k).1 ∧ Shift pr2 (g.wants q p k).2 (g'.wants q p k).2 := by
  obtain ⟨m1, m2⟩ := h.may
  unfold Gs.wants
  by_cases e : g.may.1 = true
  · rw [if_pos e, if_pos (m1.trans e), m2.bx]
    by_cases e2 : q.asked g.may.2.boxes = k
    · rw [if_pos e2, if_pos e2]
      exact ⟨rfl, m2⟩
    · rw [if_neg e2, if_neg e2]
      exact ⟨rfl, m2.over _ _⟩
  · rw [if_neg e, if_neg (fun z => e (m1.symm.trans z))]
    exact ⟨rfl, m2⟩
end
end DL

set_option Elab.async false
set_option linter.all false
set_option maxRecDepth 100000
set_option maxHeartbeats 4000000
namespace DL
open PySem L2
structure MS where
  rs : List Row
  r : Row
  f : List Int
  odd : Bool
def mstep (s : MS) (i : Int) : MS := if s.odd then ⟨partOf s.r (decide (i = 0)), s.r, s.f ++ [i], false⟩ else ⟨s.rs, s.rs.getD i.toNat (.call ""), s.f ++ [(s.rs.length : Int) - 1 - i], true⟩
def mall (rs : List Row) (l : List Int) : MS := l.foldl mstep ⟨rs, .call "", [], false⟩
def mok (s : MS) (i : Int) : Prop := if s.odd then (i = 0 ∨ i = 1) ∧ s.r.asks = true else 0 ≤ i ∧ i < s.rs.length
def Walks (rs : List Row) (l : List Int) : Prop := ∀ (j : Nat) (i : Int), l[j]? = some i → mok (mall rs (l.take j)) i
theorem mall_snoc (rs : List Row) (l : List Int) (i : Int) : mall rs (l ++ [i]) = mstep (mall rs l) i := by unfold mall; rw [List.foldl_append]; rfl
theorem Walks.snoc {rs : List Row} {l : List Int} {i : Int} (h : Walks rs l) (hi : mok (mall rs l) i) : Walks rs (l ++ [i]) := fun j k e => by
  by_cases hj : j < l.length
  · rw [List.getElem?_append_left hj] at e
    rw [List.take_append_of_le_length (by omega)]
    exact h j k e
  · have : j = l.length := by
      have := (List.getElem?_eq_some_iff.mp e).1
      rw [List.length_append, List.length_singleton] at this
      omega
    subst this
    rw [List.getElem?_append_right (by omega), Nat.sub_self] at e
    have e : i = k := by simpa using e
    subst e
    rw [List.take_append_of_le_length (Nat.le_refl _), List.take_length]
    exact hi
theorem mir_rows {pr : Prog} {p p' : Plc} {rs : List Row} (h : MirR pr p p' rs) : p'.x = p.x ∧ mall (rowsOf pr p.x) p.is = ⟨rs, (mall (rowsOf pr p.x) p.is).r, p'.is, false⟩ ∧ Walks (rowsOf pr p.x) p.is := by
  induction h with
  | blk x => exact ⟨rfl, rfl, fun j i e => by simp at e⟩
  | @part q q' rs k t h hk ha ih =>
    obtain ⟨i1, i2, i3⟩ := ih
    have w1 : mok (mall (rowsOf pr q.x) q.is) (k : Nat) := by
      unfold mok
      rw [i2]
      exact ⟨by show (0 : Int) ≤ k; omega, by show (k : Int) < rs.length; omega⟩
    have e1 : mall (rowsOf pr q.x) (q.is ++ [(k : Int)]) = ⟨rs, rs.getD k (.call ""), q'.is ++ [(rs.length : Int) - 1 - k], true⟩ := by
      rw [mall_snoc, i2]
      rfl
    have w2 : mok (mall (rowsOf pr q.x) (q.is ++ [(k : Int)])) (sideOf t) := by
      unfold mok
      rw [e1]
      exact ⟨by cases t; exact .inr rfl; exact .inl rfl, ha⟩
    refine ⟨i1, ?_, (i3.snoc w1).snoc w2⟩
    show mall (rowsOf pr q.x) ((q.is ++ [(k : Int)]) ++ [sideOf t]) = _
    have e2 : mall (rowsOf pr q.x) ((q.is ++ [(k : Int)]) ++ [sideOf t]) = ⟨partOf (rs.getD k (.call "")) t, rs.getD k (.call ""), (q'.is ++ [(rs.length : Int) - 1 - k]) ++ [sideOf t], false⟩ := by
      rw [mall_snoc, e1]
      cases t <;> rfl
    rw [e2]
    have e3 : ((rs.length : Int) - 1 - k) = ((rs.length - 1 - k : Nat) : Int) := by omega
    rw [e3]
    show _ = MS.mk _ (mall (rowsOf pr q.x) ((q.is ++ [(k : Int)]) ++ [sideOf t])).r _ _
    rw [e2]
    rfl
end DL
namespace DL
open PySem L2
mutual
theorem good_mono {cs cs' : Str → Prop} (h : ∀ y, cs y → cs' y) : ∀ r : Row, r.good cs → r.good cs'
  | .put .., g => by rw [Row.good] at g ⊢; exact g
  | .swap .., _ => (trivial : True)
  | .push .., _ => (trivial : True)
  | .pull .., _ => (trivial : True)
  | .iff q1 a b q2, g => by rw [Row.good] at g ⊢; exact ⟨g.1, goods_mono h a g.2.1, goods_mono h b g.2.2⟩
  | .round q1 a b q2, g => by rw [Row.good] at g ⊢; exact ⟨g.1, goods_mono h a g.2.1, goods_mono h b g.2.2⟩
  | .call y, g => by rw [Row.good] at g ⊢; exact h y g
  | .undo y, g => by rw [Row.good] at g ⊢; exact h y g
theorem goods_mono {cs cs' : Str → Prop} (h : ∀ y, cs y → cs' y) : ∀ rs : List Row, rowsGood cs rs → rowsGood cs' rs
  | [], g => by rw [rowsGood] at g ⊢; trivial
  | r :: rs, g => by rw [rowsGood] at g ⊢; exact ⟨good_mono h r g.1, goods_mono h rs g.2⟩
end
end DL

set_option Elab.async false
set_option linter.all false
set_option maxRecDepth 100000
set_option maxHeartbeats 4000000
namespace DL
open PySem L2
section
variable {c : Cc} {η : Nm} {sl : List Sl} {a b : Addr} {s : PS} {most : Int} {o k e : Expr} {p p2 : Pos} {j : Nat} {i : Int} {y : Str}
end
end DL

set_option Elab.async false
set_option linter.all false
set_option maxRecDepth 100000
set_option maxHeartbeats 4000000
namespace DL
open PySem L2
structure Tidy (L : Bx) (h : Fs) : Prop where
  nd : (keysB L).Nodup
  look : ∀ y, lookI L y = if h y ≠ 0 then some (h y) else none
theorem Tidy.put {L : Bx} {h : Fs} {x : Str} {v : Int} (t : Tidy L h) (hv : v ≠ 0) : Tidy (putI L x v) (setF h x v) := by
  refine ⟨putI_nd t.nd, fun y => ?_⟩
  rw [lookI_put, t.look]
  unfold setF
  by_cases e : y = x
  · rw [if_pos e, if_pos e, if_pos hv]
  · rw [if_neg e, if_neg e]
theorem AllPn.np {bx : Bx} (h : AllPn bx) {y : Str} (hy : PnB y = false) : getI bx y = 0 := by
  by_cases e : getI bx y = 0
  · exact e
  · rw [h y e] at hy; cases hy
section
variable {rows : List PRow} {bx : Bx} {pile : List Int}
end
end DL
namespace DL
open PySem L2
end DL
namespace DL
open PySem L2
end DL
namespace DL
open PySem L2
end DL

set_option Elab.async false
set_option linter.all false
set_option maxRecDepth 100000
set_option maxHeartbeats 3200000
namespace SS
open PySem PySem.Spec PyProof.Rows
section
variable {prog : Program} {w : World} {A : Around} {R : Result → Shared → Prop} {I : Addr} {fp wr : List Addr} {G : Array GenState → Array GenState → Prop} {n : Nat} {P : Nat → Value → Prop} {St : Nat → Shared → Prop}
theorem loopStrN (W : WalksS prog w A.in1 I fp wr G n P St) (S : Addr) (hSf : S ∉ fp) (xs : List Str) (hsz : xs.length = n) (hn1 : xs.Nodup) (hn2 : n < 1000)
    (hval : ∀ i v, P i v → ∃ t, v = .str (xs.getD i Str.empty) t) :
    ∀ (k i : Nat) (s : Shared), n - i = k → i ≤ n → St i s →
      s.heap.SetOf (PySem.strKind prog w) S (fun k' => (xs.take i).any (· == k')) i →
      (∀ s', Moved (S :: wr) G s s' → s'.heap.SetOf (PySem.strKind prog w) S (fun k' => (xs.take n).any (· == k')) n → R (.ok (.ret .none)) s') →
      codeAny (model prog w) A (.builtin "set.update.loop" ⟨[.ref S, .ref I], []⟩) R s := by
  have hSw : S ∉ wr := fun h => hSf (W.sub _ h)
  have hsub : ∀ b ∈ wr, b ∈ S :: wr := fun b hb => List.mem_cons_of_mem _ hb
  intro k
  induction k with
  | zero =>
    intro i s hk hi hst hS hR
    have hin : i = n := by omega
    subst hin
    refine codeAny_builtin PyProof.Rows.F.entry_set_update_loop ?_
    rw [Around.under_plainId PyProof.Rows.F.plain_set_update_loop _]
    show wpAny _ A.in1 (pyNext (.ref I) >>= _) _ _ s
    refine wpAny_bind (W.done s _ _ hst fun s' hm => ?_)
    show wpAny _ A.in1 (ret Value.none) _ _ s'
    exact wpAny_pure (hR s' (hm.mono hsub) (by
      obtain ⟨o, es, ep, t, ho, rest⟩ := hS
      exact ⟨o, es, ep, t, hm.heap S _ hSw ho, rest⟩))
  | succ k ih =>
    intro i s hk hi hst hS hR
    have hlt : i < n := by omega
    refine codeAny_builtin PyProof.Rows.F.entry_set_update_loop ?_
    rw [Around.under_plainId PyProof.Rows.F.plain_set_update_loop _]
    show wpAny _ A.in1 (pyNext (.ref I) >>= _) _ _ s
    refine wpAny_bind (W.item i s _ _ hlt hst fun v s' hP hst' hm => ?_)
    obtain ⟨t, rfl⟩ := hval i v hP
    have hS' : s'.heap.SetOf (PySem.strKind prog w) S (fun k' => (xs.take i).any (· == k')) i := by
      obtain ⟨o, es, ep, tb, ho, rest⟩ := hS
      exact ⟨o, es, ep, tb, hm.heap S _ hSw ho, rest⟩
    show wpAny _ A.in1 (holding [Value.str (xs.getD i Str.empty) t] (setAdd S (.str (xs.getD i Str.empty) t)) >>= _) _ _ s'
    refine wpAny_bind (wpAny_holding ?_)
    unfold setAdd
    refine wpAny_holding ?_
    refine wpAny_bind ((PySem.strKind prog w).pyHash (k := xs.getD i Str.empty) (strKind_is _ _ _ _) ?_)
    have hnot : (xs.take i).any (· == xs.getD i Str.empty) = false := by
      have hx : xs.getD i Str.empty = xs[i]'(by omega) := by rw [List.getD_eq_getElem?_getD, List.getElem?_eq_getElem (by omega)]; rfl
      rw [hx, List.any_eq_false]
      intro z hz he
      have he : z = xs[i]'(by omega) := by simpa using he
      obtain ⟨j, hj, e⟩ := List.getElem_of_mem hz
      rw [List.length_take] at hj
      rw [List.getElem_take] at e
      exact (List.pairwise_iff_getElem.mp hn1 j i (by omega) (by omega) (by omega)) (e.trans he)
    refine wpAny_setAddHashed_of (knd := PySem.strKind prog w) (s := { s' with toks := s'.toks + 1 }) (strKind_is _ _ _ _) rfl hS' (by unfold scanBound; omega) fun h' hsb hS2 => ?_
    have hSi : h'.SetOf (PySem.strKind prog w) S (fun k' => (xs.take (i + 1)).any (· == k')) (i + 1) := by
      refine SetOf_congr hS2 (fun k' => ?_) (by rw [hnot]; rfl)
      rw [List.take_add_one, List.any_append, List.getElem?_eq_getElem (show i < xs.length by omega), List.getD_eq_getElem?_getD, List.getElem?_eq_getElem (show i < xs.length by omega)]
      show _ = (_ || [xs[i]'(by omega)].any (· == k'))
      congr 1
      show decide (k' = xs[i]'(by omega)) = ([xs[i]'(by omega)].any (· == k'))
      rw [List.any_cons, List.any_nil, Bool.or_false]
      by_cases e : k' = xs[i]'(by omega)
      · rw [decide_eq_true e, ← e]; exact (beq_self_eq_true k').symm
      · rw [decide_eq_false e]; exact (beq_eq_false_iff_ne.mpr fun h => e h.symm).symm
    refine wpAny_pure ⟨plainId_quiet PyProof.Rows.F.plain_set_update_loop _, ih (i + 1) _ (by omega) hlt (W.frame _ s' _ _ hst' (Nat.le_succ _) fun b hb o e => ?_) hSi fun s'' hm'' hS'' => ?_⟩
    · rw [hsb.2 b (fun h : b = S => hSf (by rw [← h]; exact hb))]; exact e
    · refine hR s'' (Moved.trans W.gtrans ((hm.mono hsub).then_heap (Nat.le_succ _) fun b o hb e => ?_) hm'') hS''
      rw [hsb.2 b (fun h : b = S => hb (by rw [h]; exact List.mem_cons_self))]; exact e
end

section
variable {prog : Program} {w : World} {A : Around} {E : Value → Shared → Prop} {s : Shared}
set_option maxHeartbeats 3200000 in
theorem call_set_listSN {l : Addr} {items : Array Value} {xs : List Str} {Q : Value → Shared → Prop}
    (hh : A.handled = none) (hl : s.heap.IsList l items) (hi : PyProof.Rows.StrsAre items.toList xs) (hn1 : xs.Nodup) (hn2 : xs.length < 1000)
    (h : ∀ (h' : Heap) (tk : Nat), h'.SetOf (PySem.strKind prog w) s.heap.objs.size (fun k' => (xs.take items.size).any (· == k')) items.size →
      (∀ b o, b < s.heap.objs.size → s.heap.get? b = some o → h'.get? b = some o) → Q (.ref s.heap.objs.size) { s with heap := h', toks := tk }) :
    wpAny (model prog w) A (call (.type "set") [.ref l]) Q E s := by
  obtain ⟨c, tl, hmro⟩ := PySem.F.called_set.mro
  have hmade := PySem.F.called_set.made
  have hsub := PySem.F.called_set.sub
  refine wpAny_call (codeAny_of_tree ?_)
  show wpAny _ _ (callAny (.type "set") _) _ _ _
  refine wpAny_pure ⟨Code.quiet_builtin _ (by decide +kernel), codeAny_builtin PySem.F.entry_type_call ?_⟩
  rw [Around.under_plain (weight_type_call_type "set" [.ref l] []) rfl]
  have h1 := PySem.F.called_set.notType
  have h2 := PySem.F.called_set.canCreate
  have hct := PySem.F.typeCall_set_1 (.ref l)
  repeat (any_goals (first | assumption | wp_step))

  refine codeAny_mono (code_set_new_1 (.ref l) (E := E) (Q₁ := fun obj s₁ => ∃ led : Bool, obj = .ref s.heap.objs.size ∧ s₁ = { s with heap := s.heap.push { cls := .type "set", dict := none, data := .set #[] 0 (.fresh 0 0 led) } }) fun led => ⟨led, rfl, rfl⟩) fun r s₁ hr => ?_
  cases r with
  | error e => exact hr
  | ok fl =>
    cases fl with
    | ret obj =>
      obtain ⟨led, rfl, rfl⟩ := hr
      have hS : (s.heap.push { cls := .type "set", dict := none, data := .set #[] 0 (.fresh 0 0 led) }).get? s.heap.objs.size = some { cls := .type "set", dict := none, data := .set #[] 0 (.fresh 0 0 led) } := Heap.get?_push_size _ rfl
      have hT : Shared.TypeIs { s with heap := s.heap.push { cls := .type "set", dict := none, data := .set #[] 0 (.fresh 0 0 led) } } (.ref s.heap.objs.size) "set" := ⟨_, hS, rfl⟩
      have hli := PySem.F.called_set.init.lookup
      have hbi := PySem.F.called_set.init.bind (.ref s.heap.objs.size)
      repeat (any_goals (first | assumption | wp_step))

      refine codeAny_mono (codeAny_call_builtin (R := wants (fun r s₂ => r = .none ∧ ∃ h' tk, s₂ = { s with heap := h', toks := tk } ∧
          h'.SetOf (PySem.strKind prog w) s.heap.objs.size (fun k' => (xs.take items.size).any (· == k')) items.size ∧
          (∀ b o, b < s.heap.objs.size → s.heap.get? b = some o → h'.get? b = some o)) E) PySem.F.called_set.init.plain PySem.F.entry_set_init (check_set_init_1 hT ?_)) fun r₂ s₂ hr₂ => ?_
      · obtain ⟨ol, hol, hcl, nl, hdl⟩ := hl
        obtain ⟨ocls, odict, odata, oslots⟩ := ol
        simp only at hcl hdl
        subst hcl; subst hdl
        have hol' : (s.heap.push { cls := .type "set", dict := none, data := .set #[] 0 (.fresh 0 0 led) }).get? l = some { cls := .type "list", dict := odict, data := .seq items nl, slots := oslots } := Heap.get?_push_of_some _ hol
        have hsls := PySem.F.sub_list_set
        have hslf := PySem.F.sub_list_frozenset
        have hne : (Value.type "list" == Value.type "dict") = false := by decide
        have hl1 : (s.heap.push { cls := .type "set", dict := none, data := .set #[] 0 (.fresh 0 0 led) }).IsList l items := ⟨_, hol', rfl, nl, rfl⟩
        unfold Builtin.«set.__init__» noKeywords Builtin.Frozenset.updateFrom
        generalize hPI : pyIter = PI
        wp_walk
        subst hPI

        refine wpAny_pyIter_list hl1 ?_
        refine wpAny_bind (wpAny_runValue ?_)
        have hlS : l < s.heap.objs.size := Heap.lt_size hol
        have hh3 : A.in1.in1.in1.handled = none := by simp [hh]
        have hneI : l ≠ (s.heap.push { cls := .type "set", dict := none, data := .set #[] 0 (.fresh 0 0 led) }).objs.size := by
          rw [Heap.size_push]; exact Nat.ne_of_lt (Nat.lt_succ_of_lt hlS)
        have hSf : s.heap.objs.size ∉ [(s.heap.push { cls := .type "set", dict := none, data := .set #[] 0 (.fresh 0 0 led) }).objs.size, l] := by
          rw [Heap.size_push]; simp only [List.mem_cons, List.mem_singleton, List.not_mem_nil, or_false, not_or]
          exact ⟨Nat.ne_of_lt (Nat.lt_succ_self _), Nat.ne_of_gt hlS⟩
        have hsz : xs.length = items.size := by rw [← StrsAre.len_eq hi, Array.length_toList]
        have hval : ∀ (i : Nat) (v : Value), items[i]? = some v → ∃ t, v = .str (xs.getD i Str.empty) t := fun i v hv => strs_at hi i v (by rw [Array.getElem?_toList]; exact hv)
        refine loopStrN ((Walks.list hh3 _ l hneI items).toS) s.heap.objs.size
          hSf xs hsz hn1 (by rw [← hsz]; exact hn2) hval (items.size - 0) 0 _ (by omega) (Nat.zero_le _)
          ⟨⟨_, Heap.get?_push_size _ rfl, rfl, rfl⟩, (hl1.push _)⟩ ?hS0 ?hR
        case hS0 =>
          have hget : ((s.heap.push { cls := .type "set", dict := none, data := .set #[] 0 (.fresh 0 0 led) }).push { cls := .type "list_iterator", data := .fields #[.ref l, .int 0 0] }).get? s.heap.objs.size
              = some { cls := .type "set", dict := none, data := .set #[] 0 (.fresh 0 0 led) } := Heap.get?_push_of_some _ hS
          exact PyProof.Rows.SetOf_congr ((PyProof.Rows.setObjOf_fresh (knd := PySem.strKind prog w) led).setOf hget (by unfold scanBound; omega)) (fun _ => rfl) rfl
        case hR =>
          intro s' hm hS'
          obtain ⟨h', g', d', tk', os'⟩ := s'
          have eg : g' = s.gens := hm.gens
          have ed : d' = s.drawn := hm.drawn
          have eo : os' = s.os := hm.os
          subst eg; subst ed; subst eo
          show wpAny _ _ _ _ _ _
          refine wpAny_pure ?_
          show wpAny _ _ (ret Value.none) _ _ _
          refine wpAny_pure ⟨rfl, h', tk', rfl, hS', fun b o hb e => ?_⟩
          have hb1 : b ≠ s.heap.objs.size := Nat.ne_of_lt hb
          have hb2 : b ≠ (s.heap.push { cls := .type "set", dict := none, data := .set #[] 0 (.fresh 0 0 led) }).objs.size := by
            rw [Heap.size_push]; exact Nat.ne_of_lt (Nat.lt_succ_of_lt hb)
          exact hm.heap b o (by simp only [List.mem_cons, List.mem_singleton, List.not_mem_nil, or_false, not_or]; exact ⟨hb1, hb2⟩) (Heap.get?_push_of_some _ (Heap.get?_push_of_some _ e))

      · cases r₂ with
        | error e => exact hr₂
        | ok fl₂ =>
          cases fl₂ with
          | ret r =>
            obtain ⟨rfl, h', tk, rfl, hS', hk'⟩ := hr₂
            repeat (any_goals (first | assumption | wp_step))
            exact h _ _ hS' hk'
          | _ => exact hr₂.elim
    | _ => exact hr.elim
end
end SS
namespace L2
open PySem PySem.Spec PyProof.Rows
section
variable {X : Cx}
def tLenSetN (K : PySem.W.Frag) (ta : TE) : TE := fun σ H Q => ta σ H fun x H1 => ∃ l, ∃ xs : List Str, x = .ref l ∧ SqL K H1 l (xs.map V.str) ∧ xs.Nodup ∧ xs.length < 1000 ∧ Q (.int xs.length) H1
theorem pe_lenSetN {a : Expr} {ta : TE} {p p2 q pos : Pos} (hc : X.calm = true) (hg : Gl X "len") (hm : X.mg "len" = none) (hg2 : Gl X "set") (hm2 : X.mg "set" = none) (ha : PE X a ta)
    (na : starEach [a] X.env = (false, eval a X.env) :: starEach [] X.env := by rfl) : PE X (.Call (.Name "len" p) [.Call (.Name "set" p2) [a] [] q] [] pos) (tLenSetN X.K ta) := by
  refine ⟨fun pins s σ H Q I h => ?_⟩
  refine Call_ (ld_blt I hg hm boot_len ?_)
  refine PyProof.Rows.callWith_builtin1 (PyProof.Rows.args_cons ?_ rfl) rfl rfl
  refine Call_ (ld_blt I hg2 hm2 boot_set ?_)
  refine PyProof.Rows.callWith_type1 (PyProof.Rows.args_cons (thn (ha.run pins s σ H _ I h) fun v s1 ⟨x, H1, I1, r1, q1⟩ => PyProof.Rows.args_nil ?_) na) na rfl
  obtain ⟨l, xs, rfl, hq, h1, h2, q1⟩ := q1
  cases r1
  have fin : ∀ (its : List Value), Vals (xs.map V.str) its → ∀ (h' : Heap) (tk : Nat), h'.SetOf (PySem.strKind X.prog X.w) s1.heap.objs.size (fun k' => (xs.take its.toArray.size).any (· == k')) its.toArray.size →
      (∀ b o, b < s1.heap.objs.size → s1.heap.get? b = some o → h'.get? b = some o) →
      wpAny (model X.prog X.w) X.A (spliced (backTo pos (starEach [] X.env))) (fun vs s₂ => wpAny (model X.prog X.w) X.A (call (.builtin "len") (Value.ref s1.heap.objs.size :: vs)) (EP X pins σ Q) X.xe s₂) X.xe { s1 with heap := h', toks := tk } := fun its r h' tk hS hk => by
    refine PyProof.Rows.args_nil ?_
    have hl : its.toArray.size = xs.length := by rw [List.size_toArray, ← r.length, List.length_map]
    rw [hl] at hS
    obtain ⟨o, es, ep, t, ho, hex, hd, _, _, _, hf, hn⟩ := hS
    have I2 : Inv X pins σ H1 { s1 with heap := h', toks := tk } := I1.kept fun b o e => hk b o (Heap.lt_size e) e
    refine call_len_set ho hex hd hf (by rw [hn] <;> omega) ⟨.int xs.length, H1, I2.tok _, ⟨_, by rw [hn]⟩, q1⟩
  obtain ⟨its, r, pl, hz⟩ := I1.list hq
  exact SS.call_set_listSN (I1.ok.hd hc) pl.isList (by simpa using L2.strsAre_of r) h1 h2 fun h' tk hS hk => fin its r h' tk hS hk
end
end L2

set_option Elab.async false
set_option linter.all false
set_option maxRecDepth 100000
set_option maxHeartbeats 4000000
namespace DL
open PySem L2
def Th.nm : Th → Prop
  | .num _ => True
  | .box x => isNameS x = true
def Sm.nm : Sm → Prop
  | .one a => a.nm
  | .op _ a b => a.nm ∧ b.nm
def Qn.nm (q : Qn) : Prop := q.a.nm ∧ q.b.nm
mutual
def PRow.nm : PRow → Prop
  | .set x m => isNameS x = true ∧ m.nm
  | .iff q a b => q.nm ∧ prowsNm a ∧ prowsNm b
  | .wh q a => q.nm ∧ prowsNm a
def prowsNm : List PRow → Prop
  | [] => True
  | r :: rs => r.nm ∧ prowsNm rs
end
theorem prowsNm_app : ∀ {a b : List PRow}, prowsNm a → prowsNm b → prowsNm (a ++ b)
  | [], _, _, h => h
  | r :: a, b, h, g => by
    rw [prowsNm] at h
    rw [List.cons_append, prowsNm]
    exact ⟨h.1, prowsNm_app h.2 g⟩
theorem prowsNm_one {r : PRow} (h : r.nm) : prowsNm [r] := by rw [prowsNm, prowsNm]; exact ⟨h, trivial⟩
theorem prowsNm_nil : prowsNm [] := by rw [prowsNm]; trivial
section
variable {names : List Str} (hn : ∀ z ∈ names, isNameS z = true) (h9 : names.length = 9)
include hn h9
theorem nmAt_nm {i : Int} (h0 : 0 ≤ i) (h : i < 9) : isNameS (nmAt names i) = true := hn _ (getD_mem (by omega))
theorem lawThing_nm (n : Int) (own : Str) : (lawThing n own names).nm := by
  unfold lawThing
  split
  · exact hn _ (getD_mem (by omega))
  · trivial
theorem lawSum_nm (n : Int) (own : Str) : (lawSum n own names).nm := by
  unfold lawSum
  split
  · exact lawThing_nm hn h9 _ _
  · exact ⟨lawThing_nm hn h9 _ _, lawThing_nm hn h9 _ _⟩
theorem lawQuestion_nm (n : Int) : (lawQuestion n names).nm := ⟨lawThing_nm hn h9 _ _, lawThing_nm hn h9 _ _⟩
def FNm (fs : List PFr) : Prop := fs.length ≤ 4 ∧ ∀ f ∈ fs, prowsNm f.a ∧ prowsNm f.b
omit hn h9 in
theorem FNm.app {t : PFr} {r : List PFr} {rs : List PRow} (h : FNm (t :: r)) (hr : prowsNm rs) : FNm (t.app rs :: r) := ⟨h.1, fun f hf => by
  rcases List.mem_cons.mp hf with rfl | hf
  · obtain ⟨c, d⟩ := h.2 t List.mem_cons_self
    unfold Fr.app
    split
    · exact ⟨prowsNm_app c hr, d⟩
    · exact ⟨c, prowsNm_app d hr⟩
  · exact h.2 f (List.mem_cons_of_mem _ hf)⟩
theorem pClosed_nm {f : PFr} {level : Int} (h0 : 0 ≤ level) (h3 : level ≤ 3) (h : prowsNm f.a ∧ prowsNm f.b) : prowsNm (pClosed f level names) := by
  have hm := nmAt_nm hn h9 (show 0 ≤ 5 + level by omega) (by omega)
  unfold pClosed
  split
  · exact prowsNm_one (by rw [PRow.nm]; exact ⟨lawQuestion_nm hn h9 _, h⟩)
  · split
    · exact prowsNm_one (by rw [PRow.nm]; exact ⟨lawQuestion_nm hn h9 _, h.1⟩)
    · rw [prowsNm, prowsNm, prowsNm, PRow.nm, PRow.nm]
      exact ⟨⟨hm, trivial⟩, ⟨⟨hm, trivial⟩, prowsNm_app h.1 (prowsNm_one (by rw [PRow.nm]; exact ⟨hm, hm, trivial⟩))⟩, trivial⟩
theorem FNm.close : ∀ {fs : List PFr}, FNm fs → FNm (pClose names fs)
  | [], h => h
  | [f], h => h
  | t :: u :: r, h => by
    rw [pClose_cons]
    split
    · refine ⟨h.1, fun f hf => ?_⟩
      rcases List.mem_cons.mp hf with rfl | hf
      · exact h.2 t List.mem_cons_self
      · exact h.2 f (List.mem_cons_of_mem _ hf)
    · have h1 := h.1
      rw [List.length_cons, List.length_cons] at h1
      exact FNm.app ⟨by rw [List.length_cons]; omega, fun f hf => h.2 f (List.mem_cons_of_mem _ hf)⟩ (pClosed_nm hn h9 (by omega) (by omega) (h.2 t List.mem_cons_self))
theorem FNm.step {n : Int} : ∀ {fs : List PFr}, FNm fs → FNm (pStep names n fs)
  | [], h => h
  | t :: r, h => by
    rw [pStep_cons]
    split
    · exact h.app (prowsNm_one (by rw [PRow.nm]; exact ⟨nmAt_nm hn h9 (by omega) (by omega), lawSum_nm hn h9 _ _⟩))
    · split
      · rename_i hc
        refine ⟨by rw [List.length_cons, List.length_cons]; omega, fun f hf => ?_⟩
        rcases List.mem_cons.mp hf with rfl | hf
        · exact ⟨prowsNm_nil, prowsNm_nil⟩
        · exact h.2 f hf
      · split
        · exact FNm.close hn h9 h
        · exact h
end
def Th.chk (t : Th) : Prop := t.nm ∧ t.ok
def Sm.chk : Sm → Prop
  | .one a => a.chk
  | .op _ a b => a.chk ∧ b.chk
def Qn.chk (q : Qn) : Prop := q.a.chk ∧ q.b.chk
mutual
def Row.chk (cs : Str → Prop) : Row → Prop
  | .put x _ m => isNameS x = true ∧ m.chk ∧ m.free x
  | .swap x y => isNameS x = true ∧ isNameS y = true
  | .push x => isNameS x = true
  | .pull x => isNameS x = true
  | .iff q1 a b q2 => (q1.chk ∧ q2.chk) ∧ rowsChk cs a ∧ rowsChk cs b
  | .round q1 a b q2 => (q1.chk ∧ q2.chk) ∧ rowsChk cs a ∧ rowsChk cs b
  | .call x => cs x
  | .undo x => cs x
def rowsChk (cs : Str → Prop) : List Row → Prop
  | [] => True
  | r :: rs => r.chk cs ∧ rowsChk cs rs
end
end DL

set_option Elab.async false
set_option linter.all false
set_option maxRecDepth 100000
set_option maxHeartbeats 4000000
namespace DL
open PySem L2
mutual
inductive ROp : Row → D → List (Addr × D) → Prop
  | leaf {r : Row} : r.asks = false → ROp r r.d []
  | iff {q1 q2 : Qn} {a b : List Row} {x y : Addr} {la lb : List D} {wa wb : List (Addr × D)} : RsOp a la wa → RsOp b lb wb → ROp (.iff q1 a b q2) (.tup [.str "if", q1.d, .ref x, .ref y, q2.d]) (((x, .lst la) :: wa) ++ ((y, .lst lb) :: wb))
  | round {q1 q2 : Qn} {a b : List Row} {x y : Addr} {la lb : List D} {wa wb : List (Addr × D)} : RsOp a la wa → RsOp b lb wb → ROp (.round q1 a b q2) (.tup [.str "round", q1.d, .ref x, .ref y, q2.d]) (((x, .lst la) :: wa) ++ ((y, .lst lb) :: wb))
inductive RsOp : List Row → List D → List (Addr × D) → Prop
  | nil : RsOp [] [] []
  | cons {r : Row} {rs : List Row} {d : D} {ds : List D} {w w2 : List (Addr × D)} : ROp r d w → RsOp rs ds w2 → RsOp (r :: rs) (d :: ds) (w ++ w2)
end
mutual
theorem ROp.opn : ∀ {r : Row} {d : D} {w : List (Addr × D)}, ROp r d w → Opn r.d d w
  | _, _, _, .leaf _ => .leaf _
  | _, _, _, .iff (q1 := q1) (q2 := q2) (x := x) (y := y) ha hb => by
    rw [Row.d]
    have h := OpnL.leafc (d := .str "if") (OpnL.leafc (d := q1.d) (OpnL.cons (Opn.lst (a := x) ha.opn) (OpnL.cons (Opn.lst (a := y) hb.opn) (OpnL.leafs [q2.d]))))
    rw [List.append_nil] at h
    exact .tup h
  | _, _, _, .round (q1 := q1) (q2 := q2) (x := x) (y := y) ha hb => by
    rw [Row.d]
    have h := OpnL.leafc (d := .str "round") (OpnL.leafc (d := q1.d) (OpnL.cons (Opn.lst (a := x) ha.opn) (OpnL.cons (Opn.lst (a := y) hb.opn) (OpnL.leafs [q2.d]))))
    rw [List.append_nil] at h
    exact .tup h
theorem RsOp.opn : ∀ {rs : List Row} {ds : List D} {w : List (Addr × D)}, RsOp rs ds w → OpnL (rowsD rs) ds w
  | _, _, _, .nil => by rw [rowsD]; exact .nil
  | _, _, _, .cons h t => by rw [rowsD]; exact .cons h.opn t.opn
end
theorem RsOp.len : ∀ {rs : List Row} {ds : List D} {w : List (Addr × D)}, RsOp rs ds w → ds.length = rs.length
  | _, _, _, .nil => rfl
  | _, _, _, .cons _ t => congrArg (· + 1) t.len
theorem RsOp.app : ∀ {a b : List Row} {da db : List D} {wa wb : List (Addr × D)}, RsOp a da wa → RsOp b db wb → RsOp (a ++ b) (da ++ db) (wa ++ wb)
  | _, _, _, _, _, _, .nil, h => h
  | _, _, _, _, _, _, .cons h t, g => by
    rw [List.append_assoc]
    exact .cons h (t.app g)
theorem RsOp.one {r : Row} {d : D} {w : List (Addr × D)} (h : ROp r d w) : RsOp [r] [d] w := by
  have := RsOp.cons h .nil
  rwa [List.append_nil] at this
def ROp' (r : Row) (d : D) (w : List (Addr × D)) : Prop := ∃ w0, ROp r d w0 ∧ w.Perm w0
def RsOp' (rs : List Row) (ds : List D) (w : List (Addr × D)) : Prop := ∃ w0, RsOp rs ds w0 ∧ w.Perm w0
theorem RsOp'.nil : RsOp' [] [] [] := ⟨[], .nil, .nil⟩
theorem RsOp'.app {a b : List Row} {da db : List D} {wa wb w : List (Addr × D)} (h : RsOp' a da wa) (g : RsOp' b db wb) (p : w.Perm (wa ++ wb)) : RsOp' (a ++ b) (da ++ db) w := by
  obtain ⟨w0, h, p1⟩ := h
  obtain ⟨w2, g, p2⟩ := g
  exact ⟨_, h.app g, p.trans (p1.append p2)⟩
theorem RsOp'.snoc {a : List Row} {r : Row} {da : List D} {d : D} {wa wb w : List (Addr × D)} (h : RsOp' a da wa) (g : ROp' r d wb) (p : w.Perm (wa ++ wb)) : RsOp' (a ++ [r]) (da ++ [d]) w := by
  obtain ⟨w2, g, p2⟩ := g
  exact h.app ⟨_, .one g, p2⟩ p
theorem ROp'.leaf {r : Row} (h : r.asks = false) : ROp' r r.d [] := ⟨[], .leaf h, .nil⟩
theorem ROp'.iff {q1 q2 : Qn} {a b : List Row} {x y : Addr} {la lb : List D} {wa wb w : List (Addr × D)} (ha : RsOp' a la wa) (hb : RsOp' b lb wb) (p : w.Perm (((x, .lst la) :: wa) ++ ((y, .lst lb) :: wb))) : ROp' (.iff q1 a b q2) (.tup [.str "if", q1.d, .ref x, .ref y, q2.d]) w := by
  obtain ⟨w0, ha, p1⟩ := ha
  obtain ⟨w2, hb, p2⟩ := hb
  exact ⟨_, .iff ha hb, p.trans ((p1.cons _).append (p2.cons _))⟩
theorem ROp'.round {q1 q2 : Qn} {a b : List Row} {x y : Addr} {la lb : List D} {wa wb w : List (Addr × D)} (ha : RsOp' a la wa) (hb : RsOp' b lb wb) (p : w.Perm (((x, .lst la) :: wa) ++ ((y, .lst lb) :: wb))) : ROp' (.round q1 a b q2) (.tup [.str "round", q1.d, .ref x, .ref y, q2.d]) w := by
  obtain ⟨w0, ha, p1⟩ := ha
  obtain ⟨w2, hb, p2⟩ := hb
  exact ⟨_, .round ha hb, p.trans ((p1.cons _).append (p2.cons _))⟩
inductive POp : Prog → List D → List (Addr × D) → Prop
  | nil : POp [] [] []
  | cons {nm : Str} {rows : List Row} {pr : Prog} {x : Addr} {ds dp : List D} {w w2 : List (Addr × D)} : RsOp rows ds w → POp pr dp w2 → POp ((nm, rows) :: pr) (.tup [.str nm, .ref x] :: dp) (((x, .lst ds) :: w) ++ w2)
theorem POp.opn : ∀ {pr : Prog} {dp : List D} {w : List (Addr × D)}, POp pr dp w → OpnL (progD pr) dp w
  | _, _, _, .nil => .nil
  | _, _, _, .cons (nm := nm) (x := x) h t => by
    refine .cons ?_ t.opn
    have := OpnL.leafc (d := .str nm) (OpnL.cons (Opn.lst (a := x) h.opn) .nil)
    rw [List.append_nil] at this
    exact .tup this
theorem POp.app : ∀ {a b : Prog} {da db : List D} {wa wb : List (Addr × D)}, POp a da wa → POp b db wb → POp (a ++ b) (da ++ db) (wa ++ wb)
  | _, _, _, _, _, _, .nil, h => h
  | _, _, _, _, _, _, .cons h t, g => by
    rw [List.append_assoc]
    exact .cons h (t.app g)
theorem POp.len : ∀ {pr : Prog} {ds : List D} {w : List (Addr × D)}, POp pr ds w → ds.length = pr.length
  | _, _, _, .nil => rfl
  | _, _, _, .cons _ t => congrArg (· + 1) t.len
def POp' (pr : Prog) (ds : List D) (w : List (Addr × D)) : Prop := ∃ w0, POp pr ds w0 ∧ w.Perm w0
theorem POp'.snoc {pr : Prog} {nm : Str} {rows : List Row} {x : Addr} {dp ds : List D} {wa wb w : List (Addr × D)} (h : POp' pr dp wa) (g : RsOp' rows ds wb) (p : w.Perm (wa ++ ((x, .lst ds) :: wb))) : POp' (pr ++ [(nm, rows)]) (dp ++ [.tup [.str nm, .ref x]]) w := by
  obtain ⟨w0, h, p1⟩ := h
  obtain ⟨w2, g, p2⟩ := g
  refine ⟨_, h.app (.cons (x := x) (nm := nm) g .nil), p.trans ?_⟩
  rw [List.append_nil]
  exact p1.append (p2.cons _)
theorem POp'.close {pr : Prog} {ds : List D} {w : List (Addr × D)} (h : POp' pr ds w) (a : Addr) : ∃ w0, Opn (.lst (progD pr)) (.ref a) w0 ∧ ∀ p ∈ w0, p ∈ (a, .lst ds) :: w := by
  obtain ⟨w0, h, p⟩ := h
  refine ⟨_, .lst (a := a) h.opn, fun q hq => ?_⟩
  rcases List.mem_cons.mp hq with rfl | hq
  · exact List.mem_cons_self
  · exact List.mem_cons_of_mem _ (p.mem_iff.mpr hq)
end DL
namespace DL
open PySem L2
end DL
namespace DL
open PySem L2
theorem POp'.step {pr : Prog} {dp : List D} {w : List (Addr × D)} {i : Nat} {d : D} (h : POp' (pr.drop i) (dp.drop i) w) (hd : dp[i]? = some d) : ∃ nm rows x ds w1 w2, pr[i]? = some (nm, rows) ∧ d = .tup [.str nm, .ref x] ∧ RsOp' rows ds w1 ∧ POp' (pr.drop (i + 1)) (dp.drop (i + 1)) w2 ∧ w.Perm (((x, .lst ds) :: w1) ++ w2) := by
  obtain ⟨w0, h, hp⟩ := h
  have hi : i < dp.length := (List.getElem?_eq_some_iff.mp hd).1
  have e1 : dp.drop i = d :: dp.drop (i + 1) := by
    rw [List.drop_eq_getElem_cons hi]
    rw [List.getElem?_eq_getElem hi] at hd
    rw [Option.some.inj hd]
  have hl := h.len
  rw [List.length_drop, List.length_drop] at hl
  have hir : i < pr.length := by omega
  have e2 : pr.drop i = pr[i] :: pr.drop (i + 1) := List.drop_eq_getElem_cons hir
  have e3 : pr[i]? = some pr[i] := List.getElem?_eq_getElem hir
  rw [e1, e2] at h
  generalize pr[i] = b at h e3
  cases h with
  | cons hr ht => exact ⟨_, _, _, _, _, _, e3, rfl, ⟨_, hr, .refl _⟩, ⟨_, ht, .refl _⟩, hp⟩
theorem POp'.len {pr : Prog} {dp : List D} {w : List (Addr × D)} (h : POp' pr dp w) : dp.length = pr.length := by obtain ⟨_, h, _⟩ := h; exact h.len
end DL

set_option Elab.async false
set_option linter.all false
set_option maxRecDepth 100000
set_option maxHeartbeats 4000000
namespace DL
open PySem L2
mutual
def Row.cnt : Row → Nat
  | .iff _ a b _ => 1 + rowsCnt a + rowsCnt b
  | .round _ a b _ => 1 + rowsCnt a + rowsCnt b
  | _ => 1
def rowsCnt : List Row → Nat
  | [] => 0
  | r :: rs => r.cnt + rowsCnt rs
end
theorem rowsCnt_app (a b : List Row) : rowsCnt (a ++ b) = rowsCnt a + rowsCnt b := by
  induction a with
  | nil => rw [List.nil_append, rowsCnt]; omega
  | cons r a ih => rw [List.cons_append, rowsCnt, rowsCnt, ih]; omega
theorem plain_cnt {r : Row} (h : r.plainB = true) : r.cnt = 1 := by cases r <;> first | rfl | cases h
theorem rowsCnt_plain : ∀ {rs : List Row}, (∀ r ∈ rs, r.plainB = true) → rowsCnt rs = rs.length
  | [], _ => by rw [rowsCnt]; rfl
  | r :: rs, h => by
    rw [rowsCnt, plain_cnt (h r List.mem_cons_self), rowsCnt_plain (rs := rs) fun q hq => h q (List.mem_cons_of_mem _ hq), List.length_cons]
    omega
def frCnt : List RFr → Nat
  | [] => 0
  | f :: r => rowsCnt f.a + rowsCnt f.b + frCnt r
theorem frCnt_app (t : RFr) (r : List RFr) (rs : List Row) : frCnt (t.app rs :: r) = frCnt (t :: r) + rowsCnt rs := by
  unfold Fr.app
  split
  · show rowsCnt (t.a ++ rs) + rowsCnt t.b + frCnt r = rowsCnt t.a + rowsCnt t.b + frCnt r + _
    rw [rowsCnt_app]; omega
  · show rowsCnt t.a + rowsCnt (t.b ++ rs) + frCnt r = rowsCnt t.a + rowsCnt t.b + frCnt r + _
    rw [rowsCnt_app]; omega
theorem rClosed_cnt (f : RFr) (block level : Int) (names : List Str) : rowsCnt (rClosed f block level names) ≤ rowsCnt f.a + rowsCnt f.b + 3 := by
  unfold rClosed
  split
  · rw [rowsCnt, rowsCnt, Row.cnt]; omega
  · rw [rowsCnt, rowsCnt, rowsCnt, Row.cnt, rowsCnt_app, rowsCnt, rowsCnt, plain_cnt (r := .put ..) rfl, plain_cnt (r := .put ..) rfl]
    omega
theorem rClose_cnt (block : Int) (names : List Str) : ∀ fs : List RFr, frCnt (rClose block names fs) ≤ frCnt fs + 3
  | [] => Nat.le_add_right _ _
  | [f] => Nat.le_add_right _ _
  | t :: u :: r => by
    rw [rClose_cons]
    split
    · show rowsCnt t.a + rowsCnt t.b + frCnt (u :: r) ≤ rowsCnt t.a + rowsCnt t.b + frCnt (u :: r) + 3
      omega
    · have := rClosed_cnt t block ((r.length + 1 : Nat) : Int) names
      rw [frCnt_app]
      show rowsCnt u.a + rowsCnt u.b + frCnt r + _ ≤ rowsCnt t.a + rowsCnt t.b + (rowsCnt u.a + rowsCnt u.b + frCnt r) + 3
      omega
theorem rStep_cnt (block many : Int) (names : List Str) (n : Int) : ∀ fs : List RFr, frCnt (rStep block many names n fs) ≤ frCnt fs + 3
  | [] => Nat.le_add_right _ _
  | t :: r => by
    rw [rStep_cons]
    split
    · rw [frCnt_app, rowsCnt_plain (fun r hr => (lawSimple_plain _ _ r hr).1)]
      have := lawSimple_len (n / 16) names
      omega
    · split
      · rw [frCnt_app, rowsCnt, rowsCnt]
        have : (rCall block many n names).cnt = 1 := by unfold rCall; split <;> rfl
        omega
      · split
        · show rowsCnt [] + rowsCnt [] + frCnt (t :: r) ≤ _
          rw [rowsCnt]; omega
        · split
          · exact rClose_cnt block names (t :: r)
          · omega
theorem rFrames_cnt (block many : Int) (names : List Str) (cells : List Int) : ∀ i, frCnt (rFrames block many names cells i) ≤ 3 * i
  | 0 => by rw [rFrames, frCnt, frCnt]; show rowsCnt [] + rowsCnt [] + 0 ≤ _; rw [rowsCnt]; omega
  | i + 1 => by
    rw [rFrames]
    have h1 := rFrames_cnt block many names cells i
    have h2 := rStep_cnt block many names (mixed (cells.getD i 0) i) (rFrames block many names cells i)
    omega
theorem rFinal_cnt (block : Int) (names : List Str) : ∀ (m : Nat) (fs : List RFr), rMeas fs ≤ m → frCnt (rFinal block names fs) ≤ frCnt fs + 3 * m
  | m, fs, hm => by
    by_cases h1 : 1 < fs.length
    · rw [rFinal_more h1]
      have h2 := rClose_meas block names h1
      have h3 := rClose_cnt block names fs
      match m, hm with
      | 0, hm => omega
      | m + 1, hm =>
        have := rFinal_cnt block names m (rClose block names fs) (by omega)
        omega
    · rw [rFinal_one h1]
      omega
theorem lawBlock_cnt (block many : Int) (names : List Str) (cells : List Int) (hl : cells.length ≤ 63) : rowsCnt (lawBlock block many names cells) ≤ 220 := by
  have hcs : ∀ n, block + 1 < many → (fun _ : Str => True) (rGoal block many n names) := fun _ _ => trivial
  obtain ⟨h1, h2⟩ := rFrames_ok (cs := fun _ => True) block many names cells hcs cells.length (by omega)
  obtain ⟨_, f, hf⟩ := rFinal_ok block names 8 _ _ (rMeas_le h1) (by omega) h1 h2
  have h3 := rFinal_cnt block names 8 _ (rMeas_le h1)
  have h4 := rFrames_cnt block many names cells cells.length
  unfold lawBlock
  rw [hf] at h3 ⊢
  have h5 : rowsCnt f.a + rowsCnt f.b + 0 ≤ _ := h3
  show rowsCnt f.a ≤ 220
  omega
theorem lawLast_cnt (names : List Str) (way many : Int) : (lawLast names way many).cnt ≤ 2 := by
  have h0 : (lawLast0 names way many).cnt = 1 := by unfold lawLast0; split <;> rfl
  unfold lawLast
  split
  · split
    · rw [Row.cnt, show rowsCnt [lawLast0 names way many] = 1 + 0 by rw [rowsCnt, h0, rowsCnt]]
      have : rowsCnt [] = 0 := by rw [rowsCnt]
      omega
    · rw [Row.cnt, show rowsCnt [lawLast0 names way many] = 1 + 0 by rw [rowsCnt, h0, rowsCnt]]
      have : rowsCnt [] = 0 := by rw [rowsCnt]
      omega
  · omega
theorem addLast_cnt (r : Row) : ∀ pr : Prog, (∀ b ∈ pr, rowsCnt b.2 ≤ 220) → r.cnt ≤ 2 → ∀ b ∈ addLast r pr, rowsCnt b.2 ≤ 230
  | [], _, _, b, hb => by cases hb
  | [a], h, hr, b, hb => by
    have hb : b ∈ [(a.1, a.2 ++ [r])] := hb
    rw [List.mem_singleton] at hb
    subst hb
    have := h a List.mem_cons_self
    show rowsCnt (a.2 ++ [r]) ≤ 230
    rw [rowsCnt_app, rowsCnt, rowsCnt]
    omega
  | a :: a2 :: pr, h, hr, b, hb => by
    have hb : b ∈ a :: addLast r (a2 :: pr) := hb
    rcases List.mem_cons.mp hb with rfl | hb
    · have := h b List.mem_cons_self; omega
    · exact addLast_cnt r (a2 :: pr) (fun q hq => h q (List.mem_cons_of_mem _ hq)) hr b hb
theorem lawProg_cnt (cells : List Int) (names : List Str) (way : Int) (hl : cells.length ≤ 63) : ∀ b ∈ lawProg cells names way, rowsCnt b.2 ≤ 230 := by
  obtain ⟨m1, m2⟩ := lawMany_ok way
  have h0 : ∀ b ∈ lawProg0 cells names (lawMany way), rowsCnt b.2 ≤ 220 := fun b hb => by
    unfold lawProg0 at hb
    rw [List.mem_map] at hb
    obtain ⟨j, _, rfl⟩ := hb
    refine lawBlock_cnt _ _ _ _ ?_
    have := stepL_len cells (i := (j : Nat)) (j := lawMany way) (by omega) (by omega)
    omega
  unfold lawProg
  split
  · exact addLast_cnt _ _ h0 (lawLast_cnt _ _ _)
  · exact fun b hb => by have := h0 b hb; omega
end DL

set_option Elab.async false
set_option linter.all false
set_option maxRecDepth 100000
set_option maxHeartbeats 4000000
namespace DL
open PySem L2
def Row.word : Row → Str
  | .put .. => "put" | .swap .. => "swap" | .push .. => "push" | .pull .. => "pull" | .iff .. => "if" | .round .. => "round" | .call .. => "call" | .undo .. => "undo"
def Row.rest : Row → List D
  | .put x s m => [.str x, .str (pmS s), m.d]
  | .swap x y => [.str x, .str y]
  | .push x => [.str x]
  | .pull x => [.str x]
  | .iff q1 a b q2 => [q1.d, .lst (rowsD a), .lst (rowsD b), q2.d]
  | .round q1 a b q2 => [q1.d, .lst (rowsD a), .lst (rowsD b), q2.d]
  | .call x => [.str x]
  | .undo x => [.str x]
def Row.sizeN : Row → Nat
  | .put .. => 4 | .swap .. => 3 | .push .. => 2 | .pull .. => 2 | .iff .. => 5 | .round .. => 5 | .call .. => 2 | .undo .. => 2
theorem row_wd (r : Row) : r.d = .tup (.str r.word :: r.rest) := by cases r <;> (rw [Row.d]; rfl)
theorem row_ln (r : Row) : (D.str r.word :: r.rest).length = r.sizeN := by cases r <;> rfl
theorem flat_strs' (xs : List Str) : (xs.map D.str).all D.flat = true := by
  rw [List.all_map, List.all_eq_true]
  exact fun _ _ => rfl
theorem eq_free {x : Str} {t : Th} (h : t.free x) : eqF t.d (.str x) = false := by
  cases t with
  | num i => rfl
  | box y => exact beq_eq_false_iff_ne.mpr h
def sgns : List Str := ["+", "-", "*", "<", "=", ">=", "!="]
def askns : List Str := ["<", "=", ">=", "!="]
theorem ask_in (s : Ak) : s.str ∈ askns := by cases s <;> decide +kernel
theorem sg_in (s : Sg) : s.str ∈ sgns := by
  cases s with
  | ask a => cases a <;> decide +kernel
  | _ => decide +kernel
theorem small_str {z : Str} (h : isNameS z = true) : smallD (.str z) := by
  show z.length ≤ 100000
  unfold isNameS at h
  rw [Bool.and_eq_true, Bool.and_eq_true, Bool.and_eq_true] at h
  have := of_decide_eq_true h.1.1.2
  omega
def headD : D → D
  | .tup (x :: _) => x
  | _ => .non
section
variable {c : Cc} {η : Nm} {ρ : Rho} {a b e o : Expr} {pos p p2 q : Pos} {d : D}
theorem ed_lenSet {ns : List Str} (hm : c.mg "len" = none) (hm2 : c.mg "set" = none) (hnd : ns.Nodup) (hl : ns.length < 1000) (ha : ED c η a ρ (.lst (ns.map .str))) (hg : glB η.sc "len" = true := by decide +kernel) (hg2 : glB η.sc "set" = true := by decide +kernel)
    (he : isStar a = false := by rfl) : ED c η (.Call (.Name "len" p) [.Call (.Name "set" p2) [a] [] q] [] pos) ρ (.int (ns.length : Nat)) := ⟨fun F0 H0 σ F H S Q k =>
  WE.of (t := tLenSetN c.K (WE c η a)) (fun X hX => by rw [← hX.K]; exact pe_lenSetN hX.calm (gl_of hX hg) (by rw [hX.mg]; exact hm) (gl_of hX hg2) (by rw [hX.mg]; exact hm2) (WE.pe hX) (star_cons he X.env)) (ha.run F0 H0 σ F H S _ fun v F1 H1 g1 r1 => by
    cases r1 with
    | lst hf r =>
      have e := RepL.strs_inv r
      subst e
      exact ⟨_, ns, rfl, SqL.of (g1.fh _ _ hf), hnd, hl, k _ F1 H1 g1 (.int _)⟩)⟩
end
end DL

set_option Elab.async false
set_option linter.all false
set_option maxRecDepth 100000
set_option maxHeartbeats 4000000
namespace DL
open PySem L2
mutual
/-- data of any kind, no text or list too long -/
def D.fine : D → Prop
  | .ty _ => False
  | .ref _ => False
  | .ins _ _ _ _ => False
  | .exc _ _ _ => False
  | .scr _ => False
  | .str z => z.length ≤ 100000
  | .tup xs => xs.length ≤ 80000 ∧ D.fines xs
  | .lst xs => xs.length ≤ 80000 ∧ D.fines xs
  | _ => True
def D.fines : List D → Prop
  | [] => True
  | d :: ds => d.fine ∧ D.fines ds
end
theorem fine_small {d : D} (h : d.fine) : smallD d := by
  cases d <;> first | exact trivial | exact h | exact h.elim
theorem fines_at : ∀ {ds : List D} {i : Nat} {d : D}, D.fines ds → ds[i]? = some d → d.fine
  | [], _, _, _, e => by simp at e
  | x :: ds, 0, d, h, e => by
    rw [D.fines] at h
    simp at e
    exact e ▸ h.1
  | x :: ds, i + 1, d, h, e => by
    rw [D.fines] at h
    exact fines_at h.2 (by simpa using e)
theorem fines_cons {d : D} {ds : List D} (h : d.fine) (t : D.fines ds) : D.fines (d :: ds) := by rw [D.fines]; exact ⟨h, t⟩
theorem fines_nil : D.fines [] := by rw [D.fines]; trivial
theorem fines_app : ∀ {a b : List D}, D.fines a → D.fines b → D.fines (a ++ b)
  | [], _, _, h => h
  | x :: a, b, h, g => by
    rw [D.fines] at h
    exact fines_cons h.1 (fines_app h.2 g)
def isTupB : D → Bool
  | .tup _ => true
  | _ => false
def isLstB : D → Bool
  | .lst _ => true
  | _ => false
def isStrB : D → Bool
  | .str _ => true
  | _ => false
theorem kit_tupB {d : D} (h : smallD d) : kitB d.tyn "tuple" = some (isTupB d) := by
  cases d <;> first | (exact False.elim h) | exact kit_NoneType_tuple | exact kit_bool_tuple | exact kit_int_tuple | exact kit_str_tuple | exact kit_tuple_tuple | exact kit_list_tuple | exact kit_dict_tuple
theorem kit_lstB {d : D} (h : smallD d) (hs : d.fine) : kitB d.tyn "list" = some (isLstB d) := by
  cases d <;> first | (exact False.elim h) | (exact False.elim hs) | exact kit_NoneType_list | exact kit_bool_list | exact kit_int_list | exact kit_str_list | exact kit_tuple_list | exact kit_list_list | exact kit_dict_list
theorem kit_strB {d : D} (h : smallD d) : kitB d.tyn "str" = some (isStrB d) := by
  cases d <;> first | (exact False.elim h) | exact kit_NoneType_str | exact kit_bool_str | exact kit_int_str | exact kit_str_str | exact kit_tuple_str | exact kit_list_str | exact kit_dict_str
def sizeW (w : Str) : Nat := if w = "if" ∨ w = "round" then 5 else if w = "put" then 4 else if w = "swap" then 3 else if w = "push" ∨ w = "pull" ∨ w = "call" ∨ w = "undo" then 2 else 0
def formOf : D → Option (Str × List D)
  | .tup (.str w :: rest) => if sizeW w = rest.length + 1 then some (w, rest) else none
  | _ => none
def ckThing : D → Option Str
  | .str z => if isNameS z = true then none else some "BadName"
  | d => if isNumD d = true then none else some "BadNumber"
def andX (a b : Option Str) : Option Str := match a with
  | some x => some x
  | none => b
def ckSigned (signs : List Str) : D → Option Str
  | .tup [.str s, a, b] => if s ∈ signs then andX (ckThing a) (ckThing b) else some "BadRow"
  | _ => some "BadRow"
def isPm : D → Bool
  | .str s => decide (s ∈ (["+", "-"] : List Str))
  | _ => false
def ckSum : D → Option Str
  | .tup [t] => ckThing t
  | m => ckSigned sgns m
def thingsOf : D → List D
  | .tup [t] => [t]
  | .tup (_ :: r) => r
  | _ => []
def ckPut (x s m : D) : Option Str := if isNameD x = false then some "BadName" else if isPm s = false then some "BadRow" else andX (ckSum m) (if inD x (thingsOf m) = true then some "OwnBox" else none)
def ckAsk (q1 a b q2 : D) : Option Str := andX (ckSigned askns q1) (if (isLstB a && isLstB b) = true then ckSigned askns q2 else some "BadRow")
def ckNames (xs : List D) : Option Str := if xs.all isNameD = true then none else some "BadName"
def ckGoal (ns : List Str) : D → Option Str
  | .str z => if z ∈ ns then none else some "BadName"
  | _ => some "BadName"
def ckLeaf (ns : List Str) (w : Str) (rest : List D) : Option Str :=
  if w = "put" then (match rest with | [x, s, m] => ckPut x s m | _ => none) else if w = "call" ∨ w = "undo" then (match rest with | [g] => ckGoal ns g | _ => none) else ckNames rest
inductive Ck where
  | ok (n : Nat) | bad (x : Str) (pl : List D)
def ckL (f : D → List D → Ck) (pl : List D) : Nat → List D → Ck
  | _, [] => .ok 0
  | i, r :: rs => match f r (pl ++ [.int (i : Nat)]) with
    | .bad x q => .bad x q
    | .ok k => match ckL f pl (i + 1) rs with
      | .bad x q => .bad x q
      | .ok m => .ok (k + m)
def lstOf : D → List D
  | .lst xs => xs
  | _ => []
def ckRow (ns : List Str) : Nat → D → List D → Ck
  | 0, r, pl => match formOf r with
    | none => .bad "BadRow" pl
    | some _ => .bad "TooDeep" pl
  | n + 1, r, pl => match formOf r with
    | none => .bad "BadRow" pl
    | some (w, rest) => if w = "if" ∨ w = "round" then (match rest with
        | [q1, a, b, q2] => match ckAsk q1 a b q2 with
          | some x => .bad x pl
          | none => match ckL (ckRow ns n) (pl ++ [.int 0]) 0 (lstOf a) with
            | .bad x q => .bad x q
            | .ok k => match ckL (ckRow ns n) (pl ++ [.int 1]) 0 (lstOf b) with
              | .bad x q => .bad x q
              | .ok m => .ok (1 + k + m)
        | _ => .ok 0) else match ckLeaf ns w rest with
        | some x => .bad x pl
        | none => .ok 1
def ckBlocks (ns : List Str) : List (Str × List D) → Ck
  | [] => .ok 0
  | b :: bs => match ckL (ckRow ns 8) [.str b.1] 0 b.2 with
    | .bad x q => .bad x q
    | .ok k => match ckBlocks ns bs with
      | .bad x q => .bad x q
      | .ok m => .ok (k + m)
def blksD (bs : List (Str × List D)) : List D := bs.map fun b => .tup [.str b.1, .lst b.2]
def Ck.xr : Ck → Xr
  | .ok n => .ok (.int (n : Nat))
  | .bad x q => .xc x (.tup q)
def xrOf (pl : D) : Option Str → Xr
  | none => .ok .non
  | some x => .xc x pl
theorem ckL_ok {f : D → List D → Ck} {pl : List D} : ∀ {rs : List D} {i n : Nat}, ckL f pl i rs = .ok n → ∃ ks : List Nat, ks.length = rs.length ∧ n = ks.sum ∧ ∀ j r, rs[j]? = some r → ∃ k, ks[j]? = some k ∧ f r (pl ++ [.int ((i + j : Nat) : Int)]) = .ok k
  | [], i, n, h => by
    rw [ckL] at h
    cases h
    exact ⟨[], rfl, rfl, fun j r e => by simp at e⟩
  | r :: rs, i, n, h => by
    rw [ckL] at h
    cases e1 : f r (pl ++ [.int (i : Nat)]) with
    | bad x q => rw [e1] at h; cases h
    | ok k =>
      rw [e1] at h
      cases e2 : ckL f pl (i + 1) rs with
      | bad x q => rw [e2] at h; cases h
      | ok m =>
        rw [e2] at h
        cases h
        obtain ⟨ks, h1, h2, h3⟩ := ckL_ok e2
        refine ⟨k :: ks, by simp [h1], by simp [h2], fun j r' e => ?_⟩
        cases j with
        | zero =>
          simp at e
          subst e
          exact ⟨k, rfl, e1⟩
        | succ j =>
          obtain ⟨k', e3, e4⟩ := h3 j r' (by simpa using e)
          exact ⟨k', by simpa using e3, by rw [show i + (j + 1) = i + 1 + j by omega]; exact e4⟩
theorem ckL_bad {f : D → List D → Ck} {pl : List D} {x : Str} {q : List D} : ∀ {rs : List D} {i : Nat}, ckL f pl i rs = .bad x q → ∃ (n : Nat) (r : D), rs[n]? = some r ∧ f r (pl ++ [.int ((i + n : Nat) : Int)]) = .bad x q ∧ ∃ ks : List Nat, ks.length = n ∧ ∀ j r', j < n → rs[j]? = some r' → ∃ k, ks[j]? = some k ∧ f r' (pl ++ [.int ((i + j : Nat) : Int)]) = .ok k
  | [], i, h => by rw [ckL] at h; cases h
  | r :: rs, i, h => by
    rw [ckL] at h
    cases e1 : f r (pl ++ [.int (i : Nat)]) with
    | bad x q =>
      rw [e1] at h
      cases h
      exact ⟨0, r, rfl, e1, [], rfl, fun j r' hj => absurd hj (Nat.not_lt_zero _)⟩
    | ok k =>
      rw [e1] at h
      cases e2 : ckL f pl (i + 1) rs with
      | ok m => rw [e2] at h; cases h
      | bad x q =>
        rw [e2] at h
        cases h
        obtain ⟨n, r1, h1, h2, ks, h3, h4⟩ := ckL_bad e2
        refine ⟨n + 1, r1, by simpa using h1, by rw [show i + (n + 1) = i + 1 + n by omega]; exact h2, k :: ks, by simp [h3], fun j r' hj e => ?_⟩
        cases j with
        | zero =>
          simp at e
          subst e
          exact ⟨k, rfl, e1⟩
        | succ j =>
          obtain ⟨k', e3, e4⟩ := h4 j r' (by omega) (by simpa using e)
          exact ⟨k', by simpa using e3, by rw [show i + (j + 1) = i + 1 + j by omega]; exact e4⟩
theorem sum_take_succ {ks : List Nat} {i k : Nat} (h : ks[i]? = some k) : (ks.take (i + 1)).sum = (ks.take i).sum + k := by
  rw [List.take_add_one, h]
  simp
theorem formOf_some {r : D} {w : Str} {rest : List D} (h : formOf r = some (w, rest)) : r = .tup (.str w :: rest) ∧ sizeW w = rest.length + 1 := by
  unfold formOf at h
  split at h
  · split at h
    · rename_i h2
      cases h
      exact ⟨rfl, h2⟩
    · cases h
  · cases h
theorem formOf_yes {w : Str} {rest : List D} (h : sizeW w = rest.length + 1) : formOf (.tup (.str w :: rest)) = some (w, rest) := by
  show (if sizeW w = rest.length + 1 then some (w, rest) else none) = _
  rw [if_pos h]
theorem formOf_no {w : Str} {rest : List D} (h : ¬ sizeW w = rest.length + 1) : formOf (.tup (.str w :: rest)) = none := by
  show (if sizeW w = rest.length + 1 then some (w, rest) else none) = _
  rw [if_neg h]
theorem formOf_nstr {x : D} {rest : List D} (h : isStrB x = false) : formOf (.tup (x :: rest)) = none := by cases x <;> first | rfl | cases h
theorem formOf_ntup {d : D} (h : isTupB d = false) : formOf d = none := by cases d <;> first | rfl | cases h
theorem ckThing_yes {z : Str} (h : isNameS z = true) : ckThing (.str z) = none := by
  show (if isNameS z = true then none else some ("BadName" : Str)) = none
  rw [if_pos h]
theorem ckThing_no {z : Str} (h : isNameS z = false) : ckThing (.str z) = some "BadName" := by
  show (if isNameS z = true then none else some ("BadName" : Str)) = _
  rw [if_neg (by rw [h]; decide)]
  rfl
theorem ckThing_num {d : D} (h : isStrB d = false) : ckThing d = if isNumD d = true then none else some ("BadNumber" : Str) := by cases d <;> first | rfl | cases h
theorem ckSigned_in {signs : List Str} {s : Str} {a b : D} (h : s ∈ signs) : ckSigned signs (.tup [.str s, a, b]) = andX (ckThing a) (ckThing b) := by
  show (if s ∈ signs then andX (ckThing a) (ckThing b) else some ("BadRow" : Str)) = _
  rw [if_pos h]
theorem ckSigned_out {signs : List Str} {s : Str} {a b : D} (h : ¬ s ∈ signs) : ckSigned signs (.tup [.str s, a, b]) = some "BadRow" := by
  show (if s ∈ signs then andX (ckThing a) (ckThing b) else some ("BadRow" : Str)) = _
  rw [if_neg h]
  rfl
theorem ckSigned_ntup {signs : List Str} {d : D} (h : isTupB d = false) : ckSigned signs d = some "BadRow" := by cases d <;> first | rfl | cases h
theorem ckSigned_nlen {signs : List Str} {xs : List D} (h : xs.length ≠ 3) : ckSigned signs (.tup xs) = some "BadRow" := by
  match xs, h with
  | [], _ => rfl
  | [x], _ => cases x <;> rfl
  | [x, _], _ => cases x <;> rfl
  | [x, _, _], h => exact absurd rfl h
  | x :: _ :: _ :: _ :: _, _ => cases x <;> rfl
theorem ckSigned_nstr {signs : List Str} {x a b : D} (h : isStrB x = false) : ckSigned signs (.tup [x, a, b]) = some "BadRow" := by cases x <;> first | rfl | cases h
theorem isPm_str {d : D} (h : isStrB d = false) : isPm d = false := by cases d <;> first | rfl | cases h
theorem ckSum_one {t : D} : ckSum (.tup [t]) = ckThing t := rfl
theorem ckSum_nlen {xs : List D} (h : xs.length ≠ 1) : ckSum (.tup xs) = ckSigned sgns (.tup xs) := by
  match xs, h with
  | [], _ => rfl
  | [_], h => exact absurd rfl h
  | _ :: _ :: _, _ => rfl
theorem ckSum_ntup {d : D} (h : isTupB d = false) : ckSum d = ckSigned sgns d := by cases d <;> first | rfl | cases h
theorem ckThing_flat {t : D} (h : ckThing t = none) : t.flat = true := by
  cases t with
  | str z => rfl
  | int i => rfl
  | bl b => cases h
  | _ => cases h
theorem andX_none {a b : Option Str} (h : andX a b = none) : a = none ∧ b = none := by
  cases a with
  | none => exact ⟨rfl, h⟩
  | some x => cases h
theorem ckSigned_three {signs : List Str} {d : D} (h : ckSigned signs d = none) : ∃ s a b, d = .tup [.str s, a, b] ∧ ckThing a = none ∧ ckThing b = none := by
  by_cases ht : isTupB d = true
  · cases d with
    | tup xs =>
      by_cases hl : xs.length = 3
      · match xs, hl with
        | [x, a, b], _ =>
          by_cases hs : isStrB x = true
          · cases x with
            | str s =>
              by_cases hin : s ∈ signs
              · rw [ckSigned_in hin] at h
                exact ⟨s, a, b, rfl, (andX_none h).1, (andX_none h).2⟩
              · rw [ckSigned_out hin] at h
                cases h
            | _ => cases hs
          · rw [ckSigned_nstr (by simpa using hs)] at h
            cases h
      · rw [ckSigned_nlen hl] at h
        cases h
    | _ => cases ht
  · rw [ckSigned_ntup (by simpa using ht)] at h
    cases h
theorem nameD_str {d : D} (h : isNameD d = true) : ∃ z, d = .str z ∧ isNameS z = true := by
  cases d with
  | str z => exact ⟨z, rfl, h⟩
  | _ => cases h
theorem ckBlocks_ok {ns : List Str} : ∀ {bs : List (Str × List D)} {n : Nat}, ckBlocks ns bs = .ok n → ∃ ks : List Nat, ks.length = bs.length ∧ n = ks.sum ∧ ∀ (j : Nat) (b : Str × List D), bs[j]? = some b → ∃ k, ks[j]? = some k ∧ ckL (ckRow ns 8) [.str b.1] 0 b.2 = .ok k
  | [], n, h => by
    rw [ckBlocks] at h
    cases h
    exact ⟨[], rfl, rfl, fun j b e => by simp at e⟩
  | b :: bs, n, h => by
    rw [ckBlocks] at h
    cases e1 : ckL (ckRow ns 8) [.str b.1] 0 b.2 with
    | bad x q => rw [e1] at h; cases h
    | ok k =>
      rw [e1] at h
      cases e2 : ckBlocks ns bs with
      | bad x q => rw [e2] at h; cases h
      | ok m =>
        rw [e2] at h
        cases h
        obtain ⟨ks, h1, h2, h3⟩ := ckBlocks_ok e2
        refine ⟨k :: ks, by simp [h1], by simp [h2], fun j r' e => ?_⟩
        cases j with
        | zero => simp at e; subst e; exact ⟨k, rfl, e1⟩
        | succ j => exact h3 j r' (by simpa using e)
theorem ckBlocks_bad {ns : List Str} {x : Str} {q : List D} : ∀ {bs : List (Str × List D)}, ckBlocks ns bs = .bad x q → ∃ (n : Nat) (b : Str × List D), bs[n]? = some b ∧ ckL (ckRow ns 8) [.str b.1] 0 b.2 = .bad x q ∧ ∃ ks : List Nat, ks.length = n ∧ ∀ (j : Nat) (b' : Str × List D), j < n → bs[j]? = some b' → ∃ k, ks[j]? = some k ∧ ckL (ckRow ns 8) [.str b'.1] 0 b'.2 = .ok k
  | [], h => by rw [ckBlocks] at h; cases h
  | b :: bs, h => by
    rw [ckBlocks] at h
    cases e1 : ckL (ckRow ns 8) [.str b.1] 0 b.2 with
    | bad x q =>
      rw [e1] at h
      cases h
      exact ⟨0, b, rfl, e1, [], rfl, fun j r' hj => absurd hj (Nat.not_lt_zero _)⟩
    | ok k =>
      rw [e1] at h
      cases e2 : ckBlocks ns bs with
      | ok m => rw [e2] at h; cases h
      | bad x q =>
        rw [e2] at h
        cases h
        obtain ⟨n, r1, h1, h2, ks, h3, h4⟩ := ckBlocks_bad e2
        refine ⟨n + 1, r1, by simpa using h1, h2, k :: ks, by simp [h3], fun j r' hj e => ?_⟩
        cases j with
        | zero => simp at e; subst e; exact ⟨k, rfl, e1⟩
        | succ j => exact h4 j r' (by omega) (by simpa using e)
theorem blks_at {bs : List (Str × List D)} {i : Nat} {d : D} (h : (blksD bs)[i]? = some d) : ∃ b, bs[i]? = some b ∧ d = .tup [.str b.1, .lst b.2] := by
  unfold blksD at h
  rw [List.getElem?_map] at h
  cases e : bs[i]? with
  | none => rw [e] at h; cases h
  | some b => rw [e] at h; exact ⟨b, rfl, (Option.some.inj h).symm⟩
theorem ckRow_form {ns : List Str} {n : Nat} {r : D} {pl : List D} (h : formOf r = none) : ckRow ns n r pl = .bad "BadRow" pl := by cases n <;> (rw [ckRow, h])
theorem ckRow_deep {ns : List Str} {r : D} {pl : List D} {wr : Str × List D} (h : formOf r = some wr) : ckRow ns 0 r pl = .bad "TooDeep" pl := by rw [ckRow, h]
theorem ckRow_both {ns : List Str} {m : Nat} {r : D} {pl : List D} {w : Str} {q1 a b q2 : D} (h : formOf r = some (w, [q1, a, b, q2])) (hw : w = "if" ∨ w = "round") : ckRow ns (m + 1) r pl = (match ckAsk q1 a b q2 with
      | some x => .bad x pl
      | none => match ckL (ckRow ns m) (pl ++ [.int 0]) 0 (lstOf a) with
        | .bad x q => .bad x q
        | .ok k => match ckL (ckRow ns m) (pl ++ [.int 1]) 0 (lstOf b) with
          | .bad x q => .bad x q
          | .ok j => .ok (1 + k + j)) := by
  rw [ckRow, h]
  show (if w = "if" ∨ w = "round" then _ else _) = _
  rw [if_pos hw]
theorem ckRow_leaf {ns : List Str} {m : Nat} {r : D} {pl : List D} {w : Str} {rest : List D} (h : formOf r = some (w, rest)) (hw : ¬ (w = "if" ∨ w = "round")) : ckRow ns (m + 1) r pl = (match ckLeaf ns w rest with
      | some x => .bad x pl
      | none => .ok 1) := by
  rw [ckRow, h]
  show (if w = "if" ∨ w = "round" then _ else _) = _
  rw [if_neg hw]
theorem first_not {f : D → Bool} : ∀ {xs : List D}, xs.all f = false → ∃ (i : Nat) (d : D), xs[i]? = some d ∧ f d = false ∧ ∀ (j : Nat) (d' : D), j < i → xs[j]? = some d' → f d' = true
  | [], h => by cases h
  | x :: xs, h => by
    cases e : f x with
    | false => exact ⟨0, x, rfl, e, fun j d' hj => absurd hj (Nat.not_lt_zero _)⟩
    | true =>
      rw [List.all_cons, e, Bool.true_and] at h
      obtain ⟨i, d, h1, h2, h3⟩ := first_not h
      refine ⟨i + 1, d, by simpa using h1, h2, fun j d' hj hd => ?_⟩
      cases j with
      | zero => simp at hd; subst hd; exact e
      | succ j => exact h3 j d' (by omega) (by simpa using hd)
def R_szof (ds : List D) (d : D) : Prop := ∃ w : Str, ds = [.str w] ∧ d = .int (sizeW w : Nat)
def R_xform (ds : List D) (r : Xr) : Prop := ∃ row pl, ds = [row, pl] ∧ row.fine ∧ r = xrOf pl (if (formOf row).isSome = true then none else some ("BadRow" : Str))
def R_xname (ds : List D) (r : Xr) : Prop := ∃ z pl, ds = [z, pl] ∧ z.fine ∧ r = xrOf pl (if isNameD z = true then none else some ("BadName" : Str))
def R_xthing (ds : List D) (r : Xr) : Prop := ∃ t pl, ds = [t, pl] ∧ t.fine ∧ r = xrOf pl (ckThing t)
def R_xsigned (ds : List D) (r : Xr) : Prop := ∃ (m : D) (signs : List Str) (pl : D), ds = [m, .tup (signs.map .str), pl] ∧ m.fine ∧ r = xrOf pl (ckSigned signs m)
def R_xput (ds : List D) (r : Xr) : Prop := ∃ w x s m pl, ds = [.tup [w, x, s, m], pl] ∧ x.fine ∧ s.fine ∧ m.fine ∧ r = xrOf pl (ckPut x s m)
def R_xask (ds : List D) (r : Xr) : Prop := ∃ w q1 a b q2 pl, ds = [.tup [w, q1, a, b, q2], pl] ∧ q1.fine ∧ a.fine ∧ b.fine ∧ q2.fine ∧ r = xrOf pl (ckAsk q1 a b q2)
def R_xrow (n : Nat) (ds : List D) (r : Xr) : Prop := ∃ (row : D) (pl : List D) (ns : List Str), ds = [row, .tup pl, .int ((9 - n : Nat) : Int), .lst (ns.map .str)] ∧ n ≤ 8 ∧ row.fine ∧ pl.length + 2 * n ≤ 1000 ∧ r = (ckRow ns n row pl).xr
def R_xrows (n : Nat) (ds : List D) (r : Xr) : Prop := ∃ (rows : List D) (pl : List D) (ns : List Str), ds = [.lst rows, .tup pl, .int ((9 - n : Nat) : Int), .lst (ns.map .str)] ∧ n ≤ 8 ∧ rows.length ≤ 80000 ∧ D.fines rows ∧ pl.length + 2 * n + 1 ≤ 1000 ∧ r = (ckL (ckRow ns n) pl 0 rows).xr
structure CkBs (bs : List (Str × List D)) : Prop where
  l1 : 1 ≤ bs.length
  l2 : bs.length ≤ 12
  nm : ∀ b ∈ bs, isNameS b.1 = true
  nd : (bs.map (·.1)).Nodup
  ok : ∀ b ∈ bs, b.2.length ≤ 80000 ∧ D.fines b.2
end DL

set_option Elab.async false
set_option linter.all false
set_option maxRecDepth 100000
set_option maxHeartbeats 4000000
namespace DL
open PySem L2
def thT : Th → Str
  | .box x => x
  | .num i => Str.ofString (toString i)
def smT : Sm → Str
  | .one a => thT a
  | .op g a b => (((thT a ++ " ") ++ g.str) ++ " ") ++ thT b
def qnT (q : Qn) : Str := (((thT q.a ++ " ") ++ q.s.str) ++ " ") ++ thT q.b
end DL

set_option Elab.async false
set_option linter.all false
set_option maxRecDepth 100000
set_option maxHeartbeats 4000000
namespace DL
open PySem L2
mutual
def Row.wd : Row → Prop
  | .put x _ m => isNameS x = true ∧ m.chk
  | .swap x y => isNameS x = true ∧ isNameS y = true
  | .push x => isNameS x = true
  | .pull x => isNameS x = true
  | .iff q1 a b q2 => (q1.chk ∧ q2.chk) ∧ rowsWd a ∧ rowsWd b
  | .round q1 a b q2 => (q1.chk ∧ q2.chk) ∧ rowsWd a ∧ rowsWd b
  | .call x => isNameS x = true
  | .undo x => isNameS x = true
def rowsWd : List Row → Prop
  | [] => True
  | r :: rs => r.wd ∧ rowsWd rs
end
theorem rowsWd_app : ∀ {a b : List Row}, rowsWd a → rowsWd b → rowsWd (a ++ b)
  | [], _, _, h => h
  | r :: a, b, h, g => by
    rw [rowsWd] at h
    rw [List.cons_append, rowsWd]
    exact ⟨h.1, rowsWd_app h.2 g⟩
theorem rowsWd_mem : ∀ {rs : List Row} {r : Row}, rowsWd rs → r ∈ rs → r.wd
  | q :: rs, r, h, hm => by
    rw [rowsWd] at h
    rcases List.mem_cons.mp hm with rfl | hm
    · exact h.1
    · exact rowsWd_mem h.2 hm
theorem rowsWd_one {r : Row} (h : r.wd) : rowsWd [r] := by rw [rowsWd, rowsWd]; exact ⟨h, trivial⟩
theorem rowsWd_nil : rowsWd [] := by rw [rowsWd]; trivial
section
variable {c : Cc} {η : Nm} {ρ : Rho} {e : Expr} {pos p : Pos}
end
end DL

set_option Elab.async false
set_option linter.all false
set_option maxRecDepth 100000
set_option maxHeartbeats 4000000
namespace DL
open PySem L2
section
variable {c : Cc} {η : Nm} {ρ : Rho} {e o a b : Expr} {pos p apos : Pos}
end
end DL
namespace DL
open PySem L2
end DL

set_option Elab.async false
set_option linter.all false
set_option maxRecDepth 100000
set_option maxHeartbeats 4000000
namespace DL
open PySem L2
inductive Ln where
  | blk (x : Str) | leaf (r : Row) | opn (w : Bool) (q : Qn) | mid (w : Bool) | cls (w : Bool) (q : Qn)
def midS (w : Bool) : Str := if w then "loop" else "else"
def wordS (w : Bool) : Str := if w then "round" else "if"
def leafT : Row → Str
  | .put x s m => (((x ++ " ") ++ pmS s) ++ "= ") ++ smT m
  | .swap x y => (x ++ " <> ") ++ y
  | .push x => ("push" ++ " ") ++ x
  | .pull x => ("pull" ++ " ") ++ x
  | .call x => ("call" ++ " ") ++ x
  | .undo x => ("undo" ++ " ") ++ x
  | _ => ""
def Ln.text : Ln → Str
  | .blk x => "block " ++ x
  | .leaf r => leafT r
  | .opn w q => (if w then "from " else "if ") ++ qnT q
  | .mid w => midS w
  | .cls w q => (if w then "until " else "fi ") ++ qnT q
structure Top where
  w : Bool
  q : Qn
  a : List Row
  b : List Row
  s : Bool
def Top.add (t : Top) (r : Row) : Top := if t.s then { t with b := t.b ++ [r] } else { t with a := t.a ++ [r] }
def Top.row (t : Top) (q : Qn) : Row := if t.w then .round t.q t.a t.b q else .iff t.q t.a t.b q
structure RdSt where
  P : Prog
  tops : List Top
def RdSt.take (st : RdSt) (r : Row) : RdSt := match st.tops with
  | [] => ⟨addLast r st.P, []⟩
  | t :: ts => ⟨st.P, t.add r :: ts⟩
def RdSt.step (st : RdSt) : Ln → RdSt
  | .blk x => ⟨st.P ++ [(x, [])], st.tops⟩
  | .leaf r => st.take r
  | .opn w q => ⟨st.P, ⟨w, q, [], [], false⟩ :: st.tops⟩
  | .mid _ => match st.tops with
    | t :: ts => ⟨st.P, { t with s := true } :: ts⟩
    | [] => st
  | .cls _ q => match st.tops with
    | t :: ts => (⟨st.P, ts⟩ : RdSt).take (t.row q)
    | [] => st
def Ln.ok (st : RdSt) : Ln → Prop
  | .blk x => isNameS x = true ∧ st.tops = []
  | .leaf r => (r.asks = false ∧ r.wd) ∧ st.P ≠ []
  | .opn _ q => q.chk ∧ st.P ≠ []
  | .mid w => st.P ≠ [] ∧ ∃ t ts, st.tops = t :: ts ∧ t.w = w ∧ t.s = false
  | .cls w q => (q.chk ∧ st.P ≠ []) ∧ ∃ t ts, st.tops = t :: ts ∧ t.w = w ∧ t.s = true
def run (st : RdSt) (l : List Ln) : RdSt := l.foldl RdSt.step st
end DL

set_option Elab.async false
set_option linter.all false
set_option maxRecDepth 100000
set_option maxHeartbeats 4000000
namespace DL
open PySem L2
def rdN : List Str := ["program", "tops"]
def sideI (s : Bool) : Int := if s then 1 else 0
structure TopA where
  f : Addr
  s : Addr
  a : Addr
  b : Addr
def topW (A : TopA) (t : Top) (la lb : List D) (wr : List (Addr × D)) : List (Addr × D) :=
  (A.f, .lst [.str (wordS t.w), t.q.d, .ref A.s, .int (sideI t.s)]) :: (A.s, .lst [.ref A.a, .ref A.b]) :: (A.a, .lst la) :: (A.b, .lst lb) :: wr
def TopOp (A : TopA) (t : Top) (w : List (Addr × D)) : Prop := ∃ la lb wa wb wr, RsOp' t.a la wa ∧ RsOp' t.b lb wb ∧ wr.Perm (wa ++ wb) ∧ w = topW A t la lb wr
inductive TopsOp : List Top → List TopA → List (Addr × D) → Prop
  | nil : TopsOp [] [] []
  | cons {A : TopA} {t : Top} {As : List TopA} {ts : List Top} {w1 w2 : List (Addr × D)} : TopOp A t w1 → TopsOp ts As w2 → TopsOp (t :: ts) (A :: As) (w1 ++ w2)
theorem TopsOp.len {ts : List Top} {As : List TopA} {w : List (Addr × D)} (h : TopsOp ts As w) : As.length = ts.length := by
  induction h with
  | nil => rfl
  | cons _ _ ih => rw [List.length_cons, List.length_cons, ih]
def topsD (As : List TopA) : List D := (As.map fun A => D.ref A.f).reverse
def rdW (x C dx p t : Addr) (dp : List D) (As : List TopA) (wr : List (Addr × D)) : List (Addr × D) :=
  (x, .ins C dx rdN [.ref p, .ref t]) :: (p, .lst dp) :: (t, .lst (topsD As)) :: wr
def RdOp (x C dx p t : Addr) (st : RdSt) (w : List (Addr × D)) : Prop := ∃ dp wp As wt wr, POp' st.P dp wp ∧ TopsOp st.tops As wt ∧ wr.Perm (wp ++ wt) ∧ w.Perm (rdW x C dx p t dp As wr)
theorem POp'.last {P : Prog} {dp : List D} {w : List (Addr × D)} (h : POp' P dp w) (hne : P ≠ []) : ∃ P0 nm rows d0 y ds w0 w1, P = P0 ++ [(nm, rows)] ∧ dp = d0 ++ [.tup [.str nm, .ref y]] ∧ POp' P0 d0 w0 ∧ RsOp' rows ds w1 ∧ w.Perm (w0 ++ ((y, .lst ds) :: w1)) := by
  obtain ⟨w', h', p'⟩ := h
  induction h' generalizing w with
  | nil => exact absurd rfl hne
  | @cons nm rows pr x ds dp wr wp hr hp ih =>
    cases pr with
    | nil =>
      cases hp with
      | nil => exact ⟨[], nm, rows, [], x, ds, [], wr, rfl, rfl, ⟨[], .nil, .nil⟩, ⟨wr, hr, .refl _⟩, by rw [List.nil_append]; rw [List.append_nil] at p'; exact p'⟩
    | cons b pr =>
      obtain ⟨P0, nm2, rows2, d0, y, ds2, w0, w1, e1, e2, h0, h1, hp2⟩ := ih (w := wp) (by nofun) (.refl _)
      obtain ⟨w0', h0', p0'⟩ := h0
      refine ⟨(nm, rows) :: P0, nm2, rows2, _ :: d0, y, ds2, ((x, .lst ds) :: wr) ++ w0, w1, by rw [e1]; rfl, by rw [e2]; rfl, ⟨_, .cons hr h0', p0'.append_left _⟩, h1, ?_⟩
      rw [List.append_assoc]
      exact p'.trans (hp2.append_left _)
end DL
namespace DL
open PySem L2
end DL

set_option Elab.async false
set_option linter.all false
set_option maxRecDepth 100000
set_option maxHeartbeats 4000000
namespace DL
open PySem L2
section
variable {c : Cc} {η : Nm} {ρ : Rho} {a b : Expr} {pos : Pos}
end
end DL
namespace DL
open PySem L2
end DL
namespace DL
open PySem L2
section
variable {c : Cc} {η : Nm} {ρ : Rho} {o e : Expr} {pos apos p : Pos} {ds : List D} {x : Addr}
end
end DL
namespace DL
open PySem L2
theorem RdOp.push {x C dx p t : Addr} {P : Prog} {tops : List Top} {dp : List D} {As : List TopA} {wp wt wr w : List (Addr × D)} (hP : POp' P dp wp) (hT : TopsOp tops As wt) (hr : wr.Perm (wp ++ wt)) (A : TopA) (wd : Bool) (q : Qn) (hw : w.Perm (topW A ⟨wd, q, [], [], false⟩ [] [] [] ++ rdW x C dx p t dp (A :: As) wr)) : RdOp x C dx p t ⟨P, ⟨wd, q, [], [], false⟩ :: tops⟩ w := by
  refine ⟨dp, wp, A :: As, topW A ⟨wd, q, [], [], false⟩ [] [] [] ++ wt, topW A ⟨wd, q, [], [], false⟩ [] [] [] ++ wr, hP, .cons ⟨[], [], [], [], [], RsOp'.nil, RsOp'.nil, List.Perm.refl _, rfl⟩ hT, ?_, hw.trans ?_⟩
  · refine (hr.append_left _).trans ?_
    rw [← List.append_assoc, ← List.append_assoc]
    exact List.perm_append_comm.append_right wt
  · unfold rdW
    refine List.Perm.trans (List.perm_append_comm) ?_
    simp only [List.cons_append]
    exact List.Perm.cons _ (List.Perm.cons _ (List.Perm.cons _ List.perm_append_comm))
end DL
namespace DL
open PySem L2
end DL
namespace DL
open PySem L2
end DL
namespace DL
open PySem L2
end DL

set_option Elab.async false
set_option linter.all false
set_option maxRecDepth 100000
set_option maxHeartbeats 4000000
namespace DL
open PySem L2
section
variable {c : Cc} {η : Nm} {ρ : Rho} {pos p : Pos}
end
end DL

set_option Elab.async false
set_option linter.all false
set_option maxRecDepth 100000
set_option maxHeartbeats 4000000
namespace DL
open PySem L2
theorem rCount_nm : ∀ b : Nat, b < 10 → ∀ l : Nat, l < 10 → isNameL (rCount (b : Int) (l : Int)).cps.toList = true := by decide +kernel
theorem rCount_ok {b l : Int} (hb : 0 ≤ b ∧ b < 10) (hl : 0 ≤ l ∧ l < 10) : isNameS (rCount b l) = true := by
  obtain ⟨k, rfl⟩ := Int.eq_ofNat_of_zero_le hb.1
  obtain ⟨j, rfl⟩ := Int.eq_ofNat_of_zero_le hl.1
  exact isNameS_of (rCount_nm k (by omega) j (by omega))
section
variable {names : List Str} (hn : ∀ z ∈ names, isNameS z = true) (h12 : names.length = 12)
include hn h12
theorem nmAt_nm12 {i : Int} (h0 : 0 ≤ i) (h : i < 12) : isNameS (nmAt names i) = true := hn _ (getD_mem (by omega))
theorem lawThing_chk (n : Int) (own : Str) : (lawThing n own names).chk := by
  refine ⟨?_, lawThing_ok n own names⟩
  unfold lawThing
  split
  · exact hn _ (getD_mem (by omega))
  · trivial
theorem lawSum_chk (n : Int) (own : Str) : (lawSum n own names).chk := by
  unfold lawSum
  split
  · exact lawThing_chk hn h12 _ _
  · exact ⟨lawThing_chk hn h12 _ _, lawThing_chk hn h12 _ _⟩
theorem lawQuestion_chk (n : Int) : (lawQuestion n names).chk := ⟨lawThing_chk hn h12 _ _, lawThing_chk hn h12 _ _⟩
theorem lawSimple_wd (n : Int) : rowsWd (lawSimple n names) := by
  have h6 := nmAt_nm12 hn h12 (i := 6) (by omega) (by omega)
  have h8 := nmAt_nm12 hn h12 (i := n / 8 % 5) (by omega) (by omega)
  have h4 := nmAt_nm12 hn h12 (i := n / 40 % 5) (by omega) (by omega)
  unfold lawSimple
  split
  · exact rowsWd_one (by rw [Row.wd]; exact ⟨h8, lawSum_chk hn h12 _ _⟩)
  · split
    · exact rowsWd_one (by rw [Row.wd]; exact ⟨h8, h4⟩)
    · split
      · exact rowsWd_one (by rw [Row.wd]; exact h8)
      · rw [rowsWd, rowsWd, rowsWd, rowsWd, Row.wd, Row.wd, Row.wd]
        exact ⟨h6, ⟨h8, h6, trivial⟩, h6, trivial⟩
def RWd (fs : List RFr) : Prop := fs.length ≤ 4 ∧ ∀ f ∈ fs, rowsWd f.a ∧ rowsWd f.b
omit hn h12 in
theorem RWd.app {t : RFr} {r : List RFr} {rs : List Row} (h : RWd (t :: r)) (hr : rowsWd rs) : RWd (t.app rs :: r) := ⟨h.1, fun f hf => by
  rcases List.mem_cons.mp hf with rfl | hf
  · obtain ⟨c, d⟩ := h.2 t List.mem_cons_self
    unfold Fr.app
    split
    · exact ⟨rowsWd_app c hr, d⟩
    · exact ⟨c, rowsWd_app d hr⟩
  · exact h.2 f (List.mem_cons_of_mem _ hf)⟩
theorem rQ0_chk (n : Int) : (rQ0 n names).chk := ⟨⟨nmAt_nm12 hn h12 (by omega) (by omega), trivial⟩, trivial, show 0 ≤ n / 2 % 4 ∧ n / 2 % 4 < 1000000 by omega⟩
theorem rQ_chk (n : Int) {q : Qn} (h : q.chk) : (rQ n names q).chk := by
  unfold rQ
  split
  · exact lawQuestion_chk hn h12 _
  · exact h
theorem rClosed_wd {f : RFr} {block level : Int} (hb : 0 ≤ block ∧ block < 10) (hl : 0 ≤ level ∧ level < 10) (h : rowsWd f.a ∧ rowsWd f.b) : rowsWd (rClosed f block level names) := by
  have hc := rCount_ok hb hl
  have ho : ∀ k : Int, 0 ≤ k → k < 1000000 → (Th.num k).chk := fun k h0 h1 => ⟨trivial, show 0 ≤ k ∧ k < 1000000 from ⟨h0, h1⟩⟩
  unfold rClosed
  split
  · exact rowsWd_one (by rw [Row.wd]; exact ⟨⟨rQ0_chk hn h12 _, rQ_chk hn h12 _ (rQ0_chk hn h12 _)⟩, h⟩)
  · rw [rowsWd, rowsWd, rowsWd, Row.wd, Row.wd]
    exact ⟨⟨⟨rQ_chk hn h12 _ ⟨⟨hc, trivial⟩, ho 0 (by omega) (by omega)⟩, ⟨hc, trivial⟩, ho _ (by omega) (by omega)⟩, h.1, rowsWd_app h.2 (rowsWd_one (by rw [Row.wd]; exact ⟨hc, ho 1 (by omega) (by omega)⟩))⟩, ⟨hc, ho _ (by omega) (by omega)⟩, trivial⟩
theorem RWd.close {block : Int} (hb : 0 ≤ block ∧ block < 10) : ∀ {fs : List RFr}, RWd fs → RWd (rClose block names fs)
  | [], h => h
  | [f], h => h
  | t :: u :: r, h => by
    rw [rClose_cons]
    split
    · refine ⟨h.1, fun f hf => ?_⟩
      rcases List.mem_cons.mp hf with rfl | hf
      · exact h.2 t List.mem_cons_self
      · exact h.2 f (List.mem_cons_of_mem _ hf)
    · have h1 := h.1
      rw [List.length_cons, List.length_cons] at h1
      exact RWd.app ⟨by rw [List.length_cons]; omega, fun f hf => h.2 f (List.mem_cons_of_mem _ hf)⟩ (rClosed_wd hn h12 hb ⟨by omega, by omega⟩ (h.2 t List.mem_cons_self))
theorem RWd.step {block many n : Int} (hb : 0 ≤ block ∧ block < 10) (hm : many ≤ 3) : ∀ {fs : List RFr}, RWd fs → RWd (rStep block many names n fs)
  | [], h => h
  | t :: r, h => by
    rw [rStep_cons]
    split
    · exact h.app (lawSimple_wd hn h12 _)
    · split
      · rename_i hc
        have hp : 0 ≤ n / 16 % (many - block - 1) := Int.emod_nonneg _ (by omega)
        have hq : n / 16 % (many - block - 1) < many - block - 1 := Int.emod_lt_of_pos _ (by omega)
        have hg : isNameS (rGoal block many n names) = true := nmAt_nm12 hn h12 (by omega) (by omega)
        exact h.app (rowsWd_one (by unfold rCall; split <;> (rw [Row.wd]; exact hg)))
      · split
        · rename_i hc
          refine ⟨by rw [List.length_cons, List.length_cons]; omega, fun f hf => ?_⟩
          rcases List.mem_cons.mp hf with rfl | hf
          · exact ⟨rowsWd_nil, rowsWd_nil⟩
          · exact h.2 f hf
        · split
          · exact RWd.close hn h12 hb h
          · exact h
theorem rFrames_wd {block many : Int} (hb : 0 ≤ block ∧ block < 10) (hm : many ≤ 3) (cells : List Int) : ∀ i, RWd (rFrames block many names cells i)
  | 0 => ⟨by rw [rFrames]; decide, fun f hf => by
    rw [rFrames, List.mem_singleton] at hf
    subst hf
    exact ⟨rowsWd_nil, rowsWd_nil⟩⟩
  | i + 1 => by
    rw [rFrames]
    exact RWd.step hn h12 hb hm (rFrames_wd hb hm cells i)
theorem rFinal_wd {block : Int} (hb : 0 ≤ block ∧ block < 10) : ∀ (m : Nat) (fs : List RFr), rMeas fs ≤ m → RWd fs → RWd (rFinal block names fs)
  | m, fs, hm, h => by
    by_cases h1 : 1 < fs.length
    · rw [rFinal_more h1]
      have h2 := rClose_meas block names h1
      match m, hm with
      | 0, hm => omega
      | m + 1, hm => exact rFinal_wd hb m _ (by omega) (RWd.close hn h12 hb h)
    · rw [rFinal_one h1]
      exact h
theorem lawBlock_wd {block many : Int} (hb : 0 ≤ block ∧ block < 10) (hm : many ≤ 3) (cells : List Int) : rowsWd (lawBlock block many names cells) := by
  have h4 := rFinal_wd hn h12 hb _ _ (Nat.le_refl _) (rFrames_wd hn h12 hb hm cells cells.length)
  unfold lawBlock
  cases e : rFinal block names (rFrames block many names cells cells.length) with
  | nil => exact rowsWd_nil
  | cons f r => rw [e] at h4; exact (h4.2 f List.mem_cons_self).1
theorem lawLast_wd (way : Int) : (lawLast names way (lawMany way)).wd := by
  have hm := lawMany_ok way
  have hp : 0 ≤ way / 24 % lawMany way := Int.emod_nonneg _ (by omega)
  have hq : way / 24 % lawMany way < lawMany way := Int.emod_lt_of_pos _ (by omega)
  have hg : isNameS (nmAt names (8 + way / 24 % lawMany way)) = true := nmAt_nm12 hn h12 (by omega) (by omega)
  have h0 : (lawLast0 names way (lawMany way)).wd := by unfold lawLast0; split <;> (rw [Row.wd]; exact hg)
  have hs : (sureQ names).chk := ⟨⟨nmAt_nm12 hn h12 (by omega) (by omega), trivial⟩, trivial, show (0 : Int) ≤ 0 ∧ (0 : Int) < 1000000 by omega⟩
  unfold lawLast
  split
  · split <;> (rw [Row.wd]; exact ⟨⟨hs, hs⟩, rowsWd_one h0, rowsWd_nil⟩)
  · exact h0
theorem lawProg_wd (cells : List Int) (way : Int) : ∀ b ∈ lawProg cells names way, isNameS b.1 = true ∧ rowsWd b.2 := by
  have hm := lawMany_ok way
  have h0 : ∀ b ∈ lawProg0 cells names (lawMany way), isNameS b.1 = true ∧ rowsWd b.2 := by
    intro b hb
    unfold lawProg0 at hb
    rw [List.mem_map] at hb
    obtain ⟨j, hj, rfl⟩ := hb
    rw [List.mem_range] at hj
    exact ⟨nmAt_nm12 hn h12 (by omega) (by omega), lawBlock_wd hn h12 ⟨by omega, by omega⟩ hm.2 _⟩
  unfold lawProg
  split
  · have hl := lawLast_wd hn h12 way
    generalize lawLast names way (lawMany way) = r at hl
    generalize lawProg0 cells names (lawMany way) = P at h0
    intro b hb
    rcases List.eq_nil_or_concat P with e | ⟨P0, d, e⟩
    · rw [e, addLast] at hb; cases hb
    · rw [e, List.concat_eq_append, addLast_app] at hb
      rw [e, List.concat_eq_append] at h0
      rcases List.mem_append.mp hb with hb | hb
      · exact h0 b (List.mem_append_left _ hb)
      · rw [List.mem_singleton.mp hb]
        have := h0 d (List.mem_append_right _ List.mem_cons_self)
        exact ⟨this.1, rowsWd_app this.2 (rowsWd_one hl)⟩
  · exact h0
end
end DL

set_option Elab.async false
set_option linter.all false
set_option maxRecDepth 100000
set_option maxHeartbeats 4000000
namespace DL
open PySem L2
mutual
/-- the row may stand where n levels are left -/
def Row.fit : Row → Nat → Prop
  | .iff _ a b _, n => 1 ≤ n ∧ rowsFit a (n - 1) ∧ rowsFit b (n - 1)
  | .round _ a b _, n => 1 ≤ n ∧ rowsFit a (n - 1) ∧ rowsFit b (n - 1)
  | _, n => 1 ≤ n
def rowsFit : List Row → Nat → Prop
  | [], _ => True
  | r :: rs, n => r.fit n ∧ rowsFit rs n
end
mutual
theorem fit_dep : ∀ (r : Row) {n : Nat}, r.dep + 1 ≤ n → r.fit n
  | .iff _ a b _, n, h => by
    rw [Row.dep] at h
    rw [Row.fit]
    exact ⟨by omega, fits_dep a (by omega), fits_dep b (by omega)⟩
  | .round _ a b _, n, h => by
    rw [Row.dep] at h
    rw [Row.fit]
    exact ⟨by omega, fits_dep a (by omega), fits_dep b (by omega)⟩
  | .put .., n, h => (show 1 ≤ n by omega)
  | .swap .., n, h => (show 1 ≤ n by omega)
  | .push .., n, h => (show 1 ≤ n by omega)
  | .pull .., n, h => (show 1 ≤ n by omega)
  | .call .., n, h => (show 1 ≤ n by omega)
  | .undo .., n, h => (show 1 ≤ n by omega)
theorem fits_dep : ∀ (rs : List Row) {n : Nat}, rowsDep rs + 1 ≤ n → rowsFit rs n
  | [], _, _ => by rw [rowsFit]; trivial
  | r :: rs, n, h => by
    rw [rowsDep] at h
    rw [rowsFit]
    exact ⟨fit_dep r (by omega), fits_dep rs (by omega)⟩
end
structure Row.cko (ns : List Str) (r : Row) : Prop where
  wd : r.wd
  rev : r.rev
  good : r.good (fun y => y ∈ ns)
def rowsCko (ns : List Str) (rs : List Row) : Prop := ∀ r ∈ rs, r.cko ns
theorem th_ck {t : Th} (h : t.chk) : ckThing t.d = none := by
  cases t with
  | num i =>
    have h2 : 0 ≤ i ∧ i < 1000000 := h.2
    show (if isNumD (.int i) = true then none else some ("BadNumber" : Str)) = none
    rw [if_pos (by show (decide (0 ≤ i) && decide (i < 1000000)) = true; rw [decide_eq_true h2.1, decide_eq_true h2.2]; rfl)]
  | box x => exact ckThing_yes h.1
theorem qn_ck {q : Qn} (h : q.chk) : ckSigned askns q.d = none := by
  show ckSigned askns (.tup [.str q.s.str, q.a.d, q.b.d]) = none
  rw [ckSigned_in (ask_in _), th_ck h.1, th_ck h.2]
  rfl
theorem sm_ck {m : Sm} (h : m.chk) : ckSum m.d = none := by
  cases m with
  | one a =>
    show ckSum (.tup [a.d]) = none
    rw [ckSum_one]
    exact th_ck h
  | op s a b =>
    have h : a.chk ∧ b.chk := h
    show ckSum (.tup [.str s.str, a.d, b.d]) = none
    rw [ckSum_nlen (by simp), ckSigned_in (sg_in _), th_ck h.1, th_ck h.2]
    rfl
theorem in_free1 {x : Str} {t : Th} (h : t.free x) : inD (.str x) [t.d] = false := by
  show (eqF t.d (.str x) || false) = false
  rw [eq_free h]
  rfl
theorem in_free2 {x : Str} {a b : Th} (h : a.free x) (g : b.free x) : inD (.str x) [a.d, b.d] = false := by
  show (eqF a.d (.str x) || (eqF b.d (.str x) || false)) = false
  rw [eq_free h, eq_free g]
  rfl
theorem put_ck {x : Str} {s : Bool} {m : Sm} (hx : isNameS x = true) (hm : m.chk) (hf : m.free x) : ckPut (.str x) (.str (pmS s)) m.d = none := by
  unfold ckPut
  rw [if_neg (by show ¬ isNameS x = false; rw [hx]; decide), if_neg (by cases s <;> decide +kernel), sm_ck hm]
  show (if inD (.str x) (thingsOf m.d) = true then some ("OwnBox" : Str) else none) = none
  rw [if_neg]
  cases m with
  | one a =>
    show ¬ inD (.str x) [a.d] = true
    rw [in_free1 hf]
    decide
  | op g a b =>
    have hf : a.free x ∧ b.free x := hf
    show ¬ inD (.str x) [a.d, b.d] = true
    rw [in_free2 hf.1 hf.2]
    decide
theorem form_row (r : Row) : formOf r.d = some (r.word, r.rest) := by
  rw [row_wd]
  refine formOf_yes ?_
  have h1 := row_ln r
  rw [List.length_cons] at h1
  rw [h1]
  cases r <;> (simp only [Row.word, Row.sizeN] <;> decide +kernel)
theorem leaf_ck {ns : List Str} {r : Row} (ha : r.asks = false) (h : r.cko ns) (n : Nat) (pl : List D) : ckRow ns (n + 1) r.d pl = .ok 1 := by
  obtain ⟨hw, hr, hg⟩ := h
  have e : ∀ {x : Option Str}, x = none → (match x with | some y => Ck.bad y pl | none => .ok 1) = .ok 1 := fun h => by rw [h]
  cases r with
  | iff => cases ha
  | round => cases ha
  | put x s m =>
    rw [ckRow_leaf (w := "put") (rest := [.str x, .str (pmS s), m.d]) (form_row (.put x s m)) (by decide +kernel)]
    refine e ?_
    rw [Row.wd] at hw
    rw [Row.rev] at hr
    unfold ckLeaf
    rw [if_pos rfl]
    exact put_ck hw.1 hw.2 hr
  | swap x y =>
    rw [ckRow_leaf (w := "swap") (rest := [.str x, .str y]) (form_row (.swap x y)) (by decide +kernel)]
    refine e ?_
    rw [Row.wd] at hw
    unfold ckLeaf ckNames
    rw [if_neg (by decide +kernel), if_neg (by decide +kernel), if_pos]
    show (isNameS x && (isNameS y && true)) = true
    rw [hw.1, hw.2]; rfl
  | push x =>
    rw [ckRow_leaf (w := "push") (rest := [.str x]) (form_row (.push x)) (by decide +kernel)]
    refine e ?_
    rw [Row.wd] at hw
    unfold ckLeaf ckNames
    rw [if_neg (by decide +kernel), if_neg (by decide +kernel), if_pos]
    show (isNameS x && true) = true
    rw [hw]; rfl
  | pull x =>
    rw [ckRow_leaf (w := "pull") (rest := [.str x]) (form_row (.pull x)) (by decide +kernel)]
    refine e ?_
    rw [Row.wd] at hw
    unfold ckLeaf ckNames
    rw [if_neg (by decide +kernel), if_neg (by decide +kernel), if_pos]
    show (isNameS x && true) = true
    rw [hw]; rfl
  | call x =>
    rw [ckRow_leaf (w := "call") (rest := [.str x]) (form_row (.call x)) (by decide +kernel)]
    refine e ?_
    have hg : x ∈ ns := by rw [Row.good] at hg; exact hg
    unfold ckLeaf
    rw [if_neg (by decide +kernel), if_pos (by decide +kernel)]
    show (if x ∈ ns then none else some ("BadName" : Str)) = none
    rw [if_pos hg]
  | undo x =>
    rw [ckRow_leaf (w := "undo") (rest := [.str x]) (form_row (.undo x)) (by decide +kernel)]
    refine e ?_
    have hg : x ∈ ns := by rw [Row.good] at hg; exact hg
    unfold ckLeaf
    rw [if_neg (by decide +kernel), if_pos (by decide +kernel)]
    show (if x ∈ ns then none else some ("BadName" : Str)) = none
    rw [if_pos hg]
theorem asks_ck {ns : List Str} {z : Str} {q1 q2 : Qn} {a b : List D} (hz : z = "if" ∨ z = "round") (h1 : q1.chk) (h2 : q2.chk) (n : Nat) (pl : List D) : ckRow ns (n + 1) (.tup [.str z, q1.d, .lst a, .lst b, q2.d]) pl = (match ckL (ckRow ns n) (pl ++ [.int 0]) 0 a with
    | .bad x q => .bad x q
    | .ok k => match ckL (ckRow ns n) (pl ++ [.int 1]) 0 b with
      | .bad x q => .bad x q
      | .ok j => .ok (1 + k + j)) := by
  rw [ckRow_both (q1 := q1.d) (a := .lst a) (b := .lst b) (q2 := q2.d) (formOf_yes (by rcases hz with rfl | rfl <;> (show sizeW _ = 5; decide +kernel))) hz]
  have e : ckAsk q1.d (.lst a) (.lst b) q2.d = none := by
    unfold ckAsk
    rw [qn_ck h1]
    show (if (true && true) = true then ckSigned askns q2.d else some ("BadRow" : Str)) = none
    rw [if_pos (by decide), qn_ck h2]
  rw [e]
  rfl
theorem cko_iff {ns : List Str} {q1 q2 : Qn} {a b : List Row} (h : (Row.iff q1 a b q2).cko ns) : q1.chk ∧ q2.chk ∧ rowsCko ns a ∧ rowsCko ns b := by
  obtain ⟨hw, hr, hg⟩ := h
  rw [Row.wd] at hw
  rw [Row.rev] at hr
  rw [Row.good] at hg
  exact ⟨hw.1.1, hw.1.2, fun r hm => ⟨rowsWd_mem hw.2.1 hm, rowsRev_mem hr.1 hm, rowsGood_mem hg.2.1 hm⟩, fun r hm => ⟨rowsWd_mem hw.2.2 hm, rowsRev_mem hr.2 hm, rowsGood_mem hg.2.2 hm⟩⟩
theorem cko_round {ns : List Str} {q1 q2 : Qn} {a b : List Row} (h : (Row.round q1 a b q2).cko ns) : q1.chk ∧ q2.chk ∧ rowsCko ns a ∧ rowsCko ns b := by
  obtain ⟨hw, hr, hg⟩ := h
  rw [Row.wd] at hw
  rw [Row.rev] at hr
  rw [Row.good] at hg
  exact ⟨hw.1.1, hw.1.2, fun r hm => ⟨rowsWd_mem hw.2.1 hm, rowsRev_mem hr.1 hm, rowsGood_mem hg.2.1 hm⟩, fun r hm => ⟨rowsWd_mem hw.2.2 hm, rowsRev_mem hr.2 hm, rowsGood_mem hg.2.2 hm⟩⟩
mutual
theorem row_ck {ns : List Str} : ∀ (r : Row) (n : Nat) (pl : List D), r.cko ns → r.fit n → ckRow ns n r.d pl = .ok r.cnt
  | .iff q1 a b q2, n, pl, h, hf => by
    rw [Row.fit] at hf
    obtain ⟨m, rfl⟩ : ∃ m, n = m + 1 := ⟨n - 1, by omega⟩
    obtain ⟨h1, h2, ha, hb⟩ := cko_iff h
    rw [Row.d, asks_ck (.inl rfl) h1 h2, rows_ck a m _ 0 ha hf.2.1]
    show (match ckL (ckRow ns m) (pl ++ [.int 1]) 0 (rowsD b) with | .bad x q => Ck.bad x q | .ok j => .ok (1 + rowsCnt a + j)) = _
    rw [rows_ck b m _ 0 hb hf.2.2, Row.cnt]
  | .round q1 a b q2, n, pl, h, hf => by
    rw [Row.fit] at hf
    obtain ⟨m, rfl⟩ : ∃ m, n = m + 1 := ⟨n - 1, by omega⟩
    obtain ⟨h1, h2, ha, hb⟩ := cko_round h
    rw [Row.d, asks_ck (.inr rfl) h1 h2, rows_ck a m _ 0 ha hf.2.1]
    show (match ckL (ckRow ns m) (pl ++ [.int 1]) 0 (rowsD b) with | .bad x q => Ck.bad x q | .ok j => .ok (1 + rowsCnt a + j)) = _
    rw [rows_ck b m _ 0 hb hf.2.2, Row.cnt]
  | .put x s m, n, pl, h, hf => by
    have hf : 1 ≤ n := hf
    obtain ⟨j, rfl⟩ : ∃ j, n = j + 1 := ⟨n - 1, by omega⟩
    exact leaf_ck rfl h j pl
  | .swap x y, n, pl, h, hf => by
    have hf : 1 ≤ n := hf
    obtain ⟨j, rfl⟩ : ∃ j, n = j + 1 := ⟨n - 1, by omega⟩
    exact leaf_ck rfl h j pl
  | .push x, n, pl, h, hf => by
    have hf : 1 ≤ n := hf
    obtain ⟨j, rfl⟩ : ∃ j, n = j + 1 := ⟨n - 1, by omega⟩
    exact leaf_ck rfl h j pl
  | .pull x, n, pl, h, hf => by
    have hf : 1 ≤ n := hf
    obtain ⟨j, rfl⟩ : ∃ j, n = j + 1 := ⟨n - 1, by omega⟩
    exact leaf_ck rfl h j pl
  | .call x, n, pl, h, hf => by
    have hf : 1 ≤ n := hf
    obtain ⟨j, rfl⟩ : ∃ j, n = j + 1 := ⟨n - 1, by omega⟩
    exact leaf_ck rfl h j pl
  | .undo x, n, pl, h, hf => by
    have hf : 1 ≤ n := hf
    obtain ⟨j, rfl⟩ : ∃ j, n = j + 1 := ⟨n - 1, by omega⟩
    exact leaf_ck rfl h j pl
theorem rows_ck {ns : List Str} : ∀ (rs : List Row) (n : Nat) (pl : List D) (i : Nat), rowsCko ns rs → rowsFit rs n → ckL (ckRow ns n) pl i (rowsD rs) = .ok (rowsCnt rs)
  | [], n, pl, i, _, _ => by rw [rowsD, ckL, rowsCnt]
  | r :: rs, n, pl, i, h, hf => by
    rw [rowsFit] at hf
    rw [rowsD, ckL, row_ck r n _ (h r List.mem_cons_self) hf.1]
    show (match ckL (ckRow ns n) pl (i + 1) (rowsD rs) with | .bad x q => Ck.bad x q | .ok m => .ok (r.cnt + m)) = _
    rw [rows_ck rs n pl (i + 1) (fun q hq => h q (List.mem_cons_of_mem _ hq)) hf.2, rowsCnt]
end
theorem rows_bad {ns : List Str} {n : Nat} {pl : List D} {x : Str} {q : List D} {d : D} {rest : List D} : ∀ (rs : List Row) (i : Nat), rowsCko ns rs → rowsFit rs n → ckRow ns n d (pl ++ [.int ((i + rs.length : Nat) : Int)]) = .bad x q → ckL (ckRow ns n) pl i (rowsD rs ++ d :: rest) = .bad x q
  | [], i, _, _, hb => by
    rw [rowsD, List.nil_append, ckL]
    rw [List.length_nil, Nat.add_zero] at hb
    rw [hb]
  | r :: rs, i, h, hf, hb => by
    rw [rowsFit] at hf
    rw [rowsD, List.cons_append, ckL, row_ck r n _ (h r List.mem_cons_self) hf.1]
    rw [List.length_cons, show i + (rs.length + 1) = i + 1 + rs.length by omega] at hb
    have := rows_bad (rest := rest) rs (i + 1) (fun q hq => h q (List.mem_cons_of_mem _ hq)) hf.2 hb
    show (match ckL (ckRow ns n) pl (i + 1) (rowsD rs ++ d :: rest) with | .bad x q => Ck.bad x q | .ok m => .ok (r.cnt + m)) = _
    rw [this]
def toB (P : Prog) : List (Str × List D) := P.map fun b => (b.1, rowsD b.2)
theorem toB_D (P : Prog) : blksD (toB P) = progD P := by
  unfold blksD toB progD
  rw [List.map_map]
  rfl
theorem toB_nm (P : Prog) : (toB P).map (·.1) = P.map (·.1) := by
  unfold toB
  rw [List.map_map]
  rfl
theorem name_fine {x : Str} (h : isNameS x = true) : (D.str x).fine := by
  have := small_str h
  exact this
theorem th_fine {t : Th} (h : t.chk) : t.d.fine := by
  cases t with
  | num i => exact trivial
  | box x => exact name_fine h.1
theorem str6_fine {x : Str} (h : x.length ≤ 6) : (D.str x).fine := (show x.length ≤ 100000 by omega)
theorem qn_fine {q : Qn} (h : q.chk) : q.d.fine := by
  show (D.tup [.str q.s.str, q.a.d, q.b.d]).fine
  rw [D.fine]
  exact ⟨by simp, fines_cons (str6_fine (by cases q.s <;> decide +kernel)) (fines_cons (th_fine h.1) (fines_cons (th_fine h.2) fines_nil))⟩
theorem sm_fine {m : Sm} (h : m.chk) : m.d.fine := by
  cases m with
  | one a =>
    show (D.tup [a.d]).fine
    rw [D.fine]
    exact ⟨by simp, fines_cons (th_fine h) fines_nil⟩
  | op s a b =>
    have h : a.chk ∧ b.chk := h
    show (D.tup [.str s.str, a.d, b.d]).fine
    rw [D.fine]
    exact ⟨by simp, fines_cons (str6_fine (by cases s with | ask s => cases s <;> decide +kernel | _ => decide +kernel)) (fines_cons (th_fine h.1) (fines_cons (th_fine h.2) fines_nil))⟩
mutual
theorem row_fine {cs : Str → Prop} : ∀ r : Row, r.wd → r.good cs → r.d.fine
  | .put x s m, h, _ => by
    rw [Row.wd] at h
    rw [Row.d, D.fine]
    exact ⟨by simp, fines_cons (str6_fine (by decide +kernel)) (fines_cons (name_fine h.1) (fines_cons (str6_fine (by cases s <;> decide +kernel)) (fines_cons (sm_fine h.2) fines_nil)))⟩
  | .swap x y, h, _ => by
    rw [Row.wd] at h
    rw [Row.d, D.fine]
    exact ⟨by simp, fines_cons (str6_fine (by decide +kernel)) (fines_cons (name_fine h.1) (fines_cons (name_fine h.2) fines_nil))⟩
  | .push x, h, _ => by
    rw [Row.wd] at h
    rw [Row.d, D.fine]
    exact ⟨by simp, fines_cons (str6_fine (by decide +kernel)) (fines_cons (name_fine h) fines_nil)⟩
  | .pull x, h, _ => by
    rw [Row.wd] at h
    rw [Row.d, D.fine]
    exact ⟨by simp, fines_cons (str6_fine (by decide +kernel)) (fines_cons (name_fine h) fines_nil)⟩
  | .call x, h, _ => by
    rw [Row.wd] at h
    rw [Row.d, D.fine]
    exact ⟨by simp, fines_cons (str6_fine (by decide +kernel)) (fines_cons (name_fine h) fines_nil)⟩
  | .undo x, h, _ => by
    rw [Row.wd] at h
    rw [Row.d, D.fine]
    exact ⟨by simp, fines_cons (str6_fine (by decide +kernel)) (fines_cons (name_fine h) fines_nil)⟩
  | .iff q1 a b q2, h, g => by
    rw [Row.wd] at h
    rw [Row.good] at g
    have ha : (D.lst (rowsD a)).fine := by rw [D.fine]; exact ⟨by rw [rowsD_len]; omega, rows_fine a h.2.1 g.2.1⟩
    have hb : (D.lst (rowsD b)).fine := by rw [D.fine]; exact ⟨by rw [rowsD_len]; omega, rows_fine b h.2.2 g.2.2⟩
    rw [Row.d, D.fine]
    exact ⟨by simp, fines_cons (str6_fine (by decide +kernel)) (fines_cons (qn_fine h.1.1) (fines_cons ha (fines_cons hb (fines_cons (qn_fine h.1.2) fines_nil))))⟩
  | .round q1 a b q2, h, g => by
    rw [Row.wd] at h
    rw [Row.good] at g
    have ha : (D.lst (rowsD a)).fine := by rw [D.fine]; exact ⟨by rw [rowsD_len]; omega, rows_fine a h.2.1 g.2.1⟩
    have hb : (D.lst (rowsD b)).fine := by rw [D.fine]; exact ⟨by rw [rowsD_len]; omega, rows_fine b h.2.2 g.2.2⟩
    rw [Row.d, D.fine]
    exact ⟨by simp, fines_cons (str6_fine (by decide +kernel)) (fines_cons (qn_fine h.1.1) (fines_cons ha (fines_cons hb (fines_cons (qn_fine h.1.2) fines_nil))))⟩
theorem rows_fine {cs : Str → Prop} : ∀ rs : List Row, rowsWd rs → rowsGood cs rs → D.fines (rowsD rs)
  | [], _, _ => by rw [rowsD]; exact fines_nil
  | r :: rs, h, g => by
    rw [rowsWd] at h
    rw [rowsGood] at g
    rw [rowsD]
    exact fines_cons (row_fine r h.1 g.1) (rows_fine rs h.2 g.2)
end
end DL

set_option Elab.async false
set_option linter.all false
set_option maxRecDepth 100000
set_option maxHeartbeats 4000000
namespace DL
open PySem L2
def At (pr : Prog) (p : Plc) (r : Row) (p' : Plc) : Prop := ∃ q q' rs k, MirR pr q q' rs ∧ k < rs.length ∧ p = q.at (k : Nat) ∧ p' = q'.at ((rs.length - 1 - k : Nat) : Int) ∧ rs.getD k (.call "") = r
def Sides (l l' : List Int) : Prop := l'.length = l.length ∧ ∀ j : Nat, j % 2 = 1 → l'[j]? = l[j]?
theorem Sides.row {l l' : List Int} {i i' : Int} (h : Sides l l') (he : l.length % 2 = 0) : Sides (l ++ [i]) (l' ++ [i']) := by
  obtain ⟨h1, h2⟩ := h
  refine ⟨by rw [List.length_append, List.length_append, h1]; rfl, fun j hj => ?_⟩
  by_cases hl : j < l.length
  · rw [List.getElem?_append_left hl, List.getElem?_append_left (by omega)]
    exact h2 j hj
  · rw [List.getElem?_eq_none (by rw [List.length_append, List.length_singleton]; omega), List.getElem?_eq_none (by rw [List.length_append, List.length_singleton]; omega)]
theorem Sides.side {l l' : List Int} {i : Int} (h : Sides l l') : Sides (l ++ [i]) (l' ++ [i]) := by
  obtain ⟨h1, h2⟩ := h
  refine ⟨by rw [List.length_append, List.length_append, h1], fun j hj => ?_⟩
  by_cases hl : j < l.length
  · rw [List.getElem?_append_left hl, List.getElem?_append_left (by omega)]
    exact h2 j hj
  · rw [List.getElem?_append_right (by omega), List.getElem?_append_right (by omega), h1]
theorem At.row {pr : Prog} {p p' : Plc} {r : Row} (h : At pr p r p') : (mall (rowsOf pr p.x) p.is).r = r := by
  obtain ⟨q, q', rs, k, a, b, rfl, rfl, rfl⟩ := h
  obtain ⟨_, e, _⟩ := mir_rows a
  show (mall (rowsOf pr q.x) (q.is ++ [((k : Nat) : Int)])).r = _
  rw [mall_snoc, e]
  rfl
end DL
namespace DL
open PySem L2
theorem mir_len {pr : Prog} {p p' : Plc} {rs : List Row} (h : MirR pr p p' rs) : p.is.length + 2 * rowsDep rs ≤ 2 * rowsDep (rowsOf pr p.x) := by
  induction h with
  | blk x => exact Nat.le_of_eq (Nat.zero_add _)
  | @part q q' rs k t h hk ha ih =>
    have hm := rowsDep_mem (rowAt_mem hk)
    have e : (((q.at (k : Nat)).at (sideOf t)).is).length = q.is.length + 2 := by
      show ((q.is ++ [_]) ++ [_]).length = _
      rw [List.length_append, List.length_append]; rfl
    have ed : rowsDep (partOf (rs.getD k (.call "")) t) + 1 ≤ (rs.getD k (.call "")).dep := by
      generalize rs.getD k (.call "") = r at ha
      cases r with
      | iff q1 a b q2 => rw [Row.dep]; cases t <;> (unfold partOf; show rowsDep _ + 1 ≤ _; first | (show rowsDep b + 1 ≤ _; omega) | (show rowsDep a + 1 ≤ _; omega))
      | round q1 a b q2 => rw [Row.dep]; cases t <;> (unfold partOf; show rowsDep _ + 1 ≤ _; first | (show rowsDep b + 1 ≤ _; omega) | (show rowsDep a + 1 ≤ _; omega))
      | _ => cases ha
    show _ ≤ 2 * rowsDep (rowsOf pr q.x)
    rw [e]
    omega
theorem At.len {pr : Prog} {p p' : Plc} {r : Row} (h : At pr p r p') : p.is.length ≤ 2 * rowsDep (rowsOf pr p.x) + 1 := by
  obtain ⟨q, q', rs, k, a, b, rfl, rfl, rfl⟩ := h
  have := mir_len a
  show (q.is ++ [_]).length ≤ 2 * rowsDep (rowsOf pr q.x) + 1
  rw [List.length_append, List.length_singleton]
  omega
theorem At.dep {pr : Prog} {p p' : Plc} {r : Row} (h : At pr p r p') : ∃ q q' rs, MirR pr q q' rs ∧ r ∈ rs := by
  obtain ⟨q, q', rs, k, a, b, rfl, rfl, rfl⟩ := h
  exact ⟨q, q', rs, a, rowAt_mem b⟩
end DL
namespace DL
end DL

set_option Elab.async false
set_option linter.all false
set_option maxRecDepth 100000
set_option maxHeartbeats 4000000
namespace DL
open PySem L2
structure Hole (p cur : Addr) (w : List (Addr × D)) (f : List D → List D) : Prop where
  h : ∀ L dl wl, OpnL L dl wl → ∃ w0, Opn (.lst (f L)) (.ref p) w0 ∧ ∀ q ∈ w0, q ∈ (cur, .lst dl) :: (wl ++ w)
theorem Hole.done {p cur : Addr} {w : List (Addr × D)} {f : List D → List D} (h : Hole p cur w f) (C : List D) : ∃ w0, Opn (.lst (f C)) (.ref p) w0 ∧ ∀ q ∈ w0, q ∈ (cur, .lst C) :: w := by
  obtain ⟨w0, h1, h2⟩ := h.h C C [] (OpnL.leafs C)
  exact ⟨w0, h1, fun q hq => by have := h2 q hq; rwa [List.nil_append] at this⟩
theorem Hole.mono {p cur : Addr} {w w' : List (Addr × D)} {f : List D → List D} (h : Hole p cur w f) (hw : ∀ q ∈ w, q ∈ w') : Hole p cur w' f := ⟨fun L dl wl hl => by
  obtain ⟨w0, h1, h2⟩ := h.h L dl wl hl
  refine ⟨w0, h1, fun q hq => ?_⟩
  rcases List.mem_cons.mp (h2 q hq) with h | h
  · exact List.mem_cons.mpr (.inl h)
  · rcases List.mem_append.mp h with h | h
    · exact List.mem_cons_of_mem _ (List.mem_append_left _ h)
    · exact List.mem_cons_of_mem _ (List.mem_append_right _ (hw q h))⟩
def sideD (part : Bool) (L O : List D) : List D := [.lst (if part then O else L), .lst (if part then L else O)]
theorem Hole.into {p cur s0 s1 : Addr} {w : List (Addr × D)} {f : List D → List D} (h : Hole p cur w f) (C O : List D) (wd q : D) (part : Bool) :
    Hole p (if part then s1 else s0) ((cur, .lst (C ++ [.tup [wd, q, .ref s0, .ref s1, q]])) :: (if part then s0 else s1, .lst O) :: w) (fun L => f (C ++ [.tup ([wd, q] ++ sideD part L O ++ [q])])) := ⟨fun L dl wl hl => by
  cases part with
  | false =>
    have hr : OpnL [wd, q, .lst L, .lst O, q] [wd, q, .ref s0, .ref s1, q] (((s0, .lst dl) :: wl) ++ [(s1, .lst O)]) :=
      .leafc (.leafc (.cons (.lst hl) (by
        have := OpnL.cons (Opn.lst (a := s1) (OpnL.leafs O)) (OpnL.leafs [q])
        rwa [List.append_nil] at this)))
    have hc : OpnL (C ++ [.tup [wd, q, .lst L, .lst O, q]]) (C ++ [.tup [wd, q, .ref s0, .ref s1, q]]) ([] ++ ((((s0, .lst dl) :: wl) ++ [(s1, .lst O)]) ++ [])) := (OpnL.leafs C).append (.cons (.tup hr) .nil)
    obtain ⟨w0, h1, h2⟩ := h.h _ _ _ hc
    refine ⟨w0, h1, fun q hq => ?_⟩
    have := h2 q hq
    simp only [List.nil_append, List.append_nil, List.mem_cons, List.mem_append, List.not_mem_nil, or_false, Bool.false_eq_true, if_false] at this ⊢
    grind
  | true =>
    have hr : OpnL [wd, q, .lst O, .lst L, q] [wd, q, .ref s0, .ref s1, q] ([(s0, .lst O)] ++ (((s1, .lst dl) :: wl) ++ [])) :=
      .leafc (.leafc (.cons (.lst (OpnL.leafs O)) (.cons (.lst hl) (OpnL.leafs [q]))))
    have hc : OpnL (C ++ [.tup [wd, q, .lst O, .lst L, q]]) (C ++ [.tup [wd, q, .ref s0, .ref s1, q]]) ([] ++ (([(s0, .lst O)] ++ (((s1, .lst dl) :: wl) ++ [])) ++ [])) := (OpnL.leafs C).append (.cons (.tup hr) .nil)
    obtain ⟨w0, h1, h2⟩ := h.h _ _ _ hc
    refine ⟨w0, h1, fun q hq => ?_⟩
    have := h2 q hq
    simp only [List.nil_append, List.append_nil, List.mem_cons, List.mem_append, List.not_mem_nil, or_false, List.cons_append, if_true] at this ⊢
    grind⟩
theorem pb_opn : ∀ bs : List PB, OpnL (pbD bs) (pbT bs) (pbW bs)
  | [] => .nil
  | b :: bs => by
    have h : Opn (.tup [.str b.2.1, .lst (rowsD b.2.2)]) (.tup [.str b.2.1, .ref b.1]) [(b.1, .lst (rowsD b.2.2))] := by
      have := OpnL.leafc (d := .str b.2.1) (OpnL.cons (Opn.lst (a := b.1) (OpnL.leafs (rowsD b.2.2))) .nil)
      rw [List.append_nil] at this
      exact .tup this
    exact .cons h (pb_opn bs)
theorem Hole.block (p : Addr) (bs1 bs2 : List PB) (b : PB) : Hole p b.1 ((p, .lst (pbT (bs1 ++ b :: bs2))) :: (pbW bs1 ++ pbW bs2)) (fun L => pbD bs1 ++ .tup [.str b.2.1, .lst L] :: pbD bs2) := ⟨fun L dl wl hl => by
  have hb : Opn (.tup [.str b.2.1, .lst L]) (.tup [.str b.2.1, .ref b.1]) ((b.1, .lst dl) :: wl) := by
    have := OpnL.leafc (d := .str b.2.1) (OpnL.cons (Opn.lst (a := b.1) hl) .nil)
    rw [List.append_nil] at this
    exact .tup this
  have hall : OpnL (pbD bs1 ++ .tup [.str b.2.1, .lst L] :: pbD bs2) (pbT bs1 ++ .tup [.str b.2.1, .ref b.1] :: pbT bs2) (pbW bs1 ++ (((b.1, .lst dl) :: wl) ++ pbW bs2)) := (pb_opn bs1).append (.cons hb (pb_opn bs2))
  have e : pbT (bs1 ++ b :: bs2) = pbT bs1 ++ .tup [.str b.2.1, .ref b.1] :: pbT bs2 := by unfold pbT; rw [List.map_append]; rfl
  refine ⟨_, .lst (a := p) hall, fun q hq => ?_⟩
  rw [e]
  simp only [List.mem_cons, List.mem_append] at hq ⊢
  rcases hq with h | h | (h | h) | h
  · exact .inr (.inr (.inl h))
  · exact .inr (.inr (.inr (.inl h)))
  · exact .inl h
  · exact .inr (.inl h)
  · exact .inr (.inr (.inr (.inr h)))⟩
theorem rowsWd_of' : ∀ {rs : List Row}, (∀ r ∈ rs, r.wd) → rowsWd rs
  | [], _ => rowsWd_nil
  | r :: rs, h => by
    rw [rowsWd]
    exact ⟨h r List.mem_cons_self, rowsWd_of' fun q hq => h q (List.mem_cons_of_mem _ hq)⟩
section
variable {names : List Str} (hn : ∀ z ∈ names, isNameS z = true) (h12 : names.length = 12)
include hn h12
end
def R_programW : RW' := fun ds w P => ∃ (cells : List Int) (names : List Str) (way : Int), ds = [.lst (cells.map .int), .lst (names.map .str), .int way] ∧ names.length = 12 ∧ cells.length ≤ 63 ∧ w = [] ∧
  P = fun d w' => ∃ (p : Addr) (bs : List PB), d = .ref p ∧ bs.map (·.2) = lawProg cells names way ∧ w' = (p, .lst (pbT bs)) :: pbW bs
end DL

set_option Elab.async false
set_option linter.all false
set_option maxRecDepth 100000
set_option maxHeartbeats 4000000
namespace DL
open PySem L2
def noF (z : Str) : Prop := figB (z.cps.toList.getD 2 0) = false
theorem all_getF {xs : List Nat} (h : xs.all ltrB = true) (i : Nat) : figB (xs.getD i 0) = false := by
  rw [List.getD_eq_getElem?_getD]
  cases e : xs[i]? with
  | none => rfl
  | some n =>
    rw [List.all_eq_true] at h
    have := h n (List.mem_of_getElem? e)
    unfold ltrB at this
    simp at this
    show figB n = false
    unfold figB
    simp
    omega
theorem lawWord_noF (x : Int) {i : Nat} (hi : i < 12) : noF (lawWord x i) := by
  have hz := lawSize_ok x
  unfold noF
  by_cases h1 : x % 3 = 1
  · have p0 : 0 ≤ x / 15 % lawSize x := Int.emod_nonneg _ (by omega)
    have p1 : x / 15 % lawSize x < lawSize x := Int.emod_lt_of_pos _ (by omega)
    rw [lawWord_1 h1, append_cps, append_cps, cutS_to _ p0, cutS_mid _ (by omega) (by omega) (by rw [lawTail_len]; omega), lawTail_cps, ltr_cps (by omega) (by omega)]
    refine all_getF ?_ 2
    rw [List.all_append, List.all_append, all_take (tailL_ltr _) _]
    have h2 : (((tailL (x / 72 % 26).toNat).drop (x / 15 % lawSize x + 1).toNat).take ((lawSize x).toNat - (x / 15 % lawSize x + 1).toNat)).all ltrB = true := by
      refine all_take ?_ _
      have h := tailL_ltr (x / 72 % 26).toNat
      rw [List.all_eq_true] at h ⊢
      exact fun y hy => h y (List.mem_of_mem_drop hy)
    rw [h2]
    show (true && (ltrB (97 + ((x / 72 + 5 * (0 + (i : Nat))) % 26).toNat) && true) && true) = true
    rw [ltr_ok (by omega) (by omega)]
    rfl
  · by_cases h2 : x % 3 = 2
    · rw [lawWord_2 h1 h2, append_cps, cutS_to _ (by omega), ltr_cps (by omega) (by omega), append_cps, lawTail_cps, show ("4" : Str).cps.toList = [52] from by decide +kernel]
      cases e : ((0 + (i : Int)) % 4 + x / 18 % 3).toNat with
      | zero => show figB (0 : Nat) = false; decide
      | succ m => exact all_getF (all_take (tailL_ltr _) m) 0
    · by_cases h3 : 0 < (x / 26 + (0 + (i : Nat))) % 6
      · rw [lawWord_3 h1 h2 i h3, append_cps, append_cps, cutS_to _ (by omega), ltr_cps (by omega) (by omega), lawTail_cps]
        obtain ⟨m, hm⟩ := Int.eq_ofNat_of_zero_le (show 0 ≤ (x + (0 + (i : Nat))) % 10 by omega)
        rw [hm, digit_cps m (by omega)]
        exact all_getF (all_take (tailL_ltr _) _) 0
      · rw [lawWord_4 h1 h2 i h3, ltr_cps (by omega) (by omega)]
        show figB (0 : Nat) = false
        decide
theorem special_noF : ∀ z ∈ lawSpecial, noF z := by unfold noF; decide +kernel
theorem lawNames_noF (x : Int) : ∀ z ∈ lawNames x, noF z := by
  have h0 : ∀ z ∈ lawNames0 x, noF z := by
    intro z hz
    unfold lawNames0 at hz
    rw [List.mem_map] at hz
    obtain ⟨i, hi, rfl⟩ := hz
    exact lawWord_noF x (List.mem_range.mp hi)
  have h1 : ∀ z ∈ lawNames1 x, noF z := by
    unfold lawNames1
    split
    · intro z hz
      rcases List.mem_or_eq_of_mem_set hz with h | rfl
      · exact h0 z h
      · exact special_noF _ (getD_mem (by show _ < 10; omega))
    · exact h0
  intro z hz
  unfold lawNames at hz
  split at hz
  · rw [List.mem_append] at hz
    rcases hz with h | h
    · exact h1 z (List.mem_of_mem_drop (List.mem_of_mem_take h))
    · exact h1 z (List.mem_of_mem_drop (List.mem_of_mem_take h))
  · exact h1 z hz
def zN (k : Nat) : Str := "z" ++ Str.ofString (toString ((10 + (k : Int))))
theorem zN_ok : ∀ k, k < 11 → isNameL (zN k).cps.toList = true ∧ figB ((zN k).cps.toList.getD 2 0) = true := by decide +kernel
theorem zN_nd : ((List.range 11).map zN).Nodup := by decide +kernel
end DL

set_option Elab.async false
set_option linter.all false
set_option maxRecDepth 100000
set_option maxHeartbeats 4000000
namespace DL
open PySem L2
def nbL : List Nat := [110, 111, 98, 111, 100, 121]
def nbAll : Bool := (List.range 26).all fun a => [1, 3, 4, 5, 6].all fun s => (List.range s).all fun p => (List.range 12).all fun k => ((tailL a).take p ++ [97 + (a + 5 * k) % 26] ++ ((tailL a).drop (p + 1)).take (s - (p + 1))) != nbL
theorem nbAll_ok : nbAll = true := by decide +kernel
theorem nb1 {a s p k : Nat} (ha : a < 26) (hs : s ∈ [1, 3, 4, 5, 6]) (hp : p < s) (hk : k < 12) : ((tailL a).take p ++ [97 + (a + 5 * k) % 26] ++ ((tailL a).drop (p + 1)).take (s - (p + 1))) ≠ nbL := by
  have h := nbAll_ok
  unfold nbAll at h
  rw [List.all_eq_true] at h
  have h := h a (List.mem_range.mpr ha)
  rw [List.all_eq_true] at h
  have h := h s hs
  rw [List.all_eq_true] at h
  have h := h p (List.mem_range.mpr hp)
  rw [List.all_eq_true] at h
  have h := h k (List.mem_range.mpr hk)
  simpa using h
theorem nb2 {l m : Nat} {r : List Nat} (h : m ≠ 111) : l :: m :: r ≠ nbL := by
  intro e
  unfold nbL at e
  simp at e
  exact h e.2.1
theorem lawWord_nb (x : Int) {i : Nat} (hi : i < 12) : (lawWord x i).cps.toList ≠ nbL := by
  have hz := lawSize_ok x
  by_cases h1 : x % 3 = 1
  · have p0 : 0 ≤ x / 15 % lawSize x := Int.emod_nonneg _ (by omega)
    have p1 : x / 15 % lawSize x < lawSize x := Int.emod_lt_of_pos _ (by omega)
    rw [lawWord_1 h1, append_cps, append_cps, cutS_to _ p0, cutS_mid _ (by omega) (by omega) (by rw [lawTail_len]; omega), lawTail_cps, ltr_cps (by omega) (by omega)]
    have e : ((x / 72 + 5 * (0 + (i : Nat))) % 26).toNat = ((x / 72 % 26).toNat + 5 * i) % 26 := by omega
    rw [e, show (x / 15 % lawSize x + 1).toNat = (x / 15 % lawSize x).toNat + 1 by omega]
    exact nb1 (by omega) (size_mem _ (by omega)) (by omega) hi
  · by_cases h2 : x % 3 = 2
    · rw [lawWord_2 h1 h2, append_cps, cutS_to _ (by omega), ltr_cps (by omega) (by omega), append_cps, lawTail_cps, show ("4" : Str).cps.toList = [52] from by decide +kernel]
      cases e : ((0 + (i : Int)) % 4 + x / 18 % 3).toNat with
      | zero => intro z; have := congrArg List.length z; simp [nbL] at this
      | succ m => exact nb2 (by decide)
    · by_cases h3 : 0 < (x / 26 + (0 + (i : Nat))) % 6
      · rw [lawWord_3 h1 h2 i h3, append_cps, append_cps, cutS_to _ (by omega), ltr_cps (by omega) (by omega), lawTail_cps]
        obtain ⟨m, hm⟩ := Int.eq_ofNat_of_zero_le (show 0 ≤ (x + (0 + (i : Nat))) % 10 by omega)
        rw [hm, digit_cps m (by omega)]
        exact nb2 (by omega)
      · rw [lawWord_4 h1 h2 i h3, ltr_cps (by omega) (by omega)]
        intro z; have := congrArg List.length z; simp [nbL] at this
theorem special_nb : ∀ z ∈ lawSpecial, z.cps.toList ≠ nbL := by decide +kernel
theorem nobody_no (x : Int) : ("nobody" : Str) ∉ lawNames x := by
  have h0 : ∀ z ∈ lawNames0 x, z.cps.toList ≠ nbL := by
    intro z hz
    unfold lawNames0 at hz
    rw [List.mem_map] at hz
    obtain ⟨i, hi, rfl⟩ := hz
    exact lawWord_nb x (List.mem_range.mp hi)
  have h1 : ∀ z ∈ lawNames1 x, z.cps.toList ≠ nbL := by
    unfold lawNames1
    split
    · intro z hz
      rcases List.mem_or_eq_of_mem_set hz with h | rfl
      · exact h0 z h
      · exact special_nb _ (getD_mem (by show _ < 10; omega))
    · exact h0
  have h2 : ∀ z ∈ lawNames x, z.cps.toList ≠ nbL := by
    intro z hz
    unfold lawNames at hz
    split at hz
    · rw [List.mem_append] at hz
      rcases hz with h | h
      · exact h1 z (List.mem_of_mem_drop (List.mem_of_mem_take h))
      · exact h1 z (List.mem_of_mem_drop (List.mem_of_mem_take h))
    · exact h1 z hz
  intro h
  exact h2 _ h (by decide +kernel)
end DL

set_option Elab.async false
set_option linter.all false
set_option maxRecDepth 100000
set_option maxHeartbeats 4000000
namespace DL
open PySem L2 PyProof.Rows
variable {c : Cc} {η : Nm} {ρ ρ1 ρ2 : Rho} {a b e o : Expr} {es : List Expr} {pos p apos : Pos} {d d1 d2 : D} {ds : List D} {out : Out} {st : Stmt} {rest : List Stmt} {bs : List (List Stmt)} {x y : Str}
theorem pe_newx {X : Cx} {z : Str} {C fI : Addr} {k : Nat} {fd : FuncData} {t : TE} (xc : XCls X.K fI C) (tI : PySem.W.typeIn X.K (.ref fI) = some (.type "function")) (Fn : FnOk X.prog X.w X.K X.mg X.base CX0 k fI fd ["self", "at"] (spI X.K)) (hr : Room (k + 1) X.A)
    (hb : Binds X.K fd ["self", "at"] []) (hg : Gl X z) (hm : X.mg z = some (.ref C)) (ha : PE X e t) (hdb : (z == ("__debug__" : Str)) = false) (he : isStar e = false) :
    PE X (.Call (.Name z p) [e] [] pos) (fun σ H Q => t σ H fun v H1 => ∃ u, [v] = [u] ∧ ∀ a dx, H1 a = none → H1 dx = none → a ≠ dx → Q (.ref a) (upd (upd H1 dx (exd dx [("at", u)])) a (exo a C (some dx)))) := ⟨fun pins s σ H Q I h => by
  obtain ⟨nm, qn, nN, bs, bm, sn, sub, ab, col, dd, e0, e1, e2, e3, e5, lkC, ve⟩ := xc.T.cls
  refine wpAny_Call_Name_kw (ld_glob I hg hm ?_ hdb)
  have args := (pa_cons ha pa_nil (star_cons he X.env)).run pos pins s σ H (fun vs H1 => ∃ v, vs = [v] ∧ ∀ a dx, H1 a = none → H1 dx = none → a ≠ dx → Q (.ref a) (upd (upd H1 dx (exd dx [("at", v)])) a (exo a C (some dx)))) I h
  refine PySem.W.callWith_K (h₀ := X.base) I.ok.mod.kin xc.T.kC (thn args fun us s1 hh => ?_) (star_cons he X.env) (star_any (es := []) rfl pos X.env)
  obtain ⟨vs, H1, J, rl, v, rfl, qv⟩ := hh
  refine ⟨J.kIn, ?_⟩
  show wpAny (model X.prog X.w) X.A (call (.ref C) us) _ _ _
  obtain ⟨g0, gn, dw, tk, os⟩ := s1
  have up1 : g0.objs.size ≤ g0.objs.size + 1 := Nat.le_succ _
  have fr : H1 (g0.objs.size + 1) = none := J.hok.fresh up1
  have stay : ∀ b o, g0.get? b = some o → ((g0.push (PySem.W.kdv_tup us)).push (PySem.HandSPX.excO C g0.objs.size)).get? b = some o := fun b o e => Heap.get?_push_of_some _ (Heap.get?_push_of_some _ e)
  have self : ((g0.push (PySem.W.kdv_tup us)).push (PySem.HandSPX.excO C g0.objs.size)).get? (g0.objs.size + 1) = some (PySem.HandSPX.excO C g0.objs.size) := by heap_get
  have J2 : Inv X pins σ (upd H1 (g0.objs.size + 1) (exo (g0.objs.size + 1) C none)) ⟨(g0.push (PySem.W.kdv_tup us)).push (PySem.HandSPX.excO C g0.objs.size), gn, dw, tk, os⟩ :=
    J.laid (t' := tk) stay up1 (exo_ok self)
  have rel : Vals [V.ref (g0.objs.size + 1), v] (Value.ref (g0.objs.size + 1) :: us) := .cons rfl rl
  have two : us.length ≤ sizeLine := by
    have := Paired.length rl
    rw [sizeLine_eq, ← this]
    show 1 ≤ _
    decide
  have bd := hb ⟨(g0.push (PySem.W.kdv_tup us)).push (PySem.HandSPX.excO C g0.objs.size), gn, dw, tk, os⟩ (Value.ref (g0.objs.size + 1) :: us) J2.kIn (by rw [List.append_nil]; exact rel.length.symm)
  rw [List.append_nil] at bd
  have ask : spI X.K [V.ref (g0.objs.size + 1), v] (upd H1 (g0.objs.size + 1) (exo (g0.objs.size + 1) C none)) (fun u H2 => u = .non ∧ Q (.ref (g0.objs.size + 1)) H2) (fun _ _ _ => False) := by
    refine ⟨g0.objs.size + 1, C, v, rfl, xc.T, xc.at', upd_same, fun dx n ne => ?_⟩
    have n1 : H1 dx = none := by rw [upd_ne ne] at n; exact n
    refine ⟨rfl, ?_⟩
    have e : upd (upd (upd H1 (g0.objs.size + 1) (exo (g0.objs.size + 1) C none)) dx (exd dx [("at", v)])) (g0.objs.size + 1) (exo (g0.objs.size + 1) C (some dx)) = upd (upd H1 dx (exd dx [("at", v)])) (g0.objs.size + 1) (exo (g0.objs.size + 1) C (some dx)) := by
      funext b
      by_cases h2 : b = g0.objs.size + 1
      · subst h2; rw [upd_same, upd_same]
      · rw [upd_ne h2, upd_ne h2]
        by_cases h1 : b = dx
        · subst h1; rw [upd_same, upd_same]
        · rw [upd_ne h1, upd_ne h1, upd_ne h2]
    rw [e]
    exact qv (g0.objs.size + 1) dx fr n1 (fun z => ne z.symm)
  have go := Fn.run (X.A.under (.builtin "type.__call__" ⟨.ref C :: us, []⟩)) X.stack _ _ ⟨Value.ref (g0.objs.size + 1) :: us, []⟩ (Value.ref (g0.objs.size + 1) :: us) _ _ (fun _ _ _ => False) (hr.make C us []) (J2.env0.make C us []) bd rel ask
  refine wpAny_call (PySem.HandSPX.call_own F.excBase_ValueError (fun Y => PySem.HandSPX.refsVE_contains Y bm ve) (J.kIn _ _ lkC) (PySem.W.looks_findIn J.kIn xc.ini) (fun self => PySem.W.bind_fn J.kIn self tI) two (codeAny_mono go fun r s' hq => ?_))
  cases r with
  | error er => exact hq.elim
  | ok fl =>
    cases fl with
    | ret u =>
      obtain ⟨v2, H2, os2, bare2, un2, hok2, rv, rfl, q2⟩ := hq
      exact ⟨rv, .ref (g0.objs.size + 1), H2, J2.call' (ch := []) os2 un2 hok2 bare2 (fun b z => absurd z (by simp)), rfl, q2⟩
    | next => exact False.elim hq
    | brk => exact False.elim hq
    | cont => exact False.elim hq⟩
structure XF (K : PySem.W.Frag) (C : Addr) : Prop where
  ga : PySem.W.findIn K (.ref C) "__getattribute__" = some (some (.builtin "BaseException.__getattribute__"))
  gg : PySem.W.findIn K (.ref C) "__getattr__" = some none
  exC : PySem.W.subIn K (.ref C) (.type "BaseException") = some true
  hdC : PySem.W.hasDictIn K C = true
  at' : PySem.W.findIn K (.ref C) "at" = some none
def XFs (c : Cc) (xs : List Str) : Prop := ∀ x ∈ xs, ∀ C, c.mg x = some (.ref C) → XF c.K C
theorem pe_atx {X : Cx} {te : TE} (he : PE X e te) (hb : isCall0 e = false) :
    PE X (.Attribute e "at" pos) (fun σ H Q => te σ H fun x H1 => ∃ (a C dx : Addr) (v : V), x = .ref a ∧ XF X.K C ∧ H1 a = some (exo a C (some dx)) ∧ H1 dx = some (exd dx [("at", v)]) ∧ Q v H1) := ⟨fun pins s σ H Q I h => by
  refine attr_of (base_no hb _ _ _) (thn (he.run pins s σ H _ I h) fun u s1 hh => ?_)
  obtain ⟨x, H1, I1, rx, a, C, dx, v, rfl, T, ea, ed, q⟩ := hh
  obtain rfl : u = Value.ref a := rx
  obtain ⟨t1, ha⟩ := exo_at I1.hok ea
  obtain ⟨mA, hns, hr⟩ := exd_at I1.hok ed
  obtain ⟨od, ho, hl⟩ := lookIn_ns hns
  obtain ⟨u, hu, ru⟩ := RelO.some_of (v := v) (o := mA "at") (hr "at")
  have J : PySem.W.InstAt s1.heap a _ C (some od) := ⟨ha, rfl, rfl, ho⟩
  exact HandSPX.exc_get I1.kIn J T.ga T.gg T.exC (PySem.W.findObj_own T.hdC T.at' rfl (by rw [hl, hu])) (handed_of ru) ⟨v, H1, I1.tok _, ru, q⟩⟩
structure EDx (c : Cc) (η : Nm) (e : Expr) (ρ : Rho) (P : D → Prop) : Prop where
  run : ∀ F0 H0 σ F H, Stt c.K F0 H0 ρ σ F H → ∀ Q : VK, (∀ v d F' H', P d → Grow F H F' H' → Rep c.K F' v d → Q v H') → WE c η e σ H Q
structure EAx (c : Cc) (η : Nm) (es : List Expr) (ρ : Rho) (P : List D → Prop) : Prop where
  run : ∀ F0 H0 σ F H, Stt c.K F0 H0 ρ σ F H → ∀ Q : List V → Hp → Prop, (∀ vs ds F' H', P ds → Grow F H F' H' → RepL c.K F' vs ds → Q vs H') → WA c η es σ H Q
def isX (c : Cc) (xs : List Str) (d : D) (x : D) : Prop := ∃ (a C : Addr) (z : Str), z ∈ xs ∧ c.mg z = some (.ref C) ∧ x = .exc a C d
theorem edx_new {j : Nat} {z : Str} {xs : List Str} {q : Pos} (T : XTab c j xs) (hz : z ∈ xs) (he : ED c η e ρ d) (hj : j + 1 ≤ c.k) (hg : glB η.sc z = true := by decide +kernel) (hdb : (z == ("__debug__" : Str)) = false := by decide) (hs : isStar e = false := by rfl) :
    EDx c η (.Call (.Name z p) [e] [] q) ρ (isX c xs d) := ⟨fun F0 H0 σ F H S Q k => by
  obtain ⟨fI, fd, Fn, tI, bd, hx⟩ := T.ex
  obtain ⟨C, hm, xc⟩ := hx z hz
  refine WE.of (t := fun σ H Q => WE c η e σ H fun v H1 => ∃ u, [v] = [u] ∧ ∀ a dx, H1 a = none → H1 dx = none → a ≠ dx → Q (.ref a) (upd (upd H1 dx (exd dx [("at", u)])) a (exo a C (some dx)))) (fun X hX => ?_) ?_
  · obtain ⟨h1, h2, h3, h4, h5, _⟩ := id hX
    exact pe_newx (k := j) (fI := fI) (fd := fd) (C := C) (by rw [h3]; exact xc) (by rw [h3]; exact tI) (by rw [h1, h2, h3, h4, h5]; exact Fn) (hX.room.mono hj) (by rw [h3]; exact bd) (gl_of hX hg) (by rw [h4]; exact hm) (WE.pe hX) hdb hs
  · refine he.run F0 H0 σ F H S _ fun v F1 H1 g r => ⟨v, rfl, fun a dx na nd ne => ?_⟩
    have g2 : Grow F1 H1 (upd F1 dx (exd dx [("at", v)])) (upd H1 dx (exd dx [("at", v)])) := .new g.fh nd
    have na2 : upd H1 dx (exd dx [("at", v)]) a = none := by rw [upd_ne ne]; exact na
    have g3 : Grow (upd F1 dx (exd dx [("at", v)])) (upd H1 dx (exd dx [("at", v)])) (upd (upd F1 dx (exd dx [("at", v)])) a (exo a C (some dx))) (upd (upd H1 dx (exd dx [("at", v)])) a (exo a C (some dx))) := .new g2.fh na2
    refine k (.ref a) (.exc a C d) _ _ ⟨a, C, z, hz, hm, rfl⟩ (g.trans (g2.trans g3)) (.exc (dx := dx) (v := v) upd_same ?_ ((r.mono g2.f).mono g3.f))
    rw [upd_ne (fun q => ne q.symm), upd_same]⟩
theorem edx_of (h : ED c η e ρ d) {P : D → Prop} (hp : P d) : EDx c η e ρ P := ⟨fun F0 H0 σ F H S Q q => h.run F0 H0 σ F H S Q fun v F' H' g r => q v d F' H' hp g r⟩
theorem ed_atx {xs : List Str} (T : XFs c xs) (h : EDx c η e ρ (isX c xs d)) (hb : isCall0 e = false := by rfl) : ED c η (.Attribute e "at" pos) ρ d := ⟨fun F0 H0 σ F H S Q q => by
  refine WE.of (t := fun σ H Q => WE c η e σ H fun x H1 => ∃ (a C dx : Addr) (v : V), x = .ref a ∧ XF c.K C ∧ H1 a = some (exo a C (some dx)) ∧ H1 dx = some (exd dx [("at", v)]) ∧ Q v H1) (fun X hX => ?_) ?_
  · have := pe_atx (pos := pos) (WE.pe (e := e) hX) hb
    rw [hX.K] at this
    exact this
  · refine h.run F0 H0 σ F H S _ fun v d' F1 H1 hp g r => ?_
    obtain ⟨a, C, z, hz, hm, rfl⟩ := hp
    cases r with
    | exc h1 h2 r => exact ⟨a, C, _, _, rfl, T z hz C hm, g.fh _ _ h1, g.fh _ _ h2, q _ F1 H1 g r⟩⟩
theorem eax_nil : EAx c η [] ρ (fun ds => ds = []) := ⟨fun F0 H0 σ F H S Q q => (ea_nil (c := c) (η := η) (ρ := ρ)).run F0 H0 σ F H S Q fun vs F' H' g r => q vs [] F' H' rfl g r⟩
theorem eax_cons {P : D → Prop} {n : Nat} (h : EDx c η e ρ P) (hr : EAx c η es ρ (fun ds => ds.length = n ∧ ∀ x ∈ ds, P x)) (hs : isStar e = false := by rfl) : EAx c η (e :: es) ρ (fun ds => ds.length = n + 1 ∧ ∀ x ∈ ds, P x) := ⟨fun F0 H0 σ F H S Q q =>
  WA.of (t := tCons (WE c η e) (WA c η es)) (fun X hX => pa_cons (WE.pe hX) (WA.pa hX) (star_cons hs X.env)) (h.run F0 H0 σ F H S _ fun v d F1 H1 hp g r =>
    hr.run F0 H0 σ F1 H1 (S.grow g) _ fun vs ds F2 H2 hps g2 rs => q (v :: vs) (d :: ds) F2 H2 ⟨by rw [List.length_cons, hps.1], fun x hx => by
      rcases List.mem_cons.mp hx with rfl | hx
      · exact hp
      · exact hps.2 x hx⟩ (g.trans g2) (.cons (r.mono g2.f) rs))⟩
theorem eax_end {P : D → Prop} : EAx c η [] ρ (fun ds => ds.length = 0 ∧ ∀ x ∈ ds, P x) := ⟨fun F0 H0 σ F H S Q q => eax_nil.run F0 H0 σ F H S Q fun vs ds F' H' hp g r => q vs ds F' H' (by subst hp; exact ⟨rfl, fun x hx => by cases hx⟩) g r⟩
theorem s1_setX (i : Nat) {P : D → Prop} {n : Nat} (h : EAx c η es ρ (fun ds => ds.length = n ∧ ∀ x ∈ ds, P x)) (hl : n ≤ 1000) (hN : η.N.Nodup) (hi : η.N[i]? = some x := by rfl) (hx : stoB η x = true := by decide +kernel) (hρ : i < ρ.length := by first | decide | (simp [rho]; done)) :
    S1 c η (.Assign [.Name x p] (.List es apos) pos) ρ (.ex fun ρ' => ∃ ds, (ds.length = n ∧ ∀ d ∈ ds, P d) ∧ ρ' = ρ.set i (.va (.lst ds))) := ⟨fun F0 H0 σ F H S E q =>
  WS.of (t := tAsg (WE c η (.List es apos)) (gName i)) (fun X hX => ps_set (by rw [hX.N]; exact hN) (by rw [hX.N]; exact hi) (by rw [hX.sc]; exact loc_of hx) (WE.pe hX) (swap_no rfl _ _ X.env) (fn_of' hX hx))
    (WE.of (fun X hX => pe_lst (WA.pa hX)) (h.run F0 H0 σ F H S _ fun vs ds F1 H1 hp g r => ⟨by rw [r.length, hp.1]; exact len_line (by omega), fun a ha => by
      have g2 : Grow F1 H1 (upd F1 a (.lst vs)) (upd H1 a (.lst vs)) := .new g.fh ha
      exact q _ _ _ _ ⟨ds, hp, rfl⟩ ((S.grow (g.trans g2)).set_va hρ (.lst upd_same (r.mono g2.f)))⟩))⟩
end DL
namespace DL
open PySem L2 PyProof.Rows
theorem ed_call0 {c : Cc} {η : Nm} {ρ : Rho} {pos p : Pos} {d : D} {j : Nat} {x : Str} {R : List D → D → Prop} (cl : Call c j x (spP c.K R)) (hj : j ≤ c.k) (hr : R [] d) (hg : glB η.sc x = true := by decide +kernel) (hdb : (x == ("__debug__" : Str)) = false := by decide) :
    ED c η (.Call (.Name x p) [] [] pos) ρ d := ⟨fun F0 H0 σ F H S Q q => by
  obtain ⟨f, fd, ps, Fn, hm, kp, bd⟩ := cl.ex
  refine WE.of (t := fun σ H Q => spP c.K R ([] ++ []) H Q E0) (fun X hX => ?_) ⟨F, [], d, S.fh, .nil, hr, fun v F' H' g' r' => q v F' H' g' r'⟩
  obtain ⟨h1, h2, h3, h4, h5, _⟩ := id hX
  exact pe_call0 (by rw [h1, h2, h3, h4, h5]; exact Fn) (hX.room.mono hj) (gl_of hX hg) (by rw [h4]; exact hm) (by rw [h3]; exact kp) (by rw [h3]; exact bd) .nil pass0 hdb⟩
end DL

set_option Elab.async false
set_option linter.all false
set_option maxRecDepth 100000
set_option maxHeartbeats 3200000
namespace SD
open PySem PySem.Spec PyProof.Rows
def cntS (xs : List Str) : Nat → Nat
  | 0 => 0
  | i + 1 => if (xs.take i).any (· == xs.getD i Str.empty) = true then cntS xs i else cntS xs i + 1
theorem cntS_le (xs : List Str) : ∀ i, cntS xs i ≤ i
  | 0 => Nat.le_refl _
  | i + 1 => by
    have := cntS_le xs i
    unfold cntS
    split <;> omega
section
variable {prog : Program} {w : World} {A : Around} {R : Result → Shared → Prop} {I : Addr} {fp wr : List Addr} {G : Array GenState → Array GenState → Prop} {n : Nat} {P : Nat → Value → Prop} {St : Nat → Shared → Prop}
theorem loopStrD (W : WalksS prog w A.in1 I fp wr G n P St) (S : Addr) (hSf : S ∉ fp) (xs : List Str) (hsz : xs.length = n) (hn2 : n < 1000)
    (hval : ∀ i v, P i v → ∃ t, v = .str (xs.getD i Str.empty) t) :
    ∀ (k i : Nat) (s : Shared), n - i = k → i ≤ n → St i s →
      s.heap.SetOf (PySem.strKind prog w) S (fun k' => (xs.take i).any (· == k')) (cntS xs i) →
      (∀ s', Moved (S :: wr) G s s' → s'.heap.SetOf (PySem.strKind prog w) S (fun k' => (xs.take n).any (· == k')) (cntS xs n) → R (.ok (.ret .none)) s') →
      codeAny (model prog w) A (.builtin "set.update.loop" ⟨[.ref S, .ref I], []⟩) R s := by
  have hSw : S ∉ wr := fun h => hSf (W.sub _ h)
  have hsub : ∀ b ∈ wr, b ∈ S :: wr := fun b hb => List.mem_cons_of_mem _ hb
  intro k
  induction k with
  | zero =>
    intro i s hk hi hst hS hR
    have hin : i = n := by omega
    subst hin
    refine codeAny_builtin PyProof.Rows.F.entry_set_update_loop ?_
    rw [Around.under_plainId PyProof.Rows.F.plain_set_update_loop _]
    show wpAny _ A.in1 (pyNext (.ref I) >>= _) _ _ s
    refine wpAny_bind (W.done s _ _ hst fun s' hm => ?_)
    show wpAny _ A.in1 (ret Value.none) _ _ s'
    exact wpAny_pure (hR s' (hm.mono hsub) (by
      obtain ⟨o, es, ep, t, ho, rest⟩ := hS
      exact ⟨o, es, ep, t, hm.heap S _ hSw ho, rest⟩))
  | succ k ih =>
    intro i s hk hi hst hS hR
    have hlt : i < n := by omega
    refine codeAny_builtin PyProof.Rows.F.entry_set_update_loop ?_
    rw [Around.under_plainId PyProof.Rows.F.plain_set_update_loop _]
    show wpAny _ A.in1 (pyNext (.ref I) >>= _) _ _ s
    refine wpAny_bind (W.item i s _ _ hlt hst fun v s' hP hst' hm => ?_)
    obtain ⟨t, rfl⟩ := hval i v hP
    have hS' : s'.heap.SetOf (PySem.strKind prog w) S (fun k' => (xs.take i).any (· == k')) (cntS xs i) := by
      obtain ⟨o, es, ep, tb, ho, rest⟩ := hS
      exact ⟨o, es, ep, tb, hm.heap S _ hSw ho, rest⟩
    show wpAny _ A.in1 (holding [Value.str (xs.getD i Str.empty) t] (setAdd S (.str (xs.getD i Str.empty) t)) >>= _) _ _ s'
    refine wpAny_bind (wpAny_holding ?_)
    unfold setAdd
    refine wpAny_holding ?_
    refine wpAny_bind ((PySem.strKind prog w).pyHash (k := xs.getD i Str.empty) (strKind_is _ _ _ _) ?_)
    have hle := cntS_le xs i
    refine wpAny_setAddHashed_of (knd := PySem.strKind prog w) (s := { s' with toks := s'.toks + 1 }) (strKind_is _ _ _ _) rfl hS' (by unfold scanBound; omega) fun h' hsb hS2 => ?_
    have hSi : h'.SetOf (PySem.strKind prog w) S (fun k' => (xs.take (i + 1)).any (· == k')) (cntS xs (i + 1)) := by
      refine SetOf_congr hS2 (fun k' => ?_) rfl
      rw [List.take_add_one, List.any_append, List.getElem?_eq_getElem (show i < xs.length by omega), List.getD_eq_getElem?_getD, List.getElem?_eq_getElem (show i < xs.length by omega)]
      show _ = (_ || [xs[i]'(by omega)].any (· == k'))
      congr 1
      show decide (k' = xs[i]'(by omega)) = ([xs[i]'(by omega)].any (· == k'))
      rw [List.any_cons, List.any_nil, Bool.or_false]
      by_cases e : k' = xs[i]'(by omega)
      · rw [decide_eq_true e, ← e]; exact (beq_self_eq_true k').symm
      · rw [decide_eq_false e]; exact (beq_eq_false_iff_ne.mpr fun h => e h.symm).symm
    refine wpAny_pure ⟨plainId_quiet PyProof.Rows.F.plain_set_update_loop _, ih (i + 1) _ (by omega) hlt (W.frame _ s' _ _ hst' (Nat.le_succ _) fun b hb o e => ?_) hSi fun s'' hm'' hS'' => ?_⟩
    · rw [hsb.2 b (fun h : b = S => hSf (by rw [← h]; exact hb))]; exact e
    · refine hR s'' (Moved.trans W.gtrans ((hm.mono hsub).then_heap (Nat.le_succ _) fun b o hb e => ?_) hm'') hS''
      rw [hsb.2 b (fun h : b = S => hb (by rw [h]; exact List.mem_cons_self))]; exact e
end

section
variable {prog : Program} {w : World} {A : Around} {E : Value → Shared → Prop} {s : Shared}
set_option maxHeartbeats 3200000 in
theorem call_set_listSD {l : Addr} {items : Array Value} {xs : List Str} {Q : Value → Shared → Prop}
    (hh : A.handled = none) (hl : s.heap.IsList l items) (hi : PyProof.Rows.StrsAre items.toList xs) (hn2 : xs.length < 1000)
    (h : ∀ (h' : Heap) (tk : Nat), h'.SetOf (PySem.strKind prog w) s.heap.objs.size (fun k' => (xs.take items.size).any (· == k')) (cntS xs items.size) →
      (∀ b o, b < s.heap.objs.size → s.heap.get? b = some o → h'.get? b = some o) → Q (.ref s.heap.objs.size) { s with heap := h', toks := tk }) :
    wpAny (model prog w) A (call (.type "set") [.ref l]) Q E s := by
  obtain ⟨c, tl, hmro⟩ := PySem.F.called_set.mro
  have hmade := PySem.F.called_set.made
  have hsub := PySem.F.called_set.sub
  refine wpAny_call (codeAny_of_tree ?_)
  show wpAny _ _ (callAny (.type "set") _) _ _ _
  refine wpAny_pure ⟨Code.quiet_builtin _ (by decide +kernel), codeAny_builtin PySem.F.entry_type_call ?_⟩
  rw [Around.under_plain (weight_type_call_type "set" [.ref l] []) rfl]
  have h1 := PySem.F.called_set.notType
  have h2 := PySem.F.called_set.canCreate
  have hct := PySem.F.typeCall_set_1 (.ref l)
  repeat (any_goals (first | assumption | wp_step))

  refine codeAny_mono (code_set_new_1 (.ref l) (E := E) (Q₁ := fun obj s₁ => ∃ led : Bool, obj = .ref s.heap.objs.size ∧ s₁ = { s with heap := s.heap.push { cls := .type "set", dict := none, data := .set #[] 0 (.fresh 0 0 led) } }) fun led => ⟨led, rfl, rfl⟩) fun r s₁ hr => ?_
  cases r with
  | error e => exact hr
  | ok fl =>
    cases fl with
    | ret obj =>
      obtain ⟨led, rfl, rfl⟩ := hr
      have hS : (s.heap.push { cls := .type "set", dict := none, data := .set #[] 0 (.fresh 0 0 led) }).get? s.heap.objs.size = some { cls := .type "set", dict := none, data := .set #[] 0 (.fresh 0 0 led) } := Heap.get?_push_size _ rfl
      have hT : Shared.TypeIs { s with heap := s.heap.push { cls := .type "set", dict := none, data := .set #[] 0 (.fresh 0 0 led) } } (.ref s.heap.objs.size) "set" := ⟨_, hS, rfl⟩
      have hli := PySem.F.called_set.init.lookup
      have hbi := PySem.F.called_set.init.bind (.ref s.heap.objs.size)
      repeat (any_goals (first | assumption | wp_step))

      refine codeAny_mono (codeAny_call_builtin (R := wants (fun r s₂ => r = .none ∧ ∃ h' tk, s₂ = { s with heap := h', toks := tk } ∧
          h'.SetOf (PySem.strKind prog w) s.heap.objs.size (fun k' => (xs.take items.size).any (· == k')) (cntS xs items.size) ∧
          (∀ b o, b < s.heap.objs.size → s.heap.get? b = some o → h'.get? b = some o)) E) PySem.F.called_set.init.plain PySem.F.entry_set_init (check_set_init_1 hT ?_)) fun r₂ s₂ hr₂ => ?_
      · obtain ⟨ol, hol, hcl, nl, hdl⟩ := hl
        obtain ⟨ocls, odict, odata, oslots⟩ := ol
        simp only at hcl hdl
        subst hcl; subst hdl
        have hol' : (s.heap.push { cls := .type "set", dict := none, data := .set #[] 0 (.fresh 0 0 led) }).get? l = some { cls := .type "list", dict := odict, data := .seq items nl, slots := oslots } := Heap.get?_push_of_some _ hol
        have hsls := PySem.F.sub_list_set
        have hslf := PySem.F.sub_list_frozenset
        have hne : (Value.type "list" == Value.type "dict") = false := by decide
        have hl1 : (s.heap.push { cls := .type "set", dict := none, data := .set #[] 0 (.fresh 0 0 led) }).IsList l items := ⟨_, hol', rfl, nl, rfl⟩
        unfold Builtin.«set.__init__» noKeywords Builtin.Frozenset.updateFrom
        generalize hPI : pyIter = PI
        wp_walk
        subst hPI

        refine wpAny_pyIter_list hl1 ?_
        refine wpAny_bind (wpAny_runValue ?_)
        have hlS : l < s.heap.objs.size := Heap.lt_size hol
        have hh3 : A.in1.in1.in1.handled = none := by simp [hh]
        have hneI : l ≠ (s.heap.push { cls := .type "set", dict := none, data := .set #[] 0 (.fresh 0 0 led) }).objs.size := by
          rw [Heap.size_push]; exact Nat.ne_of_lt (Nat.lt_succ_of_lt hlS)
        have hSf : s.heap.objs.size ∉ [(s.heap.push { cls := .type "set", dict := none, data := .set #[] 0 (.fresh 0 0 led) }).objs.size, l] := by
          rw [Heap.size_push]; simp only [List.mem_cons, List.mem_singleton, List.not_mem_nil, or_false, not_or]
          exact ⟨Nat.ne_of_lt (Nat.lt_succ_self _), Nat.ne_of_gt hlS⟩
        have hsz : xs.length = items.size := by rw [← StrsAre.len_eq hi, Array.length_toList]
        have hval : ∀ (i : Nat) (v : Value), items[i]? = some v → ∃ t, v = .str (xs.getD i Str.empty) t := fun i v hv => SS.strs_at hi i v (by rw [Array.getElem?_toList]; exact hv)
        refine loopStrD ((Walks.list hh3 _ l hneI items).toS) s.heap.objs.size
          hSf xs hsz (by rw [← hsz]; exact hn2) hval (items.size - 0) 0 _ (by omega) (Nat.zero_le _)
          ⟨⟨_, Heap.get?_push_size _ rfl, rfl, rfl⟩, (hl1.push _)⟩ ?hS0 ?hR
        case hS0 =>
          have hget : ((s.heap.push { cls := .type "set", dict := none, data := .set #[] 0 (.fresh 0 0 led) }).push { cls := .type "list_iterator", data := .fields #[.ref l, .int 0 0] }).get? s.heap.objs.size
              = some { cls := .type "set", dict := none, data := .set #[] 0 (.fresh 0 0 led) } := Heap.get?_push_of_some _ hS
          exact PyProof.Rows.SetOf_congr ((PyProof.Rows.setObjOf_fresh (knd := PySem.strKind prog w) led).setOf hget (by unfold scanBound; omega)) (fun _ => rfl) rfl
        case hR =>
          intro s' hm hS'
          obtain ⟨h', g', d', tk', os'⟩ := s'
          have eg : g' = s.gens := hm.gens
          have ed : d' = s.drawn := hm.drawn
          have eo : os' = s.os := hm.os
          subst eg; subst ed; subst eo
          show wpAny _ _ _ _ _ _
          refine wpAny_pure ?_
          show wpAny _ _ (ret Value.none) _ _ _
          refine wpAny_pure ⟨rfl, h', tk', rfl, hS', fun b o hb e => ?_⟩
          have hb1 : b ≠ s.heap.objs.size := Nat.ne_of_lt hb
          have hb2 : b ≠ (s.heap.push { cls := .type "set", dict := none, data := .set #[] 0 (.fresh 0 0 led) }).objs.size := by
            rw [Heap.size_push]; exact Nat.ne_of_lt (Nat.lt_succ_of_lt hb)
          exact hm.heap b o (by simp only [List.mem_cons, List.mem_singleton, List.not_mem_nil, or_false, not_or]; exact ⟨hb1, hb2⟩) (Heap.get?_push_of_some _ (Heap.get?_push_of_some _ e))

      · cases r₂ with
        | error e => exact hr₂
        | ok fl₂ =>
          cases fl₂ with
          | ret r =>
            obtain ⟨rfl, h', tk, rfl, hS', hk'⟩ := hr₂
            repeat (any_goals (first | assumption | wp_step))
            exact h _ _ hS' hk'
          | _ => exact hr₂.elim
    | _ => exact hr.elim
end
end SD
namespace L2
open PySem PySem.Spec PyProof.Rows
section
variable {X : Cx}
def tLenSetD (K : PySem.W.Frag) (ta : TE) : TE := fun σ H Q => ta σ H fun x H1 => ∃ l, ∃ xs : List Str, x = .ref l ∧ SqL K H1 l (xs.map V.str) ∧ xs.length < 1000 ∧ Q (.int (SD.cntS xs xs.length : Nat)) H1
theorem pe_lenSetD {a : Expr} {ta : TE} {p p2 q pos : Pos} (hc : X.calm = true) (hg : Gl X "len") (hm : X.mg "len" = none) (hg2 : Gl X "set") (hm2 : X.mg "set" = none) (ha : PE X a ta)
    (na : starEach [a] X.env = (false, eval a X.env) :: starEach [] X.env := by rfl) : PE X (.Call (.Name "len" p) [.Call (.Name "set" p2) [a] [] q] [] pos) (tLenSetD X.K ta) := by
  refine ⟨fun pins s σ H Q I h => ?_⟩
  refine Call_ (ld_blt I hg hm boot_len ?_)
  refine PyProof.Rows.callWith_builtin1 (PyProof.Rows.args_cons ?_ rfl) rfl rfl
  refine Call_ (ld_blt I hg2 hm2 boot_set ?_)
  refine PyProof.Rows.callWith_type1 (PyProof.Rows.args_cons (thn (ha.run pins s σ H _ I h) fun v s1 ⟨x, H1, I1, r1, q1⟩ => PyProof.Rows.args_nil ?_) na) na rfl
  obtain ⟨l, xs, rfl, hq, h2, q1⟩ := q1
  cases r1
  have fin : ∀ (its : List Value), Vals (xs.map V.str) its → ∀ (h' : Heap) (tk : Nat), h'.SetOf (PySem.strKind X.prog X.w) s1.heap.objs.size (fun k' => (xs.take its.toArray.size).any (· == k')) (SD.cntS xs its.toArray.size) →
      (∀ b o, b < s1.heap.objs.size → s1.heap.get? b = some o → h'.get? b = some o) →
      wpAny (model X.prog X.w) X.A (spliced (backTo pos (starEach [] X.env))) (fun vs s₂ => wpAny (model X.prog X.w) X.A (call (.builtin "len") (Value.ref s1.heap.objs.size :: vs)) (EP X pins σ Q) X.xe s₂) X.xe { s1 with heap := h', toks := tk } := fun its r h' tk hS hk => by
    refine PyProof.Rows.args_nil ?_
    have hl : its.toArray.size = xs.length := by rw [List.size_toArray, ← r.length, List.length_map]
    rw [hl] at hS
    obtain ⟨o, es, ep, t, ho, hex, hd, _, _, _, hf, hn⟩ := hS
    have I2 : Inv X pins σ H1 { s1 with heap := h', toks := tk } := I1.kept fun b o e => hk b o (Heap.lt_size e) e
    refine call_len_set ho hex hd hf (by rw [hn]; have := SD.cntS_le xs xs.length; omega) ⟨.int (SD.cntS xs xs.length : Nat), H1, I2.tok _, ⟨_, by rw [hn]⟩, q1⟩
  obtain ⟨its, r, pl, hz⟩ := I1.list hq
  exact SD.call_set_listSD (I1.ok.hd hc) pl.isList (by simpa using L2.strsAre_of r) h2 fun h' tk hS hk => fin its r h' tk hS hk
end
end L2

set_option Elab.async false
set_option linter.all false
set_option maxRecDepth 100000
set_option maxHeartbeats 4000000
namespace DL
open PySem L2
def isBlk : D → Bool
  | .tup [x, y] => isNameD x && isLstB y
  | _ => false
theorem isBlk_ntup {d : D} (h : isTupB d = false) : isBlk d = false := by cases d <;> first | rfl | cases h
theorem isBlk_len : ∀ {xs : List D}, ¬ xs.length = 2 → isBlk (.tup xs) = false
  | [], _ => rfl
  | [_], _ => rfl
  | [_, _], h => absurd rfl h
  | _ :: _ :: _ :: _, _ => rfl
def R_xblock3 (ds : List D) (r : Xr) : Prop := ∃ b, ds = [b] ∧ b.fine ∧ r = if isBlk b = true then .ok .non else .xc "BadProgram" .non
inductive PrR : D → Xr → Prop
  | nlst {d : D} : isLstB d = false → PrR d (.xc "BadProgram" .non)
  | len {xs : List D} : ¬ (1 ≤ xs.length ∧ xs.length ≤ 12) → PrR (.lst xs) (.xc "BadProgram" .non)
  | blk {xs : List D} {i : Nat} {b : D} : 1 ≤ xs.length ∧ xs.length ≤ 12 → xs[i]? = some b → isBlk b = false → (∀ j b', j < i → xs[j]? = some b' → isBlk b' = true) → PrR (.lst xs) (.xc "BadProgram" .non)
  | two {bs : List (Str × List D)} : 1 ≤ bs.length → bs.length ≤ 12 → (∀ b ∈ bs, isNameS b.1 = true) → SD.cntS (bs.map (·.1)) bs.length < bs.length → PrR (.lst (blksD bs)) (.xc "BadName" .non)
  | ok {bs : List (Str × List D)} : CkBs bs → PrR (.lst (blksD bs)) (ckBlocks (bs.map (·.1)) bs).xr
def R_xchecked3 (ds : List D) (r : Xr) : Prop := ∃ d, ds = [d] ∧ d.fine ∧ PrR d r
section
variable {c : Cc} {η : Nm} {ρ : Rho} {a b e o : Expr} {pos p p2 q : Pos} {d : D}
theorem ed_lenSetD {ns : List Str} (hm : c.mg "len" = none) (hm2 : c.mg "set" = none) (hl : ns.length < 1000) (ha : ED c η a ρ (.lst (ns.map .str))) (hg : glB η.sc "len" = true := by decide +kernel) (hg2 : glB η.sc "set" = true := by decide +kernel)
    (he : isStar a = false := by rfl) : ED c η (.Call (.Name "len" p) [.Call (.Name "set" p2) [a] [] q] [] pos) ρ (.int (SD.cntS ns ns.length : Nat)) := ⟨fun F0 H0 σ F H S Q k =>
  WE.of (t := tLenSetD c.K (WE c η a)) (fun X hX => by rw [← hX.K]; exact pe_lenSetD hX.calm (gl_of hX hg) (by rw [hX.mg]; exact hm) (gl_of hX hg2) (by rw [hX.mg]; exact hm2) (WE.pe hX) (star_cons he X.env)) (ha.run F0 H0 σ F H S _ fun v F1 H1 g1 r1 => by
    cases r1 with
    | lst hf r =>
      have e := RepL.strs_inv r
      subst e
      exact ⟨_, ns, rfl, SqL.of (g1.fh _ _ hf), hl, k _ F1 H1 g1 (.int _)⟩)⟩
end
end DL

set_option Elab.async false
set_option linter.all false
set_option maxRecDepth 100000
set_option maxHeartbeats 4000000
namespace DL
open PySem L2
def askD : D := .tup [.str "=", .int 0, .int 0]
def badRows_0 : List D := [.non, .int 7, .str "swap", .lst [], .tup [], .tup [.str "swap"], .tup [.str "swap", .str "a"], .tup [.str "swap", .str "a", .str "b", .str "c"], .lst [.str "swap", .str "a", .str "b"]]
def badRowsA_0 : List D := badRows_0
def badRows_1 : List D := [.tup [.str "go", .str "a"]]
def badRowsA_1 : List D := badRowsA_0 ++ badRows_1
def badRows_2 : List D := [.tup [.str "Put", .str "a", .str "+", .tup [.int 1]], .tup [.str "put", .str "a", .str "+"], .tup [.str "put", .str "a", .str "*", .tup [.int 1]], .tup [.str "put", .str "a", .int 1, .tup [.int 1]]]
def badRowsA_2 : List D := badRowsA_1 ++ badRows_2
def badRows_3 : List D := [.tup [.str "put", .str "a", .str "+", .int 1], .tup [.str "put", .str "a", .str "+", .tup []], .tup [.str "put", .str "a", .str "+", .lst [.int 1]], .tup [.str "put", .str "a", .str "+", .tup [.str "+", .int 1]]]
def badRowsA_3 : List D := badRowsA_2 ++ badRows_3
def badRows_4 : List D := [.tup [.str "put", .str "a", .str "+", .tup [.str "**", .str "b", .int 1]], .tup [.str "put", .str "a", .str "+", .tup [.non, .str "b", .int 1]], .tup [.str "put", .str "a", .lst [.str "+"], .tup [.int 1]]]
def badRowsA_4 : List D := badRowsA_3 ++ badRows_4
def badRows_5 : List D := [.tup [.str "put", .str "a", .str "+", .tup [.lst [.str "+"], .str "b", .int 1]], .tup [.str "if", askD, .lst [], .lst []], .tup [.str "if", .tup [.str "=", .int 1], .lst [], .lst [], askD]]
def badRowsA_5 : List D := badRowsA_4 ++ badRows_5
def badRows_6 : List D := [.tup [.str "if", .tup [.str "+", .int 1, .int 1], .lst [], .lst [], askD], .tup [.str "if", askD, .tup [], .lst [], askD], .tup [.str "if", askD, .lst [], .non, askD]]
def badRowsA_6 : List D := badRowsA_5 ++ badRows_6
def badRows_7 : List D := [.tup [.str "round", askD, .lst [], .lst [], .str "="], .tup [.lst [], .str "a", .str "b"], .tup [.dic [], .str "a"], .tup [.non, .str "a", .str "b"], .tup [.lst [.str "push"], .str "a"]]
def badRowsA_7 : List D := badRowsA_6 ++ badRows_7
def badRows_8 : List D := [.tup [.str "round", askD, .lst [], .lst [], .tup [.str "=", .int 1, .int 1, .int 1]], .tup [.str "push", .str "a", .str "b"], .tup [.str "call", .str "a", .str "b"]]
def badRowsA_8 : List D := badRowsA_7 ++ badRows_8
def badRows : List D := badRowsA_8
def badNames_0 : List D := [.tup [.str "swap", .str "", .str "a"], .tup [.str "swap", .str "a", .str "abcdefg"], .tup [.str "push", .str "if"], .tup [.str "pull", .str "1a"], .tup [.str "put", .str "A", .str "+", .tup [.int 1]]]
def badNamesA_0 : List D := badNames_0
def badNames_1 : List D := [.tup [.str "put", .str "a", .str "+", .tup [.str "else"]], .tup [.str "put", .str "a", .str "+", .tup [.str "<", .str "b", .str "c-d"]], .tup [.str "call", .str "nobody"], .tup [.str "undo", .int 5]]
def badNamesA_1 : List D := badNamesA_0 ++ badNames_1
def badNames_2 : List D := [.tup [.str "call", .lst [.str "x"]], .tup [.str "if", .tup [.str "=", .str "", .int 1], .lst [], .lst [], askD], .tup [.str "if", askD, .lst [], .lst [], .tup [.str "=", .int 1, .str "b "]]]
def badNamesA_2 : List D := badNamesA_1 ++ badNames_2
def badNames_3 : List D := [.tup [.str "push", .non], .tup [.str "put", .int 5, .str "+", .tup [.int 1]], .tup [.str "swap", .str "a", .bl true], .tup [.str "undo", .dic []], .tup [.str "pull", .lst [.str "a"]]]
def badNamesA_3 : List D := badNamesA_2 ++ badNames_3
def badNames : List D := badNamesA_3
def badTwice_0 : List D := [.tup [.tup [.str "put", .str "A", .str "*", .tup [.int (-1)]], .str "name"], .tup [.tup [.str "put", .str "a", .str "*", .tup [.str "a"]], .str "row"], .tup [.tup [.str "swap", .str "A", .int 5], .str "name"]]
def badTwiceA_0 : List D := badTwice_0
def badTwice_1 : List D := [.tup [.tup [.str "put", .str "a", .str "+", .tup [.str "+", .int (-1), .str "a"]], .str "number"], .tup [.tup [.str "put", .str "a", .str "+", .tup [.str "+", .str "a", .non]], .str "number"]]
def badTwiceA_1 : List D := badTwiceA_0 ++ badTwice_1
def badTwice_2 : List D := [.tup [.tup [.str "if", .tup [.str "=", .str "A", .int 1], .tup [], .lst [], askD], .str "name"], .tup [.tup [.str "if", askD, .tup [], .lst [], .tup [.str "+", .int 1, .int 1]], .str "row"]]
def badTwiceA_2 : List D := badTwiceA_1 ++ badTwice_2
def badTwice_3 : List D := [.tup [.tup [.str "if", askD, .lst [.int 5], .non, .tup [.str "=", .int 1, .bl true]], .str "row"], .tup [.tup [.str "if", askD, .lst [.int 5], .lst [], .tup [.str "=", .int 1, .bl true]], .str "number"]]
def badTwiceA_3 : List D := badTwiceA_2 ++ badTwice_3
def badTwice_4 : List D := [.tup [.tup [.str "round", .tup [.str "<", .non, .str "A"], .lst [], .lst [], askD], .str "number"], .tup [.tup [.str "put", .str "a", .str "+", .tup [.str "**", .str "A", .int 1]], .str "row"]]
def badTwiceA_4 : List D := badTwiceA_3 ++ badTwice_4
def badTwice_5 : List D := [.tup [.tup [.str "round", .tup [.str "<", .str "A", .non], .lst [], .lst [], askD], .str "name"], .tup [.tup [.str "put", .str "a", .str "-", .tup [.str "=", .str "A", .str "a"]], .str "name"]]
def badTwiceA_5 : List D := badTwiceA_4 ++ badTwice_5
def badTwice : List D := badTwiceA_5
def badNum0 : List D := [.int (-1), .int 1000000, .bl true, .non, .lst []]
def badNumF : D → D := fun d => .tup [.str "put", .str "a", .str "+", .tup [d]]
def badNum1 : List D := [.tup [.str "if", .tup [.str "=", .int 1, .non], .lst [], .lst [], askD], .tup [.str "round", askD, .lst [], .lst [], .tup [.str "<", .dic [], .int 1]]]
def badNum : List D := badNum0.map badNumF ++ badNum1
def badOwn : List D := [.tup [.str "put", .str "a", .str "+", .tup [.str "a"]], .tup [.str "put", .str "b", .str "-", .tup [.str "*", .int 3, .str "b"]], .tup [.str "put", .str "b", .str "-", .tup [.str "<", .str "b", .str "b"]]]
def tagD (z : Str) : D → D := fun d => .tup [d, .str z]
def badAll0 : List D := badRows.map (tagD "row") ++ badNames.map (tagD "name")
def badAll1 : List D := (badAll0 ++ badNum.map (tagD "number")) ++ badOwn.map (tagD "own")
def badAll : List D := badAll1 ++ badTwice
def badAt (n : Int) : D := badAll.getD (n % 75).toNat .non
def blkA : D := .tup [.str "a", .lst [.tup [.str "push", .str "a"]]]
def b13F (k : Nat) : D := .tup [.str ("b" ++ Str.ofString (toString (k : Int))), .lst []]
def badProg0 : List D := [.non, .tup [blkA], .lst [], .dic [], .str "a", .lst ((List.range 13).map b13F), .lst [.non], .lst [.lst [.str "a", .lst []]], .lst [.tup [.str "a"]]]
def badProg1 : List D := [.lst [.tup [.str "a", .lst [], .lst []]], .lst [.tup [.str "if", .lst []]], .lst [.tup [.str "a", .tup []]], .lst [.tup [.int 5, .lst []]], .lst [blkA, .tup [.str "A", .lst []]], .lst [.tup [.str "a", .non], blkA]]
def badProg : List D := badProg0 ++ badProg1
def badTwo : D := .tup [.lst [blkA, .tup [.str "b", .lst []], .tup [.str "a", .lst []]], .str "name"]
def badProgAt (n : Int) : D := if n % 8 = 0 then badTwo else .tup [badProg.getD (n / 8 % 15).toNat .non, .str "program"]
theorem b13_len (k : Nat) (h : k < 13) : ("b" : Str).length + (Str.ofString (toString ((0 : Int) + (k : Nat)))).length ≤ 100000 := by
  have : ∀ k : Nat, k < 13 → ("b" : Str).length + (Str.ofString (toString ((0 : Int) + (k : Nat)))).length ≤ 10 := by decide +kernel
  have := this k h
  omega
theorem b13_log (k : Nat) (h : k < 13) : ((0 : Int) + (k : Nat)).natAbs.log2 < 1920 := by
  have : ∀ k : Nat, k < 13 → ((0 : Int) + (k : Nat)).natAbs.log2 < 1920 := by decide +kernel
  exact this k h
end DL

set_option Elab.async false
set_option linter.all false
set_option maxRecDepth 100000
set_option maxHeartbeats 4000000
namespace DL
open PySem L2 PyProof.Rows
section
variable {X : Cx}
def rTup0 (K : PySem.W.Frag) : R2 := fun x y H Q => ∃ xs : List D, Rep K H x (.tup xs) ∧ Rep K H y (.tup []) ∧ Q (.bl (decide (xs.length = 0))) H
theorem op_tup0 (hu : X.A.units + 64 < cLine) : OpR X (compareOp .Eq) (rTup0 X.K) := by
  intro pins s σ H x y v u Q I rx ry h
  obtain ⟨xs, r1, r2, q⟩ := h
  cases r1 with
  | @tup a _ _ h1 l1 =>
    cases r2 with
    | @tup b _ _ h2 l2 =>
      cases rx; cases ry
      obtain ⟨its1, rv1, p1, _⟩ := I.tuple h1
      obtain ⟨its2, rv2, p2, _⟩ := I.tuple h2
      have e1 : its1.length = xs.length := by rw [← l1.length]; exact rv1.length.symm
      have e2 : its2.length = 0 := by rw [← rv2.length, l2.length]; rfl
      refine PySem.W.eq_tuplesT (n := 59) (e := fun _ => true) (show s.heap.IsTuple _ its1.toArray from p1) (show s.heap.IsTuple _ its2.toArray from p2) (fun j h1 h2 => ?_) (by omega) ?_
      · rw [List.size_toArray, e2] at h2
        exact absurd h2 (by omega)
      · have e3 : ((List.range (min its1.toArray.size its2.toArray.size)).all (fun _ => true) && its1.toArray.size == its2.toArray.size) = decide (xs.length = 0) := by
          rw [all_true, List.size_toArray, List.size_toArray, e1, e2, Bool.true_and]
          by_cases h : xs.length = 0
          · rw [h]; rfl
          · rw [decide_eq_false h]; simpa using h
        rw [e3]
        exact ⟨.bl _, H, I, rfl, q⟩
end
section
variable {c : Cc} {η : Nm} {ρ : Rho} {a b e o : Expr} {pos p p2 q : Pos} {d : D}
theorem et_tup0 {xs : List D} (ha : ED c η a ρ (.tup xs)) (hb : ED c η b ρ (.tup [])) : ET c η (.Compare a [.Eq] [b] pos) ρ (decide (xs.length = 0)) :=
  et_cmp (fun X hX => hX.K ▸ op_tup0 hX.room.units) (fun F H v1 v2 s r1 r2 Q q => ⟨xs, r1.mono s, r2.mono s, q _ F H (.refl s) (.bl _)⟩) (nomark _) ha hb
inductive CP : List (Option Expr) → List Expr → List (Str × Int) → Prop
  | nil : CP [] [] []
  | cons {x : Str} {i : Int} {j j' : Nat} {p p' : Pos} {ks : List (Option Expr)} {vs : List Expr} {l : List (Str × Int)} : CP ks vs l → CP (some (.Constant (.str x) j p) :: ks) (.Constant (.int i) j' p' :: vs) ((x, i) :: l)
def cpT (l : List (Str × Int)) : List (TE × TE) := l.map fun k => (tC (.str k.1), tC (.int k.2))
def cpK (l : List (Str × Int)) : List (Key × V) := l.map fun k => (Sum.inr k.1, .int k.2)
def cpD (l : List (Str × Int)) : List (Str × D) := l.map fun k => (k.1, .int k.2)
theorem CP.pps {X : Cx} : ∀ {ks : List (Option Expr)} {vs : List Expr} {l : List (Str × Int)}, CP ks vs l → PPs X pos ks vs (cpT l)
  | _, _, _, .nil => pps_nil
  | _, _, _, .cons h => pps_cons pe_str pe_int h.pps
theorem CP.all : ∀ {ks : List (Option Expr)} {vs : List Expr} {l : List (Str × Int)}, CP ks vs l → ks.all (·.isSome) = true ∧ ks.length = vs.length ∧ l.length = ks.length
  | _, _, _, .nil => ⟨rfl, rfl, rfl⟩
  | _, _, _, .cons h => ⟨by rw [List.all_cons, h.all.1]; rfl, by rw [List.length_cons, List.length_cons, h.all.2.1], by rw [List.length_cons, List.length_cons, h.all.2.2]⟩
theorem cp_pairs : ∀ (l : List (Str × Int)) (σ : L2.St) (H : Hp) (Q : List (V × V) → Hp → Prop), Q ((cpK l).map fun kv => (kV kv.1, kv.2)) H → tPairs (cpT l) σ H Q
  | [], _, _, _, h => h
  | k :: l, σ, H, Q, h => cp_pairs l σ H _ h
theorem cp_rep {K : PySem.W.Frag} {F : Hp} : ∀ l : List (Str × Int), RepK K F (cpK l) (cpD l)
  | [] => .nil
  | k :: l => .cons (.int _) (cp_rep l)
theorem eo_disp {keys : List (Option Expr)} {vals : List Expr} {l : List (Str × Int)} (h : CP keys vals l) (hm : mergeK [] (cpK l) = cpK l) (h0 : l.length ≠ 0) (h15 : l.length ≤ 15) : EO c η (.Dict keys vals pos) ρ (.dic (cpD l)) := ⟨fun F0 H0 σ F H S Q q => by
  obtain ⟨a1, a2, a3⟩ := h.all
  refine WE.of (t := tDisp (cpT l)) (fun X hX => pe_disp h.pps a1 a2 (by intro z; rw [z] at a3; exact h0 a3) (by omega)) ?_
  intro p hp
  refine cp_pairs l σ _ _ ⟨upd_same, cpK l, rfl, by unfold cpK; rw [List.length_map]; exact h15, ?_⟩
  have e : upd (upd H p (.dK [])) p (.dK (mergeK [] (cpK l))) = upd H p (.dK (cpK l)) := by
    rw [hm]
    funext b
    by_cases hb : b = p
    · subst hb; rw [upd_same, upd_same]
    · rw [upd_ne hb, upd_ne hb, upd_ne hb]
  rw [e]
  exact q p F _ (.apart S.fh hp) (S.fh.free hp) hp (obj_dic (cp_rep l))⟩
end
def sizesL : List (Str × Int) := [("put", 4), ("swap", 3), ("push", 2), ("pull", 2), ("if", 5), ("round", 5), ("call", 2), ("undo", 2)]
theorem sizes_look (w : Str) : (lookD (cpD sizesL) w = some (.int (sizeW w : Nat))) ∨ (lookD (cpD sizesL) w = none ∧ sizeW w = 0) := by
  by_cases h1 : w = "put"
  · subst h1; exact .inl rfl
  by_cases h2 : w = "swap"
  · subst h2; exact .inl rfl
  by_cases h3 : w = "push"
  · subst h3; exact .inl rfl
  by_cases h4 : w = "pull"
  · subst h4; exact .inl rfl
  by_cases h5 : w = "if"
  · subst h5; exact .inl rfl
  by_cases h6 : w = "round"
  · subst h6; exact .inl rfl
  by_cases h7 : w = "call"
  · subst h7; exact .inl rfl
  by_cases h8 : w = "undo"
  · subst h8; exact .inl rfl
  unfold sizesL cpD sizeW
  simp only [List.map_cons, List.map_nil, lookD]
  right
  rw [if_neg (Ne.symm h1), if_neg (Ne.symm h2), if_neg (Ne.symm h3), if_neg (Ne.symm h4), if_neg (Ne.symm h5), if_neg (Ne.symm h6), if_neg (Ne.symm h7), if_neg (Ne.symm h8)]
  simp [h1, h2, h3, h4, h5, h6, h7, h8]
end DL

set_option Elab.async false
set_option linter.all false
set_option maxRecDepth 100000
set_option maxHeartbeats 4000000
namespace DL
open PySem L2
end DL

set_option Elab.async false
set_option linter.all false
set_option maxRecDepth 100000
set_option maxHeartbeats 4000000
namespace DL
open PySem L2
end DL

set_option Elab.async false
set_option linter.all false
set_option maxRecDepth 100000
set_option maxHeartbeats 4000000
namespace DL
open PySem L2
theorem RsOp'.len {rs : List Row} {ds : List D} {w : List (Addr × D)} (h : RsOp' rs ds w) : ds.length = rs.length := by obtain ⟨_, h, _⟩ := h; exact h.len
theorem RsOp'.leafs : ∀ {rs : List Row}, (∀ r ∈ rs, r.asks = false) → RsOp' rs (rowsD rs) []
  | [], _ => RsOp'.nil
  | r :: rs, h => by
    have h1 := RsOp'.leafs (rs := rs) fun r hr => h r (List.mem_cons_of_mem _ hr)
    exact (RsOp'.nil.snoc (ROp'.leaf (h r List.mem_cons_self)) (w := []) .nil).app h1 .nil
end DL

set_option Elab.async false
set_option linter.all false
set_option maxRecDepth 100000
set_option maxHeartbeats 4000000
namespace DL
open PySem L2
section
variable {names : List Str} (hn : ∀ z ∈ names, isNameS z = true) (hp : ∀ z ∈ names, PnB z = true) (h9 : names.length = 9)
include hn hp h9
end
theorem POp'.app {a b : Prog} {da db : List D} {wa wb : List (Addr × D)} (h : POp' a da wa) (g : POp' b db wb) : POp' (a ++ b) (da ++ db) (wa ++ wb) := by
  obtain ⟨w1, h1, p1⟩ := h
  obtain ⟨w2, h2, p2⟩ := g
  exact ⟨w1 ++ w2, h1.app h2, p1.append p2⟩
end DL

set_option Elab.async false
set_option linter.all false
set_option maxRecDepth 100000
set_option maxHeartbeats 4000000
namespace DL
open PySem L2
def spQ (names : List Str) : Qn := ⟨.eq, .box (nmAt names 0), .num 1⟩
def spLv (more : Int) : Nat := if more / 7 % 8 = 3 then 8 else (more % 4).toNat
def pw3 (k : Nat) : Int := ([1, 2, 4] : List Int).getD (k % 3) 0
def spPart (more : Int) (k : Nat) : Int := more / 4 / pw3 k % 2
def spWd (more : Int) (k : Nat) : Str := if more / 288 / pw3 k % 2 = 0 then "if" else "round"
def spSd (more : Int) (names : List Str) (part : Bool) : List Row := if spLv more < 8 then (if part then List.replicate (more / 96 % 3).toNat (.push (nmAt names 3)) else List.replicate (more / 32 % 3).toNat (.swap (nmAt names 1) (nmAt names 2))) else []
def spB (more : Int) (k : Nat) : Bool := decide (spPart more k = 1)
def spRow (more : Int) (names : List Str) (k : Nat) (L : List D) : D := .tup ([.str (spWd more k), (spQ names).d] ++ sideD (spB more k) L (rowsD (spSd more names (!spB more k))) ++ [(spQ names).d])
def spT (more : Int) (names : List Str) (tip : List D) : Nat → Nat → List D
  | _, 0 => tip
  | k, m + 1 => [spRow more names k (rowsD (spSd more names (spB more k)) ++ spT more names tip (k + 1) m)]
def spTl (more : Int) (names : List Str) : Nat → Nat → Nat → List D
  | _, 0, n => [.int (n : Nat)]
  | k, m + 1, n => .int (n : Nat) :: .int (spPart more k) :: spTl more names (k + 1) m (spSd more names (spB more k)).length
def bdRow (n : Int) : D := match badAt n with
  | .tup [r, _] => r
  | _ => .non
def bdWord (n : Int) : Str := match badAt n with
  | .tup [_, .str w] => w
  | _ => default
def isPairD : D → Bool
  | .tup [_, .str _] => true
  | _ => false
theorem badAt_d (n : Int) : badAt n = .tup [bdRow n, .str (bdWord n)] := by
  have h : isPairD (badAt n) = true := by
    have h1 : badAll.all isPairD = true := by decide +kernel
    have h75 : badAll.length = 75 := by decide
    rw [List.all_eq_true] at h1
    refine h1 _ ?_
    unfold badAt
    rw [List.getD_eq_getElem?_getD, List.getElem?_eq_getElem (by omega)]
    exact List.getElem_mem _
  unfold bdRow bdWord
  generalize badAt n = d at h ⊢
  match d, h with
  | .tup [_, .str _], _ => rfl
def spTip (first more : Int) (names : List Str) : List D := [bdRow first, (Row.push (nmAt names 1)).d] ++ (if more / 2304 % 2 = 1 then [bdRow (first / 63 + 5 * more)] else [])
def spX (first more : Int) : List D := if more / 4608 % 3 = 1 then [bdRow (first / 65 + 7 * more)] else []
def spWord (first more : Int) : Str := if spLv more = 8 ∧ (formOf (bdRow first)).isSome = true then "deep" else bdWord first
def SpOk (P : Prog) (names : List Str) (first more : Int) (B : List (Str × List D)) (d : D) : Prop :=
  ∃ bs1 b bs2 Y B2, P = bs1 ++ b :: bs2 ∧ B = toB bs1 ++ (b.1, (rowsD b.2 ++ spT more names (spTip first more names) 0 (spLv more)) ++ Y) :: B2 ∧ B2.map (·.1) = bs2.map (·.1) ∧
    (Y = [] ∨ Y = spX first more) ∧ (∀ a ∈ B2, ∃ r, (∃ b ∈ bs2, r = b.2) ∧ (a.2 = rowsD r ∨ a.2 = rowsD r ++ spX first more)) ∧ d = .lst [.str (spWord first more), .tup (.str b.1 :: spTl more names 0 (spLv more) b.2.length)]
theorem Hole.intoX {p cur s0 s1 : Addr} {w : List (Addr × D)} {f : List D → List D} (h : Hole p cur w f) (C O X : List D) (wd q : D) (part : Bool) :
    Hole p (if part then s1 else s0) ((cur, .lst ((C ++ [.tup [wd, q, .ref s0, .ref s1, q]]) ++ X)) :: (if part then s0 else s1, .lst O) :: w) (fun L => f ((C ++ [.tup ([wd, q] ++ sideD part L O ++ [q])]) ++ X)) := ⟨fun L dl wl hl => by
  cases part with
  | false =>
    have hr : OpnL [wd, q, .lst L, .lst O, q] [wd, q, .ref s0, .ref s1, q] (((s0, .lst dl) :: wl) ++ [(s1, .lst O)]) :=
      .leafc (.leafc (.cons (.lst hl) (by
        have := OpnL.cons (Opn.lst (a := s1) (OpnL.leafs O)) (OpnL.leafs [q])
        rwa [List.append_nil] at this)))
    have hc : OpnL ((C ++ [.tup [wd, q, .lst L, .lst O, q]]) ++ X) ((C ++ [.tup [wd, q, .ref s0, .ref s1, q]]) ++ X) (([] ++ ((((s0, .lst dl) :: wl) ++ [(s1, .lst O)]) ++ [])) ++ []) := ((OpnL.leafs C).append (.cons (.tup hr) .nil)).append (OpnL.leafs X)
    obtain ⟨w0, h1, h2⟩ := h.h _ _ _ hc
    refine ⟨w0, h1, fun q hq => ?_⟩
    have := h2 q hq
    simp only [List.nil_append, List.append_nil, List.mem_cons, List.mem_append, List.not_mem_nil, or_false, Bool.false_eq_true, if_false] at this ⊢
    grind
  | true =>
    have hr : OpnL [wd, q, .lst O, .lst L, q] [wd, q, .ref s0, .ref s1, q] ([(s0, .lst O)] ++ (((s1, .lst dl) :: wl) ++ [])) :=
      .leafc (.leafc (.cons (.lst (OpnL.leafs O)) (.cons (.lst hl) (OpnL.leafs [q]))))
    have hc : OpnL ((C ++ [.tup [wd, q, .lst O, .lst L, q]]) ++ X) ((C ++ [.tup [wd, q, .ref s0, .ref s1, q]]) ++ X) (([] ++ (([(s0, .lst O)] ++ (((s1, .lst dl) :: wl) ++ [])) ++ [])) ++ []) := ((OpnL.leafs C).append (.cons (.tup hr) .nil)).append (OpnL.leafs X)
    obtain ⟨w0, h1, h2⟩ := h.h _ _ _ hc
    refine ⟨w0, h1, fun q hq => ?_⟩
    have := h2 q hq
    simp only [List.nil_append, List.append_nil, List.mem_cons, List.mem_append, List.not_mem_nil, or_false, List.cons_append, if_true] at this ⊢
    grind⟩
inductive SPot (p aL : Addr) (T : D) : Addr → List (Addr × D) → (List D → List D → List D) → Prop
  | own {w1 : List (Addr × D)} {f : List D → List D → List D} : Hole p aL ((p, T) :: w1) (f []) → (∀ X L, f X L = f [] (L ++ X)) → SPot p aL T aL ((p, T) :: w1) f
  | far {cur : Addr} {w1 : List (Addr × D)} {R : List D} {f : List D → List D → List D} : R.length ≤ 1000 → (∀ X, Hole p cur ((p, T) :: (aL, .lst (R ++ X)) :: w1) (f X)) → SPot p aL T cur ((p, T) :: (aL, .lst R) :: w1) f
theorem SPot.step {p aL cur s0 s1 : Addr} {T : D} {w : List (Addr × D)} {f : List D → List D → List D} (h : SPot p aL T cur w f) (C O : List D) (hC : C.length ≤ 999) (wd q : D) (part : Bool) :
    ∃ w', List.Perm w' ((cur, .lst (C ++ [.tup [wd, q, .ref s0, .ref s1, q]])) :: (if part then s0 else s1, .lst O) :: w) ∧ SPot p aL T (if part then s1 else s0) w' (fun X L => f X (C ++ [.tup ([wd, q] ++ sideD part L O ++ [q])])) := by
  cases h with
  | own h1 h2 =>
    rename_i w1
    refine ⟨(p, T) :: (aL, .lst (C ++ [.tup [wd, q, .ref s0, .ref s1, q]])) :: (if part then s0 else s1, .lst O) :: w1, ?_, .far (by rw [List.length_append, List.length_singleton]; omega) fun X => ?_⟩
    · exact (List.Perm.swap _ _ _).trans (List.Perm.cons _ (List.Perm.swap _ _ _))
    · have hf : (fun L => f X (C ++ [D.tup ([wd, q] ++ sideD part L O ++ [q])])) = (fun L => f [] ((C ++ [D.tup ([wd, q] ++ sideD part L O ++ [q])]) ++ X)) := funext fun L => h2 X _
      rw [hf]
      refine (h1.intoX (s0 := s0) (s1 := s1) C O X wd q part).mono fun z hz => ?_
      simp only [List.mem_cons] at hz ⊢
      grind
  | far h0 h1 =>
    rename_i w1 R
    refine ⟨(p, T) :: (aL, .lst R) :: (cur, .lst (C ++ [.tup [wd, q, .ref s0, .ref s1, q]])) :: (if part then s0 else s1, .lst O) :: w1, ?_, .far h0 fun X => ?_⟩
    · have e1 : List.Perm ((p, T) :: (aL, D.lst R) :: (cur, D.lst (C ++ [.tup [wd, q, .ref s0, .ref s1, q]])) :: (if part then s0 else s1, D.lst O) :: w1) ([(cur, D.lst (C ++ [.tup [wd, q, .ref s0, .ref s1, q]])), (if part then s0 else s1, D.lst O)] ++ ([(p, T), (aL, D.lst R)] ++ w1)) := by
        show List.Perm ([(p, T), (aL, D.lst R)] ++ ([(cur, D.lst (C ++ [.tup [wd, q, .ref s0, .ref s1, q]])), (if part then s0 else s1, D.lst O)] ++ w1)) _
        rw [← List.append_assoc, ← List.append_assoc]
        exact List.perm_append_comm.append_right w1
      exact e1
    · refine ((h1 X).into (s0 := s0) (s1 := s1) C O wd q part).mono fun z hz => ?_
      simp only [List.mem_cons] at hz ⊢
      grind
theorem SPot.done {p aL cur : Addr} {T : D} {w : List (Addr × D)} {f : List D → List D → List D} (h : SPot p aL T cur w f) (C : List D) : ∃ w0, Opn (.lst (f [] C)) (.ref p) w0 ∧ ∀ q ∈ w0, q ∈ (cur, .lst C) :: w := by
  cases h with
  | own h1 h2 => exact h1.done C
  | far h0 h1 =>
    have := (h1 []).done C
    rwa [List.append_nil] at this
def R_spoil : RW' := fun ds w P => ∃ (p : Addr) (bs : List PB) (first more : Int) (names : List Str), ds = [.ref p, .int first, .int more, .lst (names.map .str)] ∧ names.length = 12 ∧ 1 ≤ bs.length ∧ bs.length ≤ 3 ∧ (∀ b ∈ bs, b.2.2.length ≤ 300) ∧
  (∀ (j : Nat) b, bs[j]? = some b → b.2.1 = nmAt names (8 + (j : Nat))) ∧ w = (p, .lst (pbT bs)) :: pbW bs ∧
  P = fun d w' => ∃ B, SpOk (bs.map (·.2)) names first more B d ∧ ∃ w0, Opn (.lst (blksD B)) (.ref p) w0 ∧ ∀ q ∈ w0, q ∈ w'
theorem pw3l (k : Nat) (h : k < 8) : L2.atI ([.int 1, .int 2, .int 4] : List D) ((0 + (k : Int)) % 3) = some (.int (pw3 k)) := by
  match k, h with
  | 0, _ => rfl
  | 1, _ => rfl
  | 2, _ => rfl
  | 3, _ => rfl
  | 4, _ => rfl
  | 5, _ => rfl
  | 6, _ => rfl
  | 7, _ => rfl
theorem pw3_pos (k : Nat) (h : k < 8) : 0 < pw3 k ∧ pw3 k < 1000 := by
  have : ∀ k, k < 8 → 0 < pw3 k ∧ pw3 k < 1000 := by decide +kernel
  exact this k h
theorem spLv_le (more : Int) : spLv more ≤ 8 := by unfold spLv; split <;> omega
theorem spSd_len (more : Int) (names : List Str) (part : Bool) : (spSd more names part).length ≤ 2 := by
  unfold spSd
  split
  · split
    · rw [List.length_replicate]; omega
    · rw [List.length_replicate]; omega
  · exact Nat.zero_le _
theorem blksD_app (a b : List (Str × List D)) : blksD (a ++ b) = blksD a ++ blksD b := by unfold blksD; rw [List.map_append]
theorem blksD_pb (bs : List PB) : blksD (toB (bs.map (·.2))) = pbD bs := by rw [toB_D, pbD_prog]
theorem sp_root (p : Addr) (first more : Int) (bs1 bs2 : List PB) (b : PB) (hlen : ∀ a ∈ bs1 ++ b :: bs2, a.2.2.length ≤ 300) : ∃ (aL : Addr) (w : List (Addr × D)) (f0 : List D → List D → List D) (nmL : Str),
    List.Perm w ((p, .lst (pbT (bs1 ++ b :: bs2))) :: (pbW bs1 ++ pbW bs2)) ∧ SPot p aL (.lst (pbT (bs1 ++ b :: bs2))) b.1 w f0 ∧ L2.atI (pbT (bs1 ++ b :: bs2)) (-1) = some (.tup [.str nmL, .ref aL]) ∧
    ∀ L X, X = [] ∨ X = spX first more → ∃ Y B2, f0 X L = blksD (toB (bs1.map (·.2)) ++ (b.2.1, L ++ Y) :: B2) ∧ B2.map (·.1) = (bs2.map (·.2)).map (·.1) ∧ (Y = [] ∨ Y = spX first more) ∧
      ∀ a ∈ B2, ∃ r, (∃ b ∈ bs2.map (·.2), r = b.2) ∧ (a.2 = rowsD r ∨ a.2 = rowsD r ++ spX first more) := by
  rcases List.eq_nil_or_concat bs2 with rfl | ⟨bs3, bl, rfl⟩
  · refine ⟨b.1, _, fun X L => pbD bs1 ++ [.tup [.str b.2.1, .lst (L ++ X)]], b.2.1, List.Perm.refl _, .own ?_ (fun X L => by rw [List.append_nil]), ?_, fun L X hX => ⟨X, [], ?_, rfl, hX, fun a ha => by cases ha⟩⟩
    · have := Hole.block p bs1 [] b
      have e : (fun L => pbD bs1 ++ [D.tup [.str b.2.1, .lst (L ++ [])]]) = (fun L => pbD bs1 ++ D.tup [.str b.2.1, .lst L] :: pbD []) := funext fun L => by rw [List.append_nil]; rfl
      rw [e]
      exact this
    · rw [pbT_snoc]; exact atI_last _ _
    · rw [blksD_app, blksD_pb]; rfl
  · rw [List.concat_eq_append] at hlen ⊢
    have eT : bs1 ++ b :: (bs3 ++ [bl]) = (bs1 ++ b :: bs3) ++ [bl] := by rw [List.append_assoc]; rfl
    refine ⟨bl.1, (p, .lst (pbT (bs1 ++ b :: (bs3 ++ [bl])))) :: (bl.1, .lst (rowsD bl.2.2)) :: (pbW bs1 ++ pbW bs3), fun X L => pbD bs1 ++ .tup [.str b.2.1, .lst L] :: (pbD bs3 ++ [.tup [.str bl.2.1, .lst (rowsD bl.2.2 ++ X)]]), bl.2.1, ?_, .far ?_ (fun X => ⟨fun L dl wl hl => ?_⟩), ?_, fun L X hX => ⟨[], toB (bs3.map (·.2)) ++ [(bl.2.1, rowsD bl.2.2 ++ X)], ?_, ?_, .inl rfl, fun a ha => ?_⟩⟩
    · refine List.Perm.cons _ ?_
      rw [pbW_snoc, ← List.append_assoc]
      exact List.perm_append_comm (l₁ := [(bl.1, D.lst (rowsD bl.2.2))])
    · rw [rowsD_len]
      have := hlen bl (by simp)
      omega
    · have hb : Opn (.tup [.str b.2.1, .lst L]) (.tup [.str b.2.1, .ref b.1]) ((b.1, .lst dl) :: wl) := by
        have := OpnL.leafc (d := .str b.2.1) (OpnL.cons (Opn.lst (a := b.1) hl) .nil)
        rw [List.append_nil] at this
        exact .tup this
      have hx : Opn (.tup [.str bl.2.1, .lst (rowsD bl.2.2 ++ X)]) (.tup [.str bl.2.1, .ref bl.1]) [(bl.1, .lst (rowsD bl.2.2 ++ X))] := by
        have := OpnL.leafc (d := .str bl.2.1) (OpnL.cons (Opn.lst (a := bl.1) (OpnL.leafs (rowsD bl.2.2 ++ X))) .nil)
        rw [List.append_nil] at this
        exact .tup this
      have hall : OpnL (pbD bs1 ++ .tup [.str b.2.1, .lst L] :: (pbD bs3 ++ [.tup [.str bl.2.1, .lst (rowsD bl.2.2 ++ X)]])) (pbT bs1 ++ .tup [.str b.2.1, .ref b.1] :: (pbT bs3 ++ [.tup [.str bl.2.1, .ref bl.1]])) (pbW bs1 ++ (((b.1, .lst dl) :: wl) ++ (pbW bs3 ++ ([(bl.1, .lst (rowsD bl.2.2 ++ X))] ++ [])))) := (pb_opn bs1).append (.cons hb ((pb_opn bs3).append (.cons hx .nil)))
      have e : pbT (bs1 ++ b :: (bs3 ++ [bl])) = pbT bs1 ++ .tup [.str b.2.1, .ref b.1] :: (pbT bs3 ++ [.tup [.str bl.2.1, .ref bl.1]]) := by unfold pbT; rw [List.map_append, List.map_cons, List.map_append]; rfl
      refine ⟨_, .lst (a := p) hall, fun q hq => ?_⟩
      rw [e]
      simp only [List.mem_cons, List.mem_append, List.not_mem_nil, or_false] at hq ⊢
      grind
    · rw [eT, pbT_snoc]; exact atI_last _ _
    · rw [blksD_app, blksD_pb, List.append_nil]
      show _ = pbD bs1 ++ (D.tup [.str b.2.1, .lst L] :: blksD (toB (bs3.map (·.2)) ++ [(bl.2.1, rowsD bl.2.2 ++ X)]))
      rw [blksD_app, blksD_pb]
      rfl
    · rw [List.map_append, toB_nm, List.map_append, List.map_append]; rfl
    · rcases List.mem_append.mp ha with h | h
      · unfold toB at h
        rw [List.mem_map] at h
        obtain ⟨r, hr, rfl⟩ := h
        exact ⟨r.2, ⟨r, by rw [List.map_append]; exact List.mem_append_left _ hr, rfl⟩, .inl rfl⟩
      · rw [List.mem_singleton] at h
        subst h
        refine ⟨bl.2.2, ⟨bl.2, by rw [List.map_append]; exact List.mem_append_right _ List.mem_cons_self, rfl⟩, ?_⟩
        rcases hX with rfl | rfl
        · left; exact List.append_nil _
        · exact .inr rfl
mutual
def fineB : D → Bool
  | .ty _ => false
  | .ref _ => false
  | .ins _ _ _ _ => false
  | .exc _ _ _ => false
  | .scr _ => false
  | .str z => decide (z.length ≤ 100000)
  | .tup xs => decide (xs.length ≤ 80000) && finesB xs
  | .lst xs => decide (xs.length ≤ 80000) && finesB xs
  | _ => true
def finesB : List D → Bool
  | [] => true
  | d :: ds => fineB d && finesB ds
end
mutual
theorem fineB_ok : ∀ d : D, fineB d = true → d.fine
  | .ty _, h => by rw [fineB] at h; cases h
  | .ref _, h => by rw [fineB] at h; cases h
  | .ins _ _ _ _, h => by rw [fineB] at h; cases h
  | .exc _ _ _, h => by rw [fineB] at h; cases h
  | .scr _, h => by rw [fineB] at h; cases h
  | .str z, h => by rw [fineB] at h; rw [D.fine]; exact of_decide_eq_true h
  | .tup xs, h => by rw [fineB, Bool.and_eq_true] at h; rw [D.fine]; exact ⟨of_decide_eq_true h.1, finesB_ok xs h.2⟩
  | .lst xs, h => by rw [fineB, Bool.and_eq_true] at h; rw [D.fine]; exact ⟨of_decide_eq_true h.1, finesB_ok xs h.2⟩
  | .non, _ => trivial
  | .bl _, _ => trivial
  | .int _, _ => trivial
  | .dic _, _ => trivial
theorem finesB_ok : ∀ ds : List D, finesB ds = true → D.fines ds
  | [], _ => by rw [D.fines]; trivial
  | d :: ds, h => by rw [finesB, Bool.and_eq_true] at h; rw [D.fines]; exact ⟨fineB_ok d h.1, finesB_ok ds h.2⟩
end
def rowPart : D → D
  | .tup [r, _] => r
  | _ => .non
theorem bdRow_mem (n : Int) (q : D → Bool) (h : badAll.all q = true) : q (badAt n) = true := by
  have h75 : badAll.length = 75 := by decide
  rw [List.all_eq_true] at h
  refine h _ ?_
  unfold badAt
  rw [List.getD_eq_getElem?_getD, List.getElem?_eq_getElem (by omega)]
  exact List.getElem_mem _
theorem bdRow_fine (n : Int) : (bdRow n).fine := by
  have h := bdRow_mem n (fun d => fineB (rowPart d)) (by decide +kernel)
  rw [badAt_d n] at h
  exact fineB_ok _ h
end DL

set_option Elab.async false
set_option linter.all false
set_option maxRecDepth 100000
set_option maxHeartbeats 4000000
namespace DL
open PySem L2 PyProof.Rows
variable {c : Cc} {η : Nm} {ρ ρ1 ρ2 : Rho} {a b e o : Expr} {es : List Expr} {pos p apos : Pos} {d d1 d2 : D} {ds : List D} {out : Out} {st : Stmt} {rest : List Stmt} {bs : List (List Stmt)} {x y : Str}

structure Hx where
  a : Addr
  C : Addr
  dd : Addr
structure CinH (c : Cc) (η : Nm) (h : Hx) (X : Cx) : Prop where
  prog : X.prog = c.P
  w : X.w = c.w
  K : X.K = c.K
  mg : X.mg = c.mg
  base : X.base = c.base
  N : X.N = η.N
  sc : X.env.scope = η.sc
  room : L2H.RoomH c.k X.A
  fn : ∀ x, η.own x = true → X.fn x = true
  pin : ∃ oe, L2N.Zn (.ref h.C) (some h.dd) oe ∧ (∃ vs, oe.data = .fields vs) ∧ (h.a, oe) ∈ X.pn ∧ X.A.handled = some (.ref h.a)
def HWE (c : Cc) (η : Nm) (h : Hx) (e : Expr) : TE := fun σ H Q => ∀ X, CinH c η h X → ∀ pins s, Inv X pins σ H s → wpAny (model X.prog X.w) X.A (eval e X.env) (EP X pins σ Q) X.xe s
def HWA (c : Cc) (η : Nm) (h : Hx) (es : List Expr) : TA := fun σ H Q => ∀ X, CinH c η h X → ∀ (pos : Pos) pins s, Inv X pins σ H s → wpAny (model X.prog X.w) X.A (spliced (backTo pos (starEach es X.env))) (AP X pins σ Q) X.xe s
def HWB (c : Cc) (η : Nm) (h : Hx) (st : List Stmt) : TS := fun D σ H => ∀ X, CinH c η h X → ∀ pins s, Inv X pins σ H s → wpAny (model X.prog X.w) X.A (execs st X.env) (SP X pins D) X.xe s
section
variable {h : Hx} {σ : L2.St} {H : Hp}
theorem HWE.pe {X : Cx} (hX : CinH c η h X) : PE X e (HWE c η h e) := ⟨fun pins s _ _ _ I q => q X hX pins s I⟩
theorem HWA.pa {X : Cx} (hX : CinH c η h X) : PA X es (HWA c η h es) := ⟨fun pos pins s _ _ _ I q => q X hX pos pins s I⟩
theorem HWB.pb {X : Cx} (hX : CinH c η h X) : PSs X rest (HWB c η h rest) := ⟨fun pins s _ _ _ I q => q X hX pins s I⟩
theorem HWE.of {t : TE} {Q : VK} (k : ∀ X, CinH c η h X → PE X e t) (q : t σ H Q) : HWE c η h e σ H Q := fun X hX pins s I => (k X hX).run pins s σ H Q I q
theorem HWA.of {t : TA} {Q : List V → Hp → Prop} (k : ∀ X, CinH c η h X → PA X es t) (q : t σ H Q) : HWA c η h es σ H Q := fun X hX pos pins s I => (k X hX).run pos pins s σ H Q I q
theorem HWB.of {t : TS} {E : Ends} (k : ∀ X, CinH c η h X → PSs X rest t) (q : t E σ H) : HWB c η h rest E σ H := fun X hX pins s I => (k X hX).run pins s σ H E I q
end
def HDd (c : Cc) (h : Hx) (dat : D) (F H : Hp) : Prop := ∃ v, H h.dd = some (.xd [("at", v)]) ∧ Rep c.K F v dat
theorem HDd.grow {h : Hx} {dat : D} {F H F' H' : Hp} (k : HDd c h dat F H) (g : Grow F H F' H') : HDd c h dat F' H' := by
  obtain ⟨v, e, r⟩ := k
  exact ⟨v, g.h _ _ e, r.mono g.f⟩
structure EH (c : Cc) (η : Nm) (h : Hx) (dat : D) (e : Expr) (ρ : Rho) (d : D) : Prop where
  run : ∀ F0 H0 σ F H, Stt c.K F0 H0 ρ σ F H → HDd c h dat F H → ∀ Q : VK, (∀ v F' H', Grow F H F' H' → Rep c.K F' v d → Q v H') → HWE c η h e σ H Q
structure EHo (c : Cc) (η : Nm) (h : Hx) (dat : D) (e : Expr) (ρ : Rho) (d : D) : Prop where
  run : ∀ F0 H0 σ F H, Stt c.K F0 H0 ρ σ F H → HDd c h dat F H → ∀ Q : VK, (∀ a F' H', Grow F H F' H' → F' a = none → H a = none → Obj c.K F' (H' a) d → Q (.ref a) H') → HWE c η h e σ H Q
structure AH (c : Cc) (η : Nm) (h : Hx) (dat : D) (es : List Expr) (ρ : Rho) (ds : List D) : Prop where
  run : ∀ F0 H0 σ F H, Stt c.K F0 H0 ρ σ F H → HDd c h dat F H → ∀ Q : List V → Hp → Prop, (∀ vs F' H', Grow F H F' H' → RepL c.K F' vs ds → Q vs H') → HWA c η h es σ H Q
structure SH (c : Cc) (η : Nm) (h : Hx) (dat : D) (bs : List Stmt) (ρ : Rho) (out : Out) : Prop where
  run : ∀ F0 H0 σ F H, Stt c.K F0 H0 ρ σ F H → HDd c h dat F H → ∀ E : Ends, Done c.K F0 H0 E out → HWB c η h bs E σ H
section
variable {h : Hx} {dat : D}
theorem EH.is (k : EH c η h dat e ρ d1) (q : d1 = d2) : EH c η h dat e ρ d2 := by rw [← q]; exact k
theorem EHo.is (k : EHo c η h dat e ρ d1) (q : d1 = d2) : EHo c η h dat e ρ d2 := by rw [← q]; exact k
theorem EHo.ed (k : EHo c η h dat e ρ d) : EH c η h dat e ρ d := ⟨fun F0 H0 σ F H S hd Q q => k.run F0 H0 σ F H S hd Q fun a F' H' g n n0 ob => by
  obtain ⟨u, hu⟩ := ob.some
  rw [hu] at ob
  refine q (.ref a) (upd F' a u) H' ⟨g.f.trans (same_upd n), g.h, fun b x z => ?_, fun b x z y => ?_⟩ (ob.froze n)
  · by_cases hb : b = a
    · subst hb; rw [upd_same] at z; cases z; exact hu
    · rw [upd_ne hb] at z; exact g.fh b x z
  · rw [upd_ne (ne_of_none z n0)]; exact g.sep b x z y⟩
theorem eh_var (i : Nat) {x : Str} (hρ : ρ[i]? = some (.va d)) (hN : η.N[i]? = some x := by rfl) (hv : visB η.sc x = true := by decide +kernel)
    (hd : (x == ("__debug__" : Str)) = false := by decide) (hcd : (x == ("__classdict__" : Str)) = false := by decide) : EH c η h dat (.Name x pos) ρ d := ⟨fun F0 H0 σ F H S _ Q q => by
  obtain ⟨u, e1, r⟩ := S.sl i _ hρ
  exact HWE.of (t := tVar i) (fun X hX => pe_var (by rw [hX.N]; exact hN) (by rw [hX.sc]; exact vis_of hv) hd hcd) ⟨u, e1, q u F H (.refl S.fh) r⟩⟩
theorem eh_str {i : Str} {j : Nat} : EH c η h dat (.Constant (.str i) j pos) ρ (.str i) := ⟨fun F0 H0 σ F H S _ Q q => HWE.of (fun _ _ => pe_str) (q _ F H (.refl S.fh) (.str i))⟩
theorem glh_of {x : Str} {X : Cx} (hX : CinH c η h X) (k : glB η.sc x = true) : Gl X x := by
  show X.env.scope.names.lookup x = _
  rw [hX.sc]
  exact by simpa [glB] using k
theorem eh_cls {x : Str} {C : Addr} (hm : c.mg x = some (.ref C)) (hg : glB η.sc x = true := by decide +kernel) (hd : (x == ("__debug__" : Str)) = false := by decide) : EH c η h dat (.Name x pos) ρ (.ref C) := ⟨fun F0 H0 σ F H S _ Q q =>
  HWE.of (t := tC (.ref C)) (fun X hX => pe_glob (glh_of hX hg) (by rw [hX.mg]; exact hm) rfl hd) (q _ F H (.refl S.fh) (.ref C))⟩
theorem eh_type {x : Str} {n : String} (hm : c.mg x = none) (hv : bootBuiltins x = some (.type n)) (hg : glB η.sc x = true := by decide +kernel) (hn : x ≠ "__name__" := by decide) (hd : (x == ("__debug__" : Str)) = false := by decide) : EH c η h dat (.Name x pos) ρ (.ty n) := ⟨fun F0 H0 σ F H S _ Q q =>
  HWE.of (t := tC (.ty n)) (fun X hX => pe_bltn (v := .ty n) (glh_of hX hg) (by rw [hX.mg]; exact hm) hv rfl hn hd) (q _ F H (.refl S.fh) (.ty n))⟩
theorem ah_nil : AH c η h dat [] ρ [] := ⟨fun F0 H0 σ F H S _ Q q => HWA.of (fun _ _ => pa_nil) (q [] F H (.refl S.fh) .nil)⟩
theorem ah_cons (ha : EH c η h dat e ρ d) (hr : AH c η h dat es ρ ds) (hs : isStar e = false := by rfl) : AH c η h dat (e :: es) ρ (d :: ds) := ⟨fun F0 H0 σ F H S hd Q q =>
  HWA.of (fun X hX => pa_cons (HWE.pe hX) (HWA.pa hX) (star_cons hs X.env)) (ha.run F0 H0 σ F H S hd _ fun v F1 H1 g1 r1 => hr.run F0 H0 σ F1 H1 (S.grow g1) (hd.grow g1) _ fun vs F2 H2 g2 r2 => q (v :: vs) F2 H2 (g1.trans g2) (.cons (r1.mono g2.f) r2))⟩
theorem eho_lst (ha : AH c η h dat es ρ ds) (hl : ds.length ≤ 100000 := by simp) : EHo c η h dat (.List es pos) ρ (.lst ds) := ⟨fun F0 H0 σ F H S hd Q q =>
  HWE.of (fun X hX => pe_lst (HWA.pa hX)) (ha.run F0 H0 σ F H S hd _ fun vs F1 H1 g1 r1 => ⟨by rw [r1.length]; exact len_line hl, fun p hp => q p F1 _ (g1.trans (.apart g1.fh hp)) (g1.fh.free hp) (g1.h.free hp) (obj_lst r1)⟩)⟩
theorem eh_op {op : Operator} {r : R2} (ho : ∀ X, CinH c η h X → OpR X (binaryOp op) r) (hr : RD c.K r d1 d2 d) (ha : EH c η h dat a ρ d1) (hb : EH c η h dat b ρ d2) : EH c η h dat (.BinOp a op b pos) ρ d := ⟨fun F0 H0 σ F H S hd Q q =>
  HWE.of (t := tOp r (HWE c η h a) (HWE c η h b)) (fun X hX => pe_op (ho X hX) (HWE.pe hX) (HWE.pe hX)) (ha.run F0 H0 σ F H S hd _ fun v1 F1 H1 g1 r1 => hb.run F0 H0 σ F1 H1 (S.grow g1) (hd.grow g1) _ fun v2 F2 H2 g2 r2 => hr F2 H2 v1 v2 g2.fh (r1.mono g2.f) r2 Q fun v F' H' g' r' => q v F' H' ((g1.trans g2).trans g') r')⟩
theorem eh_addS {x y : Str} (hz : x.length + y.length ≤ 100000) (ha : EH c η h dat a ρ (.str x)) (hb : EH c η h dat b ρ (.str y)) : EH c η h dat (.BinOp a .Add b pos) ρ (.str (x ++ y)) :=
  eh_op (fun _ _ => op_add_str) (fun F H v1 v2 s r1 r2 Q q => by cases r1; cases r2; exact ⟨x, y, rfl, rfl, len_line hz, q _ F H (.refl s) (.str _)⟩) ha hb
theorem op_mulS {X : Cx} : OpR X (binaryOp .Mult) (fun x y H Q => ∃ (z : Str) (k : Bool), x = .str z ∧ y = .int (if k then 1 else 0) ∧ Q (.str (if k then z else Str.empty)) H) := by
  intro pins s σ H x y v u Q I rx ry h
  obtain ⟨z, k, rfl, rfl, q⟩ := h
  obtain ⟨t, rfl⟩ := rx
  obtain ⟨t', rfl⟩ := ry
  cases k with
  | false => exact PySem.P.mul_str_none (by decide) (by decide) ⟨.str Str.empty, H, I.tok _, ⟨_, rfl⟩, q⟩
  | true => exact PySem.P.mul_str (by decide) (fun _ h2 => absurd h2 (by simp)) (fun _ h2 => absurd h2 (by simp)) ⟨.str z, H, I, ⟨_, rfl⟩, q⟩
theorem eh_mulS {z : Str} {k : Bool} (ha : EH c η h dat a ρ (.str z)) (hb : EH c η h dat b ρ (.int (if k then 1 else 0))) : EH c η h dat (.BinOp a .Mult b pos) ρ (.str (if k then z else Str.empty)) :=
  eh_op (fun _ _ => op_mulS) (fun F H v1 v2 s r1 r2 Q q => by cases r1; cases r2; exact ⟨z, k, rfl, rfl, q _ F H (.refl s) (.str _)⟩) ha hb
theorem eh_intB {k : Bool} (hm : c.mg "int" = none) (ha : EH c η h dat e ρ (.bl k)) (hg : glB η.sc "int" = true := by decide +kernel) (he : isStar e = false := by rfl) : EH c η h dat (.Call (.Name "int" p) [e] [] pos) ρ (.int (if k then 1 else 0)) := ⟨fun F0 H0 σ F H S hd Q q =>
  HWE.of (t := tCB _ (tCons (HWE c η h e) tNil)) (fun X hX => pe_callTy call_int1 (glh_of hX hg) (by rw [hX.mg]; exact hm) (by decide +kernel) (pa_cons (HWE.pe hX) pa_nil (star_cons he X.env)) (by decide) (by decide) (star_cons he X.env) (star_any (es := []) rfl pos X.env))
    (ha.run F0 H0 σ F H S hd _ fun v F1 H1 g1 r1 => by cases r1; exact .inr ⟨k, rfl, q _ F1 H1 g1 (.int _)⟩)⟩
theorem eh_not {k : Bool} (ha : EH c η h dat a ρ (.bl k)) : EH c η h dat (.UnaryOp .Not a pos) ρ (.bl (!k)) := ⟨fun F0 H0 σ F H S hd Q q =>
  HWE.of (fun X hX => pe_not (HWE.pe hX)) (ha.run F0 H0 σ F H S hd _ fun v F1 H1 g r => by cases r; exact ⟨k, rfl, q _ F1 H1 g (.bl _)⟩)⟩
theorem inst_at {X : Cx} (hX : CinH c η h X) {pins : List (Addr × PySem.Obj)} {σ : L2.St} {H : Hp} {s : Shared} {v : V} (I : Inv X pins σ H s) (ea : H h.dd = some (.xd [("at", v)])) :
    ∃ (oe od : PySem.Obj) (mA : Str → Option Value), PySem.W.InstAt s.heap h.a oe h.C (some od) ∧ s.heap.get? h.dd = some od ∧ (∀ name, PySem.W.lookIn name od = some (mA name)) ∧ ∀ f : Str, RelO (([("at", v)] : List (Str × V)).lookup f) (mA f) := by
  obtain ⟨oe, hz, ⟨vs, hd⟩, hp, _⟩ := hX.pin
  obtain ⟨ha, _⟩ := I.pin (h.a, oe) (List.mem_append_left _ hp)
  have k : ObjOk X.prog X.w H s.heap h.dd (.xd [("at", v)]) := I.hok _ _ ea
  obtain ⟨mA, hns, hr⟩ := k
  obtain ⟨od, ho, hl⟩ := lookIn_ns hns
  exact ⟨oe, od, mA, ⟨ha, hz.1, by unfold PySem.W.notCls; rw [hd] <;> rfl, by rw [hz.2.1]; exact ho⟩, ho, hl, hr⟩
theorem eh_isi {cv : Value} {k : Bool} (T : ExcC c.K h.C) (hm : c.mg "isinstance" = none) (hk : PySem.W.kitOne c.K (.ref h.C) cv = some k) (ha : EH c η h dat a ρ (.ref h.a)) (hb : EH c η h dat b ρ d) (hv : ∀ F w, Rep c.K F w d → ∀ u, RelV w u → u = cv) (hg : glB η.sc "isinstance" = true := by decide +kernel)
    (he : isStar a = false := by rfl) (hf : isStar b = false := by rfl) (hr : ∀ F w, Rep c.K F w (.ref h.a) → w = .ref h.a := by rintro F w ⟨⟩; rfl) : EH c η h dat (.Call (.Name "isinstance" p) [a, b] [] pos) ρ (.bl k) := ⟨fun F0 H0 σ F H S hd Q q => by
  refine HWE.of (t := tCB (fun xs H Q => ∃ w v, xs = [.ref h.a, w] ∧ (∀ u, RelV w u → u = cv) ∧ H h.dd = some (.xd [("at", v)]) ∧ Q (.bl k) H) (tCons (HWE c η h a) (tCons (HWE c η h b) tNil))) (fun X hX => ?_) ?_
  · refine pe_callB (id := "isinstance") ?_ (glh_of hX hg) (by rw [hX.mg]; exact hm) (by decide +kernel) (pa_cons (HWE.pe hX) (pa_cons (HWE.pe hX) pa_nil (star_cons hf X.env)) (star_cons he X.env)) (by decide) (by decide) (star_cons he X.env) (star_any (by simp [noStar, hf]) pos X.env)
    intro pins s σ H xs us Q I r q
    obtain ⟨w, v, rfl, hcv, ea, q⟩ := q
    cases r with
    | cons rx rr =>
      cases rr with
      | cons rt rr =>
        cases rr
        cases rx
        have ec := hcv _ rt
        rw [ec]
        obtain ⟨oe, od, mA, J, _⟩ := inst_at hX I ea
        obtain ⟨cd, hc, _⟩ := PySem.W.any_some T.hd
        have e2 : PySem.W.kitOne X.K (.ref h.C) cv = some k := by rw [hX.K]; exact hk
        rw [← hX.K] at T hc
        exact PySem.W.kia_one (PySem.W.kitx_exc (by rw [hc]; rfl) T.hg T.hk T.hs T.ha T.hn T.ht T.hm) I.kIn J e2 (fun z => nomatch z) fun tk => ⟨.bl k, H, I.kept (t' := tk) fun _ _ z => z, rfl, q⟩
  · exact ha.run F0 H0 σ F H S hd _ fun v1 F1 H1 g1 r1 => hb.run F0 H0 σ F1 H1 (S.grow g1) (hd.grow g1) _ fun v2 F2 H2 g2 r2 => by
      obtain ⟨v, e1, _⟩ := (hd.grow g1).grow g2
      cases hr _ _ r1
      exact ⟨v2, v, rfl, hv _ _ r2, e1, q _ F2 H2 (g1.trans g2) (.bl k)⟩⟩
theorem eh_at (T : ExcC c.K h.C) (hno : PySem.W.findIn c.K (.ref h.C) "at" = some none) (ha : EH c η h dat a ρ (.ref h.a)) (hb : isCall0 a = false := by rfl) (hr : ∀ F w, Rep c.K F w (.ref h.a) → w = .ref h.a := by rintro F w ⟨⟩; rfl) : EH c η h dat (.Attribute a "at" pos) ρ dat := ⟨fun F0 H0 σ F H S hd Q q => by
  refine HWE.of (t := fun σ H Q => HWE c η h a σ H fun w H1 => w = .ref h.a ∧ ∃ v, H1 h.dd = some (.xd [("at", v)]) ∧ Q v H1) (fun X hX => ⟨fun pins s σ H Q I q => ?_⟩) ?_
  · refine attr_of (base_no hb _ _ _) (thn (q X hX pins s I) fun u s1 hh => ?_)
    obtain ⟨w, H1, I1, rw1, rfl, v, ea, q⟩ := hh
    obtain rfl : u = Value.ref h.a := rw1
    obtain ⟨oe, od, mA, J, ho, hl, rl⟩ := inst_at hX I1 ea
    obtain ⟨u, hu, ru⟩ := RelO.some_of (v := v) (o := mA "at") (rl "at")
    rw [← hX.K] at T hno
    exact HandSPX.exc_get I1.kIn J T.hg T.hk T.hs (PySem.W.findObj_own T.hd hno rfl (by rw [hl, hu])) (handed_of ru) ⟨v, H1, I1.tok _, ru, q⟩
  · exact ha.run F0 H0 σ F H S hd _ fun v1 F1 H1 g1 r1 => by
      obtain ⟨v, e1, r⟩ := hd.grow g1
      exact ⟨hr _ _ r1, v, e1, q v F1 H1 g1 r⟩⟩
theorem sh_ret (he : EH c η h dat e ρ d) : SH c η h dat (.Return (some e) pos :: rest) ρ (.rt d) := ⟨fun F0 H0 σ F H S hd E q =>
  HWB.of (t := tSeq (tRet (HWE c η h e)) (fun _ _ _ => False)) (fun X hX => pss_cons (ps_ret (HWE.pe hX)) ⟨fun _ _ _ _ _ _ z => z.elim⟩) (he.run F0 H0 σ F H S hd _ fun v F' H' g r => q v F' H' (S.g.trans g) r)⟩
theorem sh_retO (he : EHo c η h dat e ρ d) : SH c η h dat (.Return (some e) pos :: rest) ρ (.ro d) := ⟨fun F0 H0 σ F H S hd E q =>
  HWB.of (t := tSeq (tRet (HWE c η h e)) (fun _ _ _ => False)) (fun X hX => pss_cons (ps_ret (HWE.pe hX)) ⟨fun _ _ _ _ _ _ z => z.elim⟩) (he.run F0 H0 σ F H S hd _ fun a F' H' g n n0 ob => q a F' H' (S.g.trans g) n (S.g.h.free n0) ob)⟩
theorem sh_set (i : Nat) {x : Str} (he : EH c η h dat e ρ d) (hN : η.N.Nodup) (hr : SH c η h dat rest (ρ.set i (.va d)) out) (hi : η.N[i]? = some x := by rfl) (hx : η.sc.names.lookup x = some .local := by decide +kernel) (hρ : i < ρ.length := by first | decide | (simp [rho]; done)) (hs : isCmp e = false := by rfl) :
    SH c η h dat (.Assign [.Name x p] e pos :: rest) ρ out := ⟨fun F0 H0 σ F H S hd E q =>
  HWB.of (t := tSeq (tAsg (HWE c η h e) (gName i)) (HWB c η h rest)) (fun X hX => pss_cons (ps_set (by rw [hX.N]; exact hN) (by rw [hX.N]; exact hi) (by rw [hX.sc]; exact .inl hx) (HWE.pe hX) (swap_no hs _ _ X.env) (.inr (by rw [hX.sc]; exact hx))) (HWB.pb hX))
    (he.run F0 H0 σ F H S hd _ fun v F' H' g r => hr.run F0 H0 _ F' H' ((S.grow g).set_va hρ r) (hd.grow g) E q)⟩
end
end DL

set_option Elab.async false
set_option linter.all false
set_option maxRecDepth 100000
set_option maxHeartbeats 4000000
namespace DL
open PySem L2 PyProof.Rows
variable {c : Cc} {η : Nm} {ρ ρ1 ρ2 : Rho} {a b e o : Expr} {es : List Expr} {pos p apos : Pos} {d d1 d2 : D} {ds : List D} {out : Out} {st : Stmt} {rest : List Stmt} {bs : List (List Stmt)} {x y : Str}

structure FnHot (P : Program) (w : World) (K : PySem.W.Frag) (mg : Str → Option Value) (base : Heap) (k : Nat) (f : Addr) (fd : FuncData) (ps : List Str) (sp : Addr × PySem.Obj → Sp) : Prop where
  len : ∀ p vs H Q E, sp p vs H Q E → vs.length = ps.length
  run : ∀ (A : Around) (outer : List Env) (s : Shared) (H : Hp) (us : List Value) (vs : List V) (Q : VK) (E : XK) (p : Addr × PySem.Obj), L2H.RoomH k A → L2H.Hot1 A p → L2H.PinOk outer H s p → Env0 P w K mg base A outer s H → BindsTo s fd ⟨us, []⟩ (ps.zip us) → Vals vs us → sp p vs H Q E →
    codeAny (model P w) A (.call (.ref f) ⟨us, []⟩) (CR CX0 outer P w H s Q E) s
section
variable {P : Program} {w : World} {K : PySem.W.Frag} {mg : Str → Option Value} {base : Heap} {q : Str} {f : Addr} {fd : FuncData} {N ps : List Str} {k : Nat}
theorem fn_hot {sp : Addr × PySem.Obj → Sp} (Fn : L2.Fun K x q st f fd) (S : FnScope N ps (defScope st)) (hl : ∀ p vs H Q E, sp p vs H Q E → vs.length = ps.length)
    (hb : ∀ (cv : Value) (A : Around) (outer : List Env) (s : Shared) (H : Hp) (vs : List V) (Q : VK) (E : XK) (p : Addr × PySem.Obj), L2H.Hot1 A p → L2H.RoomH k (A.deeper (envOfC q (defScope st) s.heap.objs.size f cv)) → sp p vs H Q E →
      ∃ t, PSs (L2H.cxH CX0 P w K mg base N q (defScope st) f cv A outer s H E p) (defBody st) t ∧ t { nx := fun _ H' => Q .non H', rt := Q } (L2.start N vs) H) : FnHot P w K mg base (k + 1) f fd ps sp := by
  obtain ⟨c1, d1, v1, dc1, m1, n1, cv, t1, l1, rfl, hlk, hcode⟩ := Fn.ex
  refine ⟨hl, fun A outer s H us vs Q E p hr hot pin e0 bd rl h => ?_⟩
  have hlen := hl _ _ _ _ _ h
  have kin : K.In s.heap := e0.mod.kin.keeps fun b u z => (e0.bs b u z).1
  have nol : s.heap.NoLimit := e0.mod.nolimit.keeps fun b u z => (e0.bs b u z).1
  have kinds : ∀ y ∈ ps.zip us, (defScope st).names.lookup y.1 = some .local ∨ ((defScope st).names.lookup y.1 = some .cell ∧ ((cellsFrom (s.heap.objs.size + 1) (defScope st).names []).lookup y.1).isSome = true) := by
    rintro ⟨n, v⟩ hy
    rcases S.par n (List.of_mem_zip hy).1 with z | z
    · exact .inl z
    · exact .inr ⟨z, PySem.W.cellsFrom_some _ _ _ (.inl z)⟩
  refine codeAny_call_function hr.depth (kin _ _ hlk) rfl S.co S.gen rfl (PySem.W.codeRec_of kin hcode) (bd _ _ _ _ ?_)
  refine wpAny_newFunctionEnv_cells S.kind kinds fun env he s1 z => ?_
  subst he
  refine ⟨nol.keeps z.toInCall.keep, codeAny_func ?_⟩
  obtain ⟨t, ht, hq⟩ := hb cv A outer s H vs Q E p hot (hr.deeper _) h
  have I0 : Inv (L2H.cxH CX0 P w K mg base N q (defScope st) f cv A outer s H E p) [] (L2.start N vs) H s1 := L2H.inv_startH S pin e0 hlen rl z
  refine wpAny_mono (ht.run [] s1 _ H _ I0 hq) (fun fl s' hs => ?_) fun _ _ hs => hs
  cases fl with
  | next =>
    obtain ⟨σ', H', J, k⟩ := hs
    exact ⟨V.non, H', J.os, J.bare, J.base, J.hok, rfl, k⟩
  | ret u =>
    obtain ⟨v, σ', H', J, r2, k⟩ := hs
    exact ⟨v, H', J.os, J.bare, J.base, J.hok, r2, k⟩
  | brk =>
    obtain ⟨_, _, _, z⟩ := hs
    exact z.elim
  | cont =>
    obtain ⟨_, _, _, z⟩ := hs
    exact z.elim
def spHot (K : PySem.W.Frag) (R : Addr → D → Prop) : Addr × PySem.Obj → Sp := fun p vs H Q _ => ∃ (C dd : Addr) (v : V) (F : Hp) (dat d : D), vs = [.ref p.1] ∧ L2N.Zn (.ref C) (some dd) p.2 ∧ (∃ fs, p.2.data = .fields fs) ∧ Same F H ∧ H dd = some (.xd [("at", v)]) ∧ Rep K F v dat ∧ R C d ∧ ∀ v F' H', Grow F H F' H' → Rep K F' v d → Q v H'
theorem fn_hotR {R : Addr → D → Prop} (Fn : L2.Fun K x q st f fd) (S : FnScope N ps (defScope st)) (hl : ps.length = 1) (hb : ∀ a C dd dat d, R C d → SH ⟨P, w, K, mg, base, k⟩ ⟨N, defScope st, fun _ => true⟩ ⟨a, C, dd⟩ dat (defBody st) (rho N [.ref a]) (.rt d)) : FnHot P w K mg base (k + 1) f fd ps (spHot K R) := by
  refine fn_hot Fn S (fun p vs H Q E h => ?_) fun cv A outer s H vs Q E p hot hr h => ?_
  · obtain ⟨_, _, _, _, _, _, rfl, _⟩ := h
    rw [hl]; rfl
  · obtain ⟨C, dd, v, F, dat, d, rfl, hz, hd, s1, ea, rv, hR, q1⟩ := h
    have hX : CinH ⟨P, w, K, mg, base, k⟩ ⟨N, defScope st, fun _ => true⟩ ⟨p.1, C, dd⟩ (L2H.cxH CX0 P w K mg base N q (defScope st) f cv A outer s H E p) :=
      ⟨rfl, rfl, rfl, rfl, rfl, rfl, rfl, hr, fun _ _ => rfl, p.2, hz, hd, List.mem_singleton.mpr rfl, hot.1⟩
    refine ⟨_, HWB.pb hX, ?_⟩
    exact (hb p.1 C dd dat d hR).run F H _ F H (stt_start s1 (.cons (.ref _) .nil)) ⟨v, ea, rv⟩ ⟨fun _ H' => Q .non H', Q, fun _ _ => False, fun _ _ => False⟩ fun v F' H' g r' => q1 v F' H' g r'
end
structure CallHot (c : Cc) (j : Nat) (x : Str) (R : Addr → D → Prop) : Prop where
  ex : ∃ (f : Addr) (fd : FuncData) (ps : List Str), FnHot c.P c.w c.K c.mg c.base j f fd ps (spHot c.K R) ∧ c.mg x = some (.ref f) ∧ PySem.W.keepIn c.K (.ref f) = true ∧ Binds c.K fd ps []
theorem CallHot.at {j : Nat} {R : Addr → D → Prop} (h : CallHot c j x R) (k : Nat) : CallHot ⟨c.P, c.w, c.K, c.mg, c.base, k⟩ j x R := ⟨h.ex⟩
theorem eh_callHot {h : Hx} {dat : D} {j : Nat} {R : Addr → D → Prop} (cl : CallHot c j x R) (hj : j ≤ c.k) (hR : R h.C d) (ha : EH c η h dat e ρ (.ref h.a)) (hg : glB η.sc x = true := by decide +kernel) (hdb : (x == ("__debug__" : Str)) = false := by decide) (he : isStar e = false := by rfl)
    (hr : ∀ F w, Rep c.K F w (.ref h.a) → w = .ref h.a := by rintro F w ⟨⟩; rfl) : EH c η h dat (.Call (.Name x p) [e] [] pos) ρ d := ⟨fun F0 H0 σ F H S hd Q q => by
  obtain ⟨f, fd, ps, Fn, hm, kp, bd⟩ := cl.ex
  refine HWE.of (t := tCons (HWE c η h e) tNil |> fun t σ H Q => t σ H fun vs H1 => ∃ (v : V) (F1 : Hp), vs = [.ref h.a] ∧ Same F1 H1 ∧ H1 h.dd = some (.xd [("at", v)]) ∧ Rep c.K F1 v dat ∧ ∀ v F' H', Grow F1 H1 F' H' → Rep c.K F' v d → Q v H') (fun X hX => ⟨fun pins s σ H Q I z => ?_⟩) ?_
  · refine wpAny_Call_Name_kw (ld_glob I (glh_of hX hg) (by rw [hX.mg]; exact hm) ?_ hdb)
    have args := (pa_cons (HWE.pe hX) pa_nil (star_cons he X.env)).run pos pins s σ H _ I z
    refine PySem.W.callWith_K (h₀ := X.base) I.ok.mod.kin (by rw [hX.K]; exact kp) (thn args fun us s1 hh => ?_) (star_cons he X.env) (star_any (es := []) rfl pos X.env)
    obtain ⟨vs, H1, J, rl, v, F1, rfl, s1', ea, rv, q1⟩ := hh
    refine ⟨J.kIn, ?_⟩
    obtain ⟨oe, hz, ⟨fs, hdt⟩, hp, hh⟩ := hX.pin
    have P1 := J.pin (h.a, oe) (List.mem_append_left _ hp)
    have ok : L2H.PinOk X.stack H1 s1 (h.a, oe) := { get := P1.1, free := P1.2.1, nofs := fun z => (List.mem_cons.mp (J.stkSub _ z)).elim P1.2.2.1 P1.2.2.2.1, nocell := P1.2.2.2.2 }
    have hs : spHot X.K R (h.a, oe) [.ref h.a] H1 Q E0 := ⟨h.C, h.dd, v, F1, dat, d, rfl, hz, ⟨fs, hdt⟩, s1', ea, by rw [hX.K]; exact rv, hR, by rw [hX.K]; exact q1⟩
    have Fn' : FnHot X.prog X.w X.K X.mg X.base j f fd ps (spHot X.K R) := by rw [hX.prog, hX.w, hX.K, hX.mg, hX.base]; exact Fn
    have bd' : Binds X.K fd ps [] := by rw [hX.K]; exact bd
    have b1 := bd' s1 us J.kIn (by rw [List.append_nil, ← rl.length]; exact Fn'.len _ _ _ _ _ hs)
    rw [List.append_nil] at b1
    refine wpAny_call (codeAny_mono (Fn'.run X.A X.stack s1 H1 us _ Q E0 (h.a, oe) (hX.room.mono hj) ⟨hh, fs, hdt, hz.2.2 fs hdt⟩ ok J.env0 b1 rl hs) fun r s' hq => ?_)
    cases r with
    | error er => exact hq.elim
    | ok fl =>
      cases fl with
      | ret u => exact J.after hq
      | next => exact False.elim hq
      | brk => exact False.elim hq
      | cont => exact False.elim hq
  · exact ha.run F0 H0 σ F H S hd _ fun v1 F1 H1 g1 r1 => by
      obtain ⟨v, e1, r⟩ := hd.grow g1
      cases hr _ _ r1
      exact ⟨v, F1, rfl, g1.fh, e1, r, fun v F' H' g' r' => q v F' H' (g1.trans g') r'⟩⟩

def tSuite (c : Cc) (η : Nm) (suite : List Stmt) (a : Addr) (cls : Value) (d : Option Addr) : TS := fun D σ H => ∃ C dd, cls = .ref C ∧ d = some dd ∧ HWB c η ⟨a, C, dd⟩ suite D σ H
def wTry (c : Cc) (η : Nm) (suite : List Stmt) (B : Addr) (i : Nat) (D : Ends) : WX := L2.wAs c.K (.ref B) i (tSuite c η suite) (fun _ _ _ _ => False) D
section
variable {P : Program} {w : World} {K : PySem.W.Frag} {mg : Str → Option Value} {base : Heap} {q : Str} {f : Addr} {fd : FuncData} {N ps : List Str} {k : Nat}
theorem fn_try {sp : Sp} {body suite : List Stmt} {b0 : Stmt} {cx n : Str} {np hp tp : Pos} {i : Nat} {B : Addr} (Fn : L2.Fun K x q st f fd) (S : FnScope N ps (defScope st)) (hl : ∀ vs H Q E, sp vs H Q E → vs.length = ps.length)
    (hbody : defBody st = [.Try body [.ExceptHandler (some (.Name cx np)) (some n) (b0 :: suite) hp] [] [] tp]) (hi : N[i]? = some n) (hln : (defScope st).names.lookup n = some .local) (hg : glB (defScope st) cx = true) (hdb : (cx == ("__debug__" : Str)) = false) (hm : mg cx = some (.ref B))
    (hb : ∀ vs H Q E, sp vs H Q E → XWB ⟨P, w, K, mg, base, k⟩ ⟨N, defScope st, fun _ => true⟩ body (wTry ⟨P, w, K, mg, base, k⟩ ⟨N, defScope st, fun _ => true⟩ (b0 :: suite) B i { nx := fun _ H' => Q .non H', rt := Q }) { nx := fun _ H' => Q .non H', rt := Q } (L2.start N vs) H) :
    FnOk P w K mg base CX0 (k + 1) f fd ps sp := by
  refine Fn.ok S hl fun cv A outer s H vs Q E hr h => ?_
  let X : Cx := (cxOf CX0 P w K mg base N q (defScope st) f cv A outer s H E).nox
  have hX : Cin ⟨P, w, K, mg, base, k⟩ ⟨N, defScope st, fun _ => true⟩ X := ⟨rfl, rfl, rfl, rfl, rfl, rfl, rfl, hr, rfl, fun _ _ => rfl, PassesOwn.never⟩
  rw [hbody]
  have t0 : L2N.Takes X (fun _ _ _ _ => False) := fun _ _ z => by
    obtain ⟨_, _, _, _, _, _, _, _, _, _, _, _, _, _, _, _, z⟩ := z
    exact z.elim
  have nm : Names X cx (.ref B) := ⟨gl_of hX hg, hdb, .inl hm⟩
  refine ⟨_, pss_cons (L2N.ps_try_as (X := X) (i := i) (tb := fun W => XWB ⟨P, w, K, mg, base, k⟩ ⟨N, defScope st, fun _ => true⟩ body W) (ts := tSuite ⟨P, w, K, mg, base, k⟩ ⟨N, defScope st, fun _ => true⟩ (b0 :: suite)) rfl rfl S.nd hi hln nm t0 (fun W pn xe tk po => ?_) (fun a oe cls d pn hz hd => ?_)) pss_nil, ?_⟩
  · have hX' : Cin ⟨P, w, K, mg, base, k⟩ ⟨N, defScope st, fun _ => true⟩ (X.tr pn xe) := ⟨rfl, rfl, rfl, rfl, rfl, rfl, rfl, hr, rfl, fun _ _ => rfl, po⟩
    exact XWB.pb hX' tk
  · refine ⟨fun pins s1 σ H1 D I z => ?_⟩
    obtain ⟨C, dd, rfl, rfl, z⟩ := z
    exact z (X.suite a ((a, oe) :: pn)) ⟨rfl, rfl, rfl, rfl, rfl, rfl, rfl, L2H.roomH_mark hr _, fun _ _ => rfl, oe, hz, hd, List.mem_cons_self, rfl⟩ pins s1 I
  · exact hb vs H Q E h
end
theorem try_x {F H F0 H0 : Hp} {σ : L2.St} {suite : List Stmt} {B : Addr} {i : Nat} {E : Ends} {z : Str} {dat : D} {C : Addr} (hC : c.mg z = some (.ref C)) (hx : PySem.W.exmOne c.K (.ref C) (.ref B) = some true) (S : Stt c.K F0 H0 ρ σ F H) (he : EX c η e ρ z dat) (hi : i < ρ.length)
    (hs : ∀ a dd, SH c η ⟨a, C, dd⟩ dat suite (ρ.set i (.va (.ref a))) out) (ho : Done c.K F0 H0 { nx := fun σ' H' => E.nx (σ'.set i none) H', rt := E.rt, bk := fun σ' H' => E.bk (σ'.set i none) H', ct := fun σ' H' => E.ct (σ'.set i none) H' } out) :
    XWB c η [.Return (some e) pos] (wTry c η suite B i E) E σ H := by
  refine XWB.of (t := tSeq (tRet (XWE c η e _)) tNext) (fun X hX tk => pss_cons (ps_ret (XWE.pe hX tk)) pss_nil) (he.run F0 H0 σ F H S _ (fun C' dd v F' H' hm g r hd => ?_) _)
  rw [hC] at hm
  cases hm
  refine ⟨true, hx, fun _ a _ => ⟨C, dd, rfl, rfl, ?_⟩, nofun⟩
  exact (hs a dd).run F0 H0 _ F' H' ((S.grow g).set_va hi (.ref a)) ⟨v, hd, r⟩ _ ho
theorem try_ok {F H F0 H0 : Hp} {σ : L2.St} {body : List Stmt} {W : WX} {E : Ends} (S : Stt c.K F0 H0 ρ σ F H) (h : SD c η [body] ρ out) (ho : Done c.K F0 H0 E out) : XWB c η body W E σ H :=
  fun X hX tk pins s I => (h.run F0 H0 σ F H S E ho) X hX pins s I
end DL

set_option Elab.async false
set_option linter.all false
set_option maxRecDepth 100000
set_option maxHeartbeats 4000000
namespace DL
open PySem L2 PyProof.Rows
structure HTab (c : Cc) (base : Str) (xs ys : List Str) : Prop where
  B : ∃ B, c.mg base = some (.ref B) ∧ ∀ x ∈ xs, ∀ C, c.mg x = some (.ref C) → PySem.W.exmOne c.K (.ref C) (.ref B) = some true
  exc : ∀ x ∈ xs, ∀ C, c.mg x = some (.ref C) → ExcC c.K C ∧ PySem.W.findIn c.K (.ref C) "at" = some none
  cls : ∀ x ∈ xs, ∃ C, c.mg x = some (.ref C)
  is : ∀ x ∈ xs, ∀ y ∈ ys, ∀ C, c.mg x = some (.ref C) → ∃ D, c.mg y = some (.ref D) ∧ PySem.W.kitOne c.K (.ref C) (.ref D) = some (decide (x = y))
  ve : ∀ x ∈ xs, ∀ C, c.mg x = some (.ref C) → PySem.W.kitOne c.K (.ref C) (.type "ValueError") = some true
theorem HTab.at {c : Cc} {base : Str} {xs ys : List Str} (h : HTab c base xs ys) (k : Nat) : HTab ⟨c.P, c.w, c.K, c.mg, c.base, k⟩ base xs ys := ⟨h.B, h.exc, h.cls, h.is, h.ve⟩
section
variable {c : Cc} {η : Nm} {ρ : Rho} {a b e o : Expr} {pos p p2 : Pos} {h : Hx} {dat : D} {base x y : Str} {xs ys : List Str}
theorem eh_isX (T : HTab c base xs ys) (hx : x ∈ xs) (hC : c.mg x = some (.ref h.C)) (hy : y ∈ ys) (hm : c.mg "isinstance" = none) (ha : EH c η h dat a ρ (.ref h.a)) (hg : glB η.sc "isinstance" = true := by decide +kernel) (hg2 : glB η.sc y = true := by decide +kernel)
    (hd : (y == ("__debug__" : Str)) = false := by decide) (he : isStar a = false := by rfl) : EH c η h dat (.Call (.Name "isinstance" p) [a, .Name y p2] [] pos) ρ (.bl (decide (x = y))) := by
  obtain ⟨D, hD, hk⟩ := T.is x hx y hy h.C hC
  exact eh_isi (cv := .ref D) (T.exc x hx h.C hC).1 hm hk ha (eh_cls hD hg2 hd) (by rintro F w ⟨⟩ u r; exact r) hg he rfl
theorem eh_isVE (T : HTab c base xs ys) (hx : x ∈ xs) (hC : c.mg x = some (.ref h.C)) (hm : c.mg "isinstance" = none) (hm2 : c.mg "ValueError" = none) (ha : EH c η h dat a ρ (.ref h.a)) (hg : glB η.sc "isinstance" = true := by decide +kernel) (hg2 : glB η.sc "ValueError" = true := by decide +kernel)
    (he : isStar a = false := by rfl) : EH c η h dat (.Call (.Name "isinstance" p) [a, .Name "ValueError" p2] [] pos) ρ (.bl true) :=
  eh_isi (cv := .type "ValueError") (T.exc x hx h.C hC).1 hm (T.ve x hx h.C hC) ha (eh_type (n := "ValueError") hm2 (by decide +kernel) hg2) (by rintro F w ⟨⟩ u r; exact r) hg he rfl
theorem eh_atX (T : HTab c base xs ys) (hx : x ∈ xs) (hC : c.mg x = some (.ref h.C)) (ha : EH c η h dat a ρ (.ref h.a)) (hb : isCall0 a = false := by rfl) : EH c η h dat (.Attribute a "at" pos) ρ dat := eh_at (T.exc x hx h.C hC).1 (T.exc x hx h.C hC).2 ha hb
end
theorem kit_subF {K : PySem.W.Frag} {X Y : Addr} {b : Bool} (hs : PySem.W.subIn K (.ref X) (.ref X) = some true) (h : PySem.W.subIn K (.ref X) (.ref Y) = some b) (hd : PySem.W.hasDictIn K Y = true) (ht : PySem.W.typeIn K (.ref Y) = some (.type "type")) : PySem.W.kitOne K (.ref X) (.ref Y) = some b := by
  unfold PySem.W.kitOne
  by_cases q : X = Y
  · subst q
    rw [hs] at h
    cases h
    rw [if_pos (beq_self_eq_true _)]
  · rw [if_neg (by simp [q])]
    obtain ⟨cd, hc, _⟩ := PySem.W.any_some hd
    have e2 : ((PySem.W.clsIn K Y).isSome && PySem.W.typeIn K (.ref Y) == some (.type "type")) = true := by rw [hc, ht] <;> rfl
    show (if _ = true then PySem.W.subIn K (.ref X) (.ref Y) else none) = some b
    rw [if_pos e2]
    exact h
theorem kit_ve {K : PySem.W.Frag} {X : Addr} (h : PySem.W.subIn K (.ref X) (.type "ValueError") = some true) : PySem.W.kitOne K (.ref X) (.type "ValueError") = some true := by
  unfold PySem.W.kitOne
  rw [if_neg (by simp)]
  show (if PySem.W.kitMeta "ValueError" = true then PySem.W.subIn K (.ref X) (.type "ValueError") else none) = some true
  rw [if_pos (by decide +kernel)]
  exact h
def onceS (k : Bool) (z : Str) : Str := if k then z else Str.empty
theorem onceS_len (k : Bool) (z : Str) : (onceS k z).length ≤ z.length := by cases k <;> (unfold onceS; first | exact Nat.le_refl _ | exact Nat.zero_le _)
theorem str_app_len (a b : Str) : (a ++ b).length = a.length + b.length := by
  show (a.cps ++ b.cps).size = a.cps.size + b.cps.size
  exact Array.size_append
def wordF (x : Str) : Str :=
  (((((((onceS (decide (x = "BadProgram")) "program" ++ onceS (decide (x = "BadRow")) "row") ++ onceS (decide (x = "BadName")) "name") ++ onceS (decide (x = "BadNumber")) "number") ++ onceS (decide (x = "OwnBox")) "own") ++ onceS (decide (x = "TooDeep")) "deep") ++ onceS (decide (x = "BadLine")) "line") ++ onceS (!true) "none")
def R_lword (c : Cc) (xs : List Str) (C : Addr) (d : D) : Prop := ∃ x ∈ xs, c.mg x = some (.ref C) ∧ d = .str (wordF x)
def R_refusal (xs : List Str) (RC : List D → Xr → Prop) (ds : List D) (d : D) : Prop := ds.length = 1 ∧ ∃ r, RC ds r ∧ ((∃ n : Int, r = .ok (.int n) ∧ d = .lst [.int n]) ∨ (∃ x q, r = .xc x q ∧ x ∈ xs ∧ d = .lst [.str (wordF x), q]))
abbrev tryBody (st : Stmt) : List Stmt := match defBody st with
  | [.Try b _ _ _ _] => b
  | _ => []
abbrev trySuite (st : Stmt) : List Stmt := match defBody st with
  | [.Try _ [.ExceptHandler _ _ s _] _ _ _] => s
  | _ => []
end DL

set_option Elab.async false
set_option linter.all false
set_option maxRecDepth 100000
set_option maxHeartbeats 4000000
namespace DL
open PySem L2
def xB (names : List Str) (k : Nat) : Str × List Row := (zN k, List.replicate (k % 3) (.push (nmAt names k)))
def k02More (way : Int) (P : Prog) : Nat := if way / 5 % 6 = 1 then (12 - (P.length : Int) - way / 30 % 3).toNat else 0
def k02X (way : Int) (names : List Str) (P : Prog) : Prog := P ++ (List.range (k02More way P)).map (xB names)
structure PrB (P : Prog) : Prop where
  l1 : 1 ≤ P.length
  l2 : P.length ≤ 12
  nm : ∀ b ∈ P, isNameS b.1 = true ∧ rowsWd b.2 ∧ rowsRev b.2 ∧ rowsCnt b.2 ≤ 230
  nd : (P.map (·.1)).Nodup
  ok : ∀ b ∈ P, BlkOk (inProg P) b
theorem cnt_pos : ∀ r : Row, 1 ≤ r.cnt := by
  intro r
  cases r with
  | iff q1 a b q2 => rw [Row.cnt]; omega
  | round q1 a b q2 => rw [Row.cnt]; omega
  | _ => exact Nat.le_refl 1
theorem rowsLen_cnt : ∀ rs : List Row, rs.length ≤ rowsCnt rs
  | [] => Nat.zero_le _
  | r :: rs => by
    have h1 := rowsLen_cnt rs
    have h2 := cnt_pos r
    rw [rowsCnt, List.length_cons]; omega
theorem PrB.len {P : Prog} (h : PrB P) : ∀ b ∈ P, b.2.length ≤ 230 := fun b hb => Nat.le_trans (rowsLen_cnt b.2) (h.nm b hb).2.2.2
theorem push_all (x : Str) (hx : isNameS x = true) (cs : Str → Prop) : ∀ n, rowsWd (List.replicate n (.push x)) ∧ rowsRev (List.replicate n (.push x)) ∧ rowsGood cs (List.replicate n (.push x)) ∧ rowsDep (List.replicate n (.push x)) = 0 ∧ rowsCnt (List.replicate n (.push x)) = n
  | 0 => ⟨by rw [List.replicate_zero, rowsWd]; trivial, by rw [List.replicate_zero, rowsRev]; trivial, by rw [List.replicate_zero, rowsGood]; trivial, rfl, rfl⟩
  | n + 1 => by
    obtain ⟨a, b, d, e, f⟩ := push_all x hx cs n
    rw [List.replicate_succ, rowsWd, rowsRev, rowsGood, rowsDep, rowsCnt, e, f]
    refine ⟨⟨by rw [Row.wd]; exact hx, a⟩, ⟨?_, b⟩, ⟨?_, d⟩, ?_, ?_⟩
    · rw [Row.rev]
      · exact trivial
      all_goals nofun
    · rw [Row.good]
      · exact trivial
      all_goals nofun
    · rfl
    · show 1 + n = n + 1; omega
section
variable {names : List Str} (hn : ∀ z ∈ names, isNameS z = true) (h12 : names.length = 12)
include hn h12
theorem k02X_ok {cells : List Int} {x way w2 : Int} (hx : names = lawNames x) (hcl : cells.length ≤ 63) : PrB (k02X w2 names (lawProg cells names way)) := by
  have hpm := lawProg_len cells names way
  have hmn := lawMany_ok way
  have hwd := lawProg_wd hn h12 cells way
  have hbk := lawProg_blocks cells names way hcl
  have hct := lawProg_cnt cells names way hcl
  have hrv := lawProg_rev cells names way (by rw [hx]; exact lawNames_six x)
  have hnd := lawProg_nd (cells := cells) (names := names) (way := way) (by rw [hx]; exact lawNames_apart x)
  have hnF : ∀ b ∈ lawProg cells names way, noF b.1 := fun b hb => by
    have h : b.1 ∈ (lawProg cells names way).map (·.1) := List.mem_map_of_mem hb
    rw [lawProg_names, List.mem_map] at h
    obtain ⟨j, hj, e⟩ := h
    rw [List.mem_range] at hj
    rw [← e]
    have hm : nmAt names (8 + (j : Nat)) ∈ names := getD_mem (by omega)
    rw [hx] at hm ⊢
    exact lawNames_noF x _ hm
  generalize lawProg cells names way = P at *
  have hm : k02More w2 P ≤ 11 ∧ k02More w2 P + P.length ≤ 12 := by unfold k02More; split <;> omega
  unfold k02X
  have xb : ∀ b ∈ (List.range (k02More w2 P)).map (xB names), ∃ k, k < 11 ∧ b = xB names k := fun b hb => by
    rw [List.mem_map] at hb
    obtain ⟨k, hk, rfl⟩ := hb
    exact ⟨k, by have := List.mem_range.mp hk; omega, rfl⟩
  have hpu := fun (k : Nat) (hk : k < 11) (cs : Str → Prop) => push_all (nmAt names k) (nmAt_nm12 hn h12 (by omega) (by omega)) cs (k % 3)
  refine ⟨by rw [List.length_append]; omega, by rw [List.length_append, List.length_map, List.length_range]; omega, fun b hb => ?_, ?_, fun b hb => ?_⟩
  · rcases List.mem_append.mp hb with h | h
    · exact ⟨(hwd b h).1, (hwd b h).2, hrv b h, hct b h⟩
    · obtain ⟨k, hk, rfl⟩ := xb b h
      obtain ⟨a, b, d, e, f⟩ := hpu k hk (fun _ => True)
      exact ⟨isNameS_of (zN_ok k hk).1, a, b, by show rowsCnt (List.replicate (k % 3) _) ≤ 230; rw [f]; omega⟩
  · rw [List.map_append, List.map_map]
    refine List.nodup_append.mpr ⟨hnd, ?_, ?_⟩
    · refine List.Nodup.sublist ?_ zN_nd
      show List.Sublist ((List.range (k02More w2 P)).map zN) _
      refine List.Sublist.map _ ?_
      exact List.range_sublist.mpr hm.1
    · intro a ha b hb e
      subst e
      rw [List.mem_map] at ha hb
      obtain ⟨b, hb', rfl⟩ := ha
      obtain ⟨k, hk, e⟩ := hb
      have h1 := hnF b hb'
      rw [← e] at h1
      have h2 := (zN_ok k (by have := List.mem_range.mp hk; omega)).2
      unfold noF at h1
      change figB ((zN k).cps.toList.getD 2 0) = false at h1
      rw [h2] at h1
      cases h1
  · have mono : ∀ y, inProg P y → inProg (P ++ (List.range (k02More w2 P)).map (xB names)) y := fun y hy => by
      unfold inProg at hy ⊢
      rw [List.map_append]
      exact List.mem_append_left _ hy
    rcases List.mem_append.mp hb with h | h
    · exact ⟨(hbk b h).1, goods_mono mono _ (hbk b h).2.1, (hbk b h).2.2⟩
    · obtain ⟨k, hk, rfl⟩ := xb b h
      obtain ⟨a, b, d, e, f⟩ := hpu k hk (inProg (P ++ (List.range (k02More w2 P)).map (xB names)))
      exact ⟨by show rowsDep (List.replicate (k % 3) _) ≤ 4; rw [e]; omega, d, by show (List.replicate (k % 3) _).length ≤ 300; rw [List.length_replicate]; omega⟩
structure PrZ (P : Prog) : Prop where
  l1 : 1 ≤ P.length
  l2 : P.length ≤ 12
  nm : ∀ b ∈ P, isNameS b.1 = true ∧ rowsWd b.2
  nd : (P.map (·.1)).Nodup
  ok : ∀ b ∈ P, Blk9 (inProg P) b
omit hn h12 in
theorem PrB.z {P : Prog} (h : PrB P) : PrZ P := ⟨h.l1, h.l2, fun b hb => ⟨(h.nm b hb).1, (h.nm b hb).2.1⟩, h.nd, fun b hb => (h.ok b hb).nine⟩
omit hn h12 in
theorem PrB.cko {P : Prog} (h : PrB P) : ∀ b ∈ P, rowsCko (P.map (·.1)) b.2 ∧ rowsFit b.2 8 := fun b hb => by
  have h1 := h.nm b hb
  have h2 := h.ok b hb
  exact ⟨fun r hr => ⟨rowsWd_mem h1.2.1 hr, rowsRev_mem h1.2.2.1 hr, rowsGood_mem h2.2.1 hr⟩, fits_dep _ (by have := h2.1; omega)⟩
end
end DL

set_option Elab.async false
set_option linter.all false
set_option maxRecDepth 100000
set_option maxHeartbeats 4000000
namespace DL
open PySem L2
def askR : List D → Option Str
  | [q1, a, b, q2] => ckAsk q1 a b q2
  | _ => none
def rowBad (ns : List Str) (r : D) : Option Str := match formOf r with
  | none => some "BadRow"
  | some (w, rest) => if w = "if" ∨ w = "round" then askR rest else ckLeaf ns w rest
theorem ckRow_bad {ns : List Str} {r : D} {x : Str} (h : rowBad ns r = some x) (n : Nat) (pl : List D) : ckRow ns (n + 1) r pl = .bad x pl := by
  unfold rowBad at h
  cases e : formOf r with
  | none =>
    rw [e] at h
    cases h
    exact ckRow_form e
  | some wr =>
    obtain ⟨w, rest⟩ := wr
    rw [e] at h
    change (if w = "if" ∨ w = "round" then askR rest else ckLeaf ns w rest) = some x at h
    by_cases hw : w = "if" ∨ w = "round"
    · rw [if_pos hw] at h
      match rest, h, e with
      | [q1, a, b, q2], h, e =>
        rw [ckRow_both e hw]
        have h : ckAsk q1 a b q2 = some x := h
        rw [h]
    · rw [if_neg hw] at h
      rw [ckRow_leaf e hw, h]
theorem ckRow_zero (ns : List Str) (r : D) (pl : List D) : ckRow ns 0 r pl = .bad (if (formOf r).isSome = true then "TooDeep" else "BadRow") pl := by
  cases e : formOf r with
  | none => rw [ckRow_form e]; rfl
  | some wr => rw [ckRow_deep e]; rfl
def goalB : D → Bool
  | .tup [.str w, .str z] => !(decide (w = "call") || decide (w = "undo")) || decide (z = "nobody")
  | _ => true
theorem rowBad_ns {ns : List Str} {r : D} (hg : goalB r = true) (hn : ("nobody" : Str) ∉ ns) : rowBad ns r = rowBad [] r := by
  unfold rowBad
  cases e : formOf r with
  | none => rfl
  | some wr =>
    obtain ⟨w, rest⟩ := wr
    obtain ⟨er, _⟩ := formOf_some e
    show (if w = "if" ∨ w = "round" then askR rest else ckLeaf ns w rest) = (if w = "if" ∨ w = "round" then askR rest else ckLeaf [] w rest)
    congr 1
    unfold ckLeaf
    by_cases hp : w = "put"
    · rw [if_pos hp, if_pos hp]
    · rw [if_neg hp, if_neg hp]
      by_cases hc : w = "call" ∨ w = "undo"
      · rw [if_pos hc, if_pos hc]
        match rest, er with
        | [], _ => rfl
        | _ :: _ :: _, _ => rfl
        | [g], er =>
          cases g with
          | str z =>
            subst er
            have hz : z = "nobody" := by
              have h : (!(decide (w = "call") || decide (w = "undo")) || decide (z = "nobody")) = true := hg
              have hd : (decide (w = "call") || decide (w = "undo")) = true := by rcases hc with h | h <;> simp [h]
              rw [hd] at h
              exact of_decide_eq_true (by simpa using h)
            subst hz
            show (if ("nobody" : Str) ∈ ns then none else some ("BadName" : Str)) = (if ("nobody" : Str) ∈ ([] : List Str) then none else some ("BadName" : Str))
            rw [if_neg hn, if_neg (by simp)]
          | _ => rfl
      · rw [if_neg hc, if_neg hc]
def clsW (w : Str) : Str := if w = "row" then "BadRow" else if w = "name" then "BadName" else if w = "number" then "BadNumber" else if w = "own" then "OwnBox" else if w = "program" then "BadProgram" else "TooDeep"
def bad6 : List Str := ["BadProgram", "BadRow", "BadName", "BadNumber", "OwnBox", "TooDeep"]
def tagOf : D → Str
  | .tup [_, .str w] => w
  | _ => default
def badOkB (d : D) : Bool := goalB (rowPart d) && (decide (rowBad [] (rowPart d) = some (clsW (tagOf d))) && (((formOf (rowPart d)).isSome || decide (tagOf d = "row")) && decide (tagOf d ∈ (["row", "name", "number", "own"] : List Str))))
theorem badOk_all : badAll.all badOkB = true := by decide +kernel
theorem bad_ok (n : Int) {ns : List Str} (hn : ("nobody" : Str) ∉ ns) : rowBad ns (bdRow n) = some (clsW (bdWord n)) ∧ ((formOf (bdRow n)).isSome = true ∨ bdWord n = "row") ∧ bdWord n ∈ (["row", "name", "number", "own"] : List Str) := by
  have h := bdRow_mem n badOkB badOk_all
  rw [badAt_d n] at h
  have h : (goalB (bdRow n) && (decide (rowBad [] (bdRow n) = some (clsW (bdWord n))) && (((formOf (bdRow n)).isSome || decide (bdWord n = "row")) && decide (bdWord n ∈ (["row", "name", "number", "own"] : List Str))))) = true := h
  simp only [Bool.and_eq_true, Bool.or_eq_true, decide_eq_true_eq] at h
  obtain ⟨h1, h2, h3, h4⟩ := h
  exact ⟨by rw [rowBad_ns h1 hn]; exact h2, h3, h4⟩
theorem cls_word : ∀ w ∈ (["row", "name", "number", "own", "program", "deep"] : List Str), wordF (clsW w) = w ∧ clsW w ∈ bad6 := by decide +kernel
section
variable {names : List Str} (hn : ∀ z ∈ names, isNameS z = true) (h12 : names.length = 12)
include hn h12
theorem spQ_chk : (spQ names).chk := ⟨⟨nmAt_nm12 hn h12 (by omega) (by omega), trivial⟩, trivial, show (0 : Int) ≤ 1 ∧ (1 : Int) < 1000000 by omega⟩
theorem spSd_cko (ns : List Str) (more : Int) (part : Bool) : rowsCko ns (spSd more names part) := by
  have h1 := nmAt_nm12 hn h12 (i := 1) (by omega) (by omega)
  have h2 := nmAt_nm12 hn h12 (i := 2) (by omega) (by omega)
  have h3 := nmAt_nm12 hn h12 (i := 3) (by omega) (by omega)
  intro r hr
  unfold spSd at hr
  split at hr
  · split at hr
    · rw [List.eq_of_mem_replicate hr]
      exact ⟨by rw [Row.wd]; exact h3, by rw [Row.rev]; exact trivial; all_goals nofun, by rw [Row.good]; exact trivial; all_goals nofun⟩
    · rw [List.eq_of_mem_replicate hr]
      exact ⟨by rw [Row.wd]; exact ⟨h1, h2⟩, by rw [Row.rev]; exact trivial; all_goals nofun, by rw [Row.good]; exact trivial; all_goals nofun⟩
  · cases hr
omit hn h12 in
theorem spSd_fit (more : Int) (part : Bool) {j : Nat} (hj : 8 - spLv more ≤ j) : rowsFit (spSd more names part) j := by
  unfold spSd
  split
  · rename_i h
    have hj1 : 1 ≤ j := by omega
    have rep : ∀ (n : Nat) (r : Row), r.fit j → rowsFit (List.replicate n r) j := fun n r hr => by
      induction n with
      | zero => rw [List.replicate_zero, rowsFit]; trivial
      | succ n ih => rw [List.replicate_succ, rowsFit]; exact ⟨hr, ih⟩
    split
    · exact rep _ _ (by rw [Row.fit]; exact hj1; all_goals nofun)
    · exact rep _ _ (by rw [Row.fit]; exact hj1; all_goals nofun)
  · rw [rowsFit]; trivial
theorem spT_bad (ns : List Str) (more : Int) (tl : List D) (bad : D) (x : Str) (n : Nat) (hn8 : 8 - spLv more ≤ n) (hb : ∀ pl, ckRow ns n bad pl = .bad x pl) :
    ∀ (m k : Nat) (C : List Row) (pl : List D), rowsCko ns C → rowsFit C (m + n) → ckL (ckRow ns (m + n)) pl 0 (rowsD C ++ spT more names (bad :: tl) k m) = .bad x (pl ++ spTl more names k m C.length)
  | 0, k, C, pl, hc, hf => by
    rw [spT, Nat.zero_add] at *
    rw [rows_bad C 0 hc hf (hb _), Nat.zero_add, spTl]
  | m + 1, k, C, pl, hc, hf => by
    have q := spQ_chk hn h12
    have hz : spWd more k = "if" ∨ spWd more k = "round" := by unfold spWd; split <;> simp
    have ih := spT_bad ns more tl bad x n hn8 hb m (k + 1) (spSd more names (spB more k))
    have sc := spSd_cko hn h12 ns more
    have sf := fun part => spSd_fit (names := names) more part (j := m + n) (by omega)
    rw [spT]
    have e : m + 1 + n = (m + n) + 1 := by omega
    rw [e] at hf ⊢
    have hrow : ∀ pl, ckRow ns ((m + n) + 1) (spRow more names k (rowsD (spSd more names (spB more k)) ++ spT more names (bad :: tl) (k + 1) m)) pl = .bad x (pl ++ (.int (spPart more k) :: spTl more names (k + 1) m (spSd more names (spB more k)).length)) := fun pl => by
      have hp : spPart more k = 0 ∨ spPart more k = 1 := by unfold spPart; omega
      unfold spRow
      rcases hp with hp | hp
      · have hb0 : spB more k = false := by unfold spB; rw [hp]; rfl
        rw [hb0] at ih ⊢
        show ckRow ns ((m + n) + 1) (.tup [.str (spWd more k), (spQ names).d, .lst (rowsD (spSd more names false) ++ spT more names (bad :: tl) (k + 1) m), .lst (rowsD (spSd more names true)), (spQ names).d]) pl = _
        rw [asks_ck hz q q, ih (pl ++ [D.int 0]) (sc false) (sf false), hp]
        show Ck.bad _ _ = _
        rw [List.append_assoc]
        rfl
      · have hb0 : spB more k = true := by unfold spB; rw [hp]; rfl
        rw [hb0] at ih ⊢
        show ckRow ns ((m + n) + 1) (.tup [.str (spWd more k), (spQ names).d, .lst (rowsD (spSd more names false)), .lst (rowsD (spSd more names true) ++ spT more names (bad :: tl) (k + 1) m), (spQ names).d]) pl = _
        rw [asks_ck hz q q, rows_ck _ _ _ _ (sc false) (sf false)]
        show (match ckL (ckRow ns (m + n)) (pl ++ [.int 1]) 0 (rowsD (spSd more names true) ++ spT more names (bad :: tl) (k + 1) m) with | .bad x q => Ck.bad x q | .ok j => _) = _
        rw [ih (pl ++ [D.int 1]) (sc true) (sf true), hp]
        show Ck.bad _ _ = _
        rw [List.append_assoc]
        rfl
    rw [rows_bad C 0 hc hf (hrow _), Nat.zero_add, spTl, List.append_assoc]
    rfl
theorem spT_fines (more : Int) (tip : List D) (ht : D.fines tip) (htl : tip.length ≤ 3) : ∀ m k, D.fines (spT more names tip k m) ∧ (spT more names tip k m).length ≤ 3
  | 0, k => by rw [spT]; exact ⟨ht, htl⟩
  | m + 1, k => by
    obtain ⟨h1, h2⟩ := spT_fines more tip ht htl m (k + 1)
    have q := qn_fine (spQ_chk hn h12)
    have sf : ∀ part, D.fines (rowsD (spSd more names part)) := fun part => rows_fine (cs := fun _ => True) _ (rowsWd_of' fun r hr => (spSd_cko hn h12 [] more part r hr).wd) (goods_mono (fun _ _ => trivial) _ (rowsGood_of fun r hr => (spSd_cko hn h12 [] more part r hr).good))
    have sl := fun part => spSd_len more names part
    have hw : (D.str (spWd more k)).fine := str6_fine (by unfold spWd; split <;> decide +kernel)
    have fa : (D.lst (rowsD (spSd more names (spB more k)) ++ spT more names tip (k + 1) m)).fine := by
      rw [D.fine]
      exact ⟨by rw [List.length_append, rowsD_len]; have := sl (spB more k); omega, fines_app (sf _) h1⟩
    have fo : (D.lst (rowsD (spSd more names (!spB more k)))).fine := by
      rw [D.fine]
      exact ⟨by rw [rowsD_len]; have := sl (!spB more k); omega, sf _⟩
    rw [spT]
    refine ⟨fines_cons ?_ fines_nil, by simp⟩
    unfold spRow
    cases hb : spB more k
    · rw [hb] at fa fo
      show (D.tup [.str (spWd more k), (spQ names).d, .lst (rowsD (spSd more names false) ++ spT more names tip (k + 1) m), .lst (rowsD (spSd more names (!false))), (spQ names).d]).fine
      rw [D.fine]
      exact ⟨by simp, fines_cons hw (fines_cons q (fines_cons fa (fines_cons fo (fines_cons q fines_nil))))⟩
    · rw [hb] at fa fo
      show (D.tup [.str (spWd more k), (spQ names).d, .lst (rowsD (spSd more names (!true))), .lst (rowsD (spSd more names true) ++ spT more names tip (k + 1) m), (spQ names).d]).fine
      rw [D.fine]
      exact ⟨by simp, fines_cons hw (fines_cons q (fines_cons fo (fines_cons fa (fines_cons q fines_nil))))⟩
theorem spTip_fines (first more : Int) : D.fines (spTip first more names) ∧ (spTip first more names).length ≤ 3 := by
  have h1 := nmAt_nm12 hn h12 (i := 1) (by omega) (by omega)
  have hp : (Row.push (nmAt names 1)).d.fine := row_fine (cs := fun _ => True) _ (by rw [Row.wd]; exact h1) (by rw [Row.good]; exact trivial; all_goals nofun)
  unfold spTip
  split
  · exact ⟨fines_cons (bdRow_fine _) (fines_cons hp (fines_cons (bdRow_fine _) fines_nil)), by simp⟩
  · exact ⟨fines_cons (bdRow_fine _) (fines_cons hp fines_nil), by simp⟩
omit hn h12 in
theorem spX_fines (first more : Int) : D.fines (spX first more) ∧ (spX first more).length ≤ 1 := by
  unfold spX
  split
  · exact ⟨fines_cons (bdRow_fine _) fines_nil, by simp⟩
  · exact ⟨fines_nil, by simp⟩
omit hn h12 in
theorem ckL_more {f : D → List D → Ck} {pl q Y : List D} {x : Str} : ∀ (xs : List D) (i : Nat), ckL f pl i xs = .bad x q → ckL f pl i (xs ++ Y) = .bad x q
  | [], i, h => by rw [ckL] at h; cases h
  | r :: xs, i, h => by
    rw [ckL] at h
    rw [List.cons_append, ckL]
    cases e : f r (pl ++ [.int (i : Nat)]) with
    | bad y z => rw [e] at h; exact h
    | ok k =>
      rw [e] at h
      have h : (match ckL f pl (i + 1) xs with | .bad x q => Ck.bad x q | .ok m => .ok (k + m)) = .bad x q := h
      cases e2 : ckL f pl (i + 1) xs with
      | ok m => rw [e2] at h; cases h
      | bad y z =>
        rw [e2] at h
        have h : Ck.bad y z = .bad x q := h
        cases h
        show (match ckL f pl (i + 1) (xs ++ Y) with | .bad x q => Ck.bad x q | .ok m => .ok (k + m)) = _
        rw [ckL_more xs (i + 1) e2]
omit hn h12 in
theorem blocks_badD {ns : List Str} {x : Str} {q : List D} {b : Str × List D} {rest : List (Str × List D)} : ∀ P : Prog, (∀ b ∈ P, rowsCko ns b.2 ∧ rowsFit b.2 8) → ckL (ckRow ns 8) [.str b.1] 0 b.2 = .bad x q → ckBlocks ns (toB P ++ b :: rest) = .bad x q
  | [], _, h => by
    show ckBlocks ns (b :: rest) = _
    rw [ckBlocks, h]
  | a :: P, h, hb => by
    show ckBlocks ns ((a.1, rowsD a.2) :: (toB P ++ b :: rest)) = _
    have h1 := h a List.mem_cons_self
    rw [ckBlocks, rows_ck a.2 8 _ 0 h1.1 h1.2]
    show (match ckBlocks ns (toB P ++ b :: rest) with | .bad x q => Ck.bad x q | .ok m => .ok (rowsCnt a.2 + m)) = _
    rw [blocks_badD P (fun b hb => h b (List.mem_cons_of_mem _ hb)) hb]
omit hn h12 in
theorem spTl_ints (more : Int) (names : List Str) : ∀ m k n, ∃ is : List Int, spTl more names k m n = is.map .int ∧ is.length = 2 * m + 1
  | 0, k, n => ⟨[(n : Int)], by rw [spTl]; rfl, rfl⟩
  | m + 1, k, n => by
    obtain ⟨is, h1, h2⟩ := spTl_ints more names m (k + 1) (spSd more names (spB more k)).length
    exact ⟨(n : Int) :: spPart more k :: is, by rw [spTl, h1]; rfl, by rw [List.length_cons, List.length_cons, h2]; omega⟩
theorem sp_plain {P : Prog} {first more : Int} {B : List (Str × List D)} {d : D} (hP : PrB P) (hnb : ("nobody" : Str) ∉ P.map (·.1)) (h : SpOk P names first more B d) :
    ∃ x q, R_xchecked3 [.lst (blksD B)] (.xc x (.tup q)) ∧ x ∈ bad6 ∧ d = .lst [.str (wordF x), .tup q] ∧ d.okA = true ∧ d.depth ≤ 2 ∧ B.length ≤ 12 := by
  obtain ⟨bs1, b, bs2, Y, B2, rfl, rfl, hB2, hY, hB3, rfl⟩ := h
  have hlv := spLv_le more
  obtain ⟨tf1, tf2⟩ := spTip_fines hn h12 first more
  obtain ⟨xf1, xf2⟩ := spX_fines first more
  obtain ⟨sf1, sf2⟩ := spT_fines hn h12 more _ tf1 tf2 (spLv more) 0
  have hYf : D.fines Y ∧ Y.length ≤ 1 := by
    rcases hY with rfl | rfl
    · exact ⟨fines_nil, by simp⟩
    · exact ⟨xf1, xf2⟩
  have hns : (toB bs1 ++ (b.1, (rowsD b.2 ++ spT more names (spTip first more names) 0 (spLv more)) ++ Y) :: B2).map (·.1) = (bs1 ++ b :: bs2).map (·.1) := by
    rw [List.map_append, List.map_append, toB_nm, List.map_cons, List.map_cons, hB2]
  have hlen : (toB bs1 ++ (b.1, (rowsD b.2 ++ spT more names (spTip first more names) 0 (spLv more)) ++ Y) :: B2).length = (bs1 ++ b :: bs2).length := by
    have := congrArg List.length hns
    rwa [List.length_map, List.length_map] at this
  have rf : ∀ a ∈ bs1 ++ b :: bs2, D.fines (rowsD a.2) ∧ (rowsD a.2).length ≤ 300 := fun a ha => ⟨rows_fine a.2 (hP.nm a ha).2.1 (hP.ok a ha).2.1, by rw [rowsD_len]; exact (hP.ok a ha).2.2⟩
  have hfin : ∀ a ∈ toB bs1 ++ (b.1, (rowsD b.2 ++ spT more names (spTip first more names) 0 (spLv more)) ++ Y) :: B2, a.2.length ≤ 80000 ∧ D.fines a.2 := fun a ha => by
    rcases List.mem_append.mp ha with h | h
    · unfold toB at h
      rw [List.mem_map] at h
      obtain ⟨r, hr, rfl⟩ := h
      obtain ⟨f1, f2⟩ := rf r (List.mem_append_left _ hr)
      exact ⟨Nat.le_trans f2 (by decide), f1⟩
    · rcases List.mem_cons.mp h with rfl | h
      · obtain ⟨f1, f2⟩ := rf b (List.mem_append_right _ List.mem_cons_self)
        refine ⟨?_, fines_app (fines_app f1 sf1) hYf.1⟩
        show ((rowsD b.2 ++ spT more names (spTip first more names) 0 (spLv more)) ++ Y).length ≤ 80000
        rw [List.length_append, List.length_append]
        have := hYf.2
        omega
      · obtain ⟨r, ⟨b3, hb3, rfl⟩, hr⟩ := hB3 a h
        obtain ⟨f1, f2⟩ := rf b3 (List.mem_append_right _ (List.mem_cons_of_mem _ hb3))
        rcases hr with hr | hr
        · rw [hr]; exact ⟨Nat.le_trans f2 (by decide), f1⟩
        · rw [hr]; exact ⟨by rw [List.length_append]; omega, fines_app f1 xf1⟩
  have hnm : ∀ a ∈ toB bs1 ++ (b.1, (rowsD b.2 ++ spT more names (spTip first more names) 0 (spLv more)) ++ Y) :: B2, isNameS a.1 = true := fun a ha => by
    have hm : a.1 ∈ (toB bs1 ++ (b.1, (rowsD b.2 ++ spT more names (spTip first more names) 0 (spLv more)) ++ Y) :: B2).map (·.1) := List.mem_map_of_mem ha
    rw [hns, List.mem_map] at hm
    obtain ⟨r, hr, e⟩ := hm
    rw [← e]
    exact (hP.nm r hr).1
  have hck : CkBs (toB bs1 ++ (b.1, (rowsD b.2 ++ spT more names (spTip first more names) 0 (spLv more)) ++ Y) :: B2) := ⟨by rw [hlen]; exact hP.l1, by rw [hlen]; exact hP.l2, hnm, by rw [hns]; exact hP.nd, hfin⟩
  have hdf : (D.lst (blksD (toB bs1 ++ (b.1, (rowsD b.2 ++ spT more names (spTip first more names) 0 (spLv more)) ++ Y) :: B2))).fine := by
    rw [D.fine]
    have hl2 := hP.l2
    refine ⟨by unfold blksD; rw [List.length_map, hlen]; omega, ?_⟩
    have all : ∀ (L : List (Str × List D)), (∀ a ∈ L, isNameS a.1 = true ∧ a.2.length ≤ 80000 ∧ D.fines a.2) → D.fines (blksD L) := fun L hL => by
      induction L with
      | nil => exact fines_nil
      | cons a L ih =>
        obtain ⟨h1, h2, h3⟩ := hL a List.mem_cons_self
        refine fines_cons ?_ (ih fun z hz => hL z (List.mem_cons_of_mem _ hz))
        rw [D.fine]
        exact ⟨by simp, fines_cons (name_fine h1) (fines_cons (by rw [D.fine]; exact ⟨h2, h3⟩) fines_nil)⟩
    exact all _ fun a ha => ⟨hnm a ha, hfin a ha⟩
  obtain ⟨k1, k2, k3⟩ := bad_ok first hnb
  have hcko := hP.cko
  have hbk := hcko b (List.mem_append_right _ List.mem_cons_self)
  obtain ⟨is, hi1, hi2⟩ := spTl_ints more names (spLv more) 0 b.2.length
  -- the class
  obtain ⟨x, hx, hx6, hxw⟩ : ∃ x, (∀ pl, ckRow ((bs1 ++ b :: bs2).map (·.1)) (8 - spLv more) (bdRow first) pl = .bad x pl) ∧ x ∈ bad6 ∧ wordF x = spWord first more := by
    by_cases h8 : spLv more = 8
    · rw [h8]
      refine ⟨_, fun pl => ckRow_zero _ _ pl, ?_, ?_⟩
      · split <;> decide +kernel
      · unfold spWord
        by_cases hs : (formOf (bdRow first)).isSome = true
        · rw [if_pos hs, if_pos ⟨h8, hs⟩]; decide +kernel
        · rw [if_neg hs, if_neg (fun z => hs z.2)]
          rcases k2 with k2 | k2
          · exact absurd k2 hs
          · rw [k2]; decide +kernel
    · obtain ⟨n, hnn⟩ : ∃ n, 8 - spLv more = n + 1 := ⟨7 - spLv more, by omega⟩
      rw [hnn]
      have cw := cls_word (bdWord first) (by
        simp only [List.mem_cons, List.not_mem_nil, or_false] at k3 ⊢
        rcases k3 with h | h | h | h <;> simp [h])
      refine ⟨_, fun pl => ckRow_bad k1 n pl, cw.2, ?_⟩
      unfold spWord
      rw [if_neg (fun z => h8 z.1)]
      exact cw.1
  have htip : spTip first more names = bdRow first :: (spTip first more names).tail := by unfold spTip; rfl
  have hb8 := spT_bad hn h12 ((bs1 ++ b :: bs2).map (·.1)) more (spTip first more names).tail (bdRow first) x (8 - spLv more) (Nat.le_refl _) hx (spLv more) 0 b.2 [.str b.1] hbk.1 (by rw [show spLv more + (8 - spLv more) = 8 by omega]; exact hbk.2)
  rw [show spLv more + (8 - spLv more) = 8 by omega, ← htip] at hb8
  refine ⟨x, .str b.1 :: spTl more names 0 (spLv more) b.2.length, ⟨_, rfl, hdf, ?_⟩, hx6, by rw [hxw], ?_, ?_, by rw [hlen]; exact hP.l2⟩
  · have := PrR.ok hck
    rw [hns, blocks_badD bs1 (fun a ha => hcko a (List.mem_append_left _ ha)) (ckL_more (Y := Y) _ 0 hb8)] at this
    exact this
  · have e1 : (D.tup (.str b.1 :: spTl more names 0 (spLv more) b.2.length)).okA = true := by
      have hd : decide ((D.str b.1 :: spTl more names 0 (spLv more) b.2.length).length ≤ 90000) = true := by
        rw [hi1, List.length_cons, List.length_map, hi2]
        exact decide_eq_true (by omega)
      rw [D.okA, hd]
      show (true && D.okAs (.str _ :: _)) = true
      rw [D.okAs, hi1, okAs_ints]
      rfl
    rw [D.okA, D.okAs, D.okAs, D.okAs, e1]
    rfl
  · have e : (D.tup (.str b.1 :: spTl more names 0 (spLv more) b.2.length)).depth = 1 := by
      rw [D.depth, D.depths, hi1, depths_ints, str_depth]
      rfl
    rw [lst_depth, D.depths, D.depths, D.depths, str_depth, e]
    decide
omit hn h12 in
theorem progBad_ok {d : D} (h : (match d with
    | .lst xs => decide (xs.length = 0) || (decide (12 < xs.length) || xs.any fun b => !isBlk b)
    | _ => true) = true) : PrR d (.xc "BadProgram" .non) := by
  cases d with
  | lst xs =>
    have h : (decide (xs.length = 0) || (decide (12 < xs.length) || xs.any fun b => !isBlk b)) = true := h
    simp only [Bool.or_eq_true, decide_eq_true_eq] at h
    by_cases hl : 1 ≤ xs.length ∧ xs.length ≤ 12
    · have ha : (xs.any fun b => !isBlk b) = true := by
        rcases h with h | h | h
        · omega
        · omega
        · exact h
      have hlt : xs.findIdx (fun b => !isBlk b) < xs.length := List.findIdx_lt_length_of_exists (by
        rw [List.any_eq_true] at ha
        obtain ⟨b, hb, e⟩ := ha
        exact ⟨b, hb, e⟩)
      refine .blk (i := xs.findIdx (fun b => !isBlk b)) hl (List.getElem?_eq_getElem hlt) ?_ (fun j b' hj hb' => ?_)
      · have := List.findIdx_getElem (w := hlt)
        simpa using this
      · have hjl : j < xs.length := by omega
        have := List.not_of_lt_findIdx hj
        rw [List.getElem?_eq_getElem hjl] at hb'
        cases hb'
        simpa using this
    · exact .len hl
  | _ => exact .nlst rfl
def progBadB : D → Bool
  | .lst xs => decide (xs.length = 0) || (decide (12 < xs.length) || xs.any fun b => !isBlk b)
  | _ => true
omit hn h12 in
theorem prog_bad (n : Int) : ∃ d w x, badProgAt n = .tup [d, .str w] ∧ R_xchecked3 [d] (.xc x .non) ∧ x ∈ bad6 ∧ w = wordF x := by
  unfold badProgAt
  by_cases h : n % 8 = 0
  · rw [if_pos h]
    refine ⟨_, _, "BadName", rfl, ⟨_, rfl, fineB_ok _ (by decide +kernel), ?_⟩, by decide +kernel, by decide +kernel⟩
    exact PrR.two (bs := [("a", [.tup [.str "push", .str "a"]]), ("b", []), ("a", [])]) (by decide) (by decide) (by
      intro b hb
      simp only [List.mem_cons, List.not_mem_nil, or_false] at hb
      rcases hb with rfl | rfl | rfl <;> decide +kernel) (by decide +kernel)
  · rw [if_neg h]
    have h15 : badProg.length = 15 := by decide
    have hm : badProg.getD (n / 8 % 15).toNat .non ∈ badProg := by
      rw [List.getD_eq_getElem?_getD, List.getElem?_eq_getElem (by omega)]
      exact List.getElem_mem _
    have h1 : badProg.all (fun d => progBadB d && fineB d) = true := by decide +kernel
    rw [List.all_eq_true] at h1
    have h2 := h1 _ hm
    rw [Bool.and_eq_true] at h2
    refine ⟨_, _, "BadProgram", rfl, ⟨_, rfl, fineB_ok _ h2.2, progBad_ok ?_⟩, by decide +kernel, by decide +kernel⟩
    have h3 := h2.1
    revert h3
    generalize badProg.getD (n / 8 % 15).toNat .non = d
    intro h3
    cases d <;> exact h3
theorem lawProg_PrB {cells : List Int} {x way : Int} (hx : names = lawNames x) (hcl : cells.length ≤ 63) : PrB (lawProg cells names way) := by
  have h := k02X_ok hn h12 (cells := cells) (way := way) (w2 := 0) hx hcl
  have e : k02X 0 names (lawProg cells names way) = lawProg cells names way := by
    unfold k02X k02More
    rw [if_neg (by decide)]
    exact List.append_nil _
  rwa [e] at h
end
theorem comp_blks {c : Cc} {η : Nm} {ρ : Rho} {elt : Expr} {x y : Str} {p1 p2 pos : Pos} {k : Nat} (i j : Nat) (f : Str × List D → D) (hN : η.N.Nodup) : ∀ (pr : List (Str × List D)), (∀ b ∈ pr, ED c η elt ((ρ.set i (.va (.str b.1))).set j (.va (.lst b.2))) (f b)) → (hi : η.N[i]? = some x := by rfl) → (hj : η.N[j]? = some y := by rfl) → (hx : stoB η x = true := by decide +kernel) → (hy : stoB η y = true := by decide +kernel) → (hρ : i < ρ.length := by first | decide | (simp [rho, wipeR]; done)) → (hρ2 : j < ρ.length := by first | decide | (simp [rho, wipeR]; done)) → CompD c η (.Tuple [.Name x p1, .Name y p2] k pos) elt [] [i, j] ρ (blksD pr) (pr.map f)
  | [], _, _, _, _, _, _, _ => .nil
  | b :: pr, h, hi, hj, hx, hy, hρ, hρ2 => .keep (td_name2 (d1 := .str b.1) (d2 := .lst b.2) i j hN hi hj hx hy hρ hρ2) (fun i hi => hi) (fun t e => nomatch e) (h b List.mem_cons_self) (comp_blks i j f hN pr (fun b hb => h b (List.mem_cons_of_mem _ hb)) hi hj hx hy hρ hρ2)
theorem lens_flat (B : List (Str × List D)) : D.depths (B.map fun b => D.int (b.2.length : Nat)) = 0 := by
  have : (B.map fun b => D.int (b.2.length : Nat)) = (B.map fun b => ((b.2.length : Nat) : Int)).map .int := by rw [List.map_map]; rfl
  rw [this, depths_ints]
end DL

set_option Elab.async false
set_option linter.all false
set_option maxRecDepth 100000
set_option maxHeartbeats 4000000
namespace DL
open PySem L2
abbrev topS (i : Nat) : Stmt := PySem.Challenge.pw_turnedrun_k03_what_is_no_program.main.body.getD i (.Pass ⟨0, 0, 0, 0⟩)
structure Tx (c : Cc) : Prop where
  len : c.mg "len" = none
  isinstance : c.mg "isinstance" = none
  int : c.mg "int" = none
  str : c.mg "str" = none
  bool : c.mg "bool" = none
  all : c.mg "all" = none
  dict : c.mg "dict" = none
  list : c.mg "list" = none
  set : c.mg "set" = none
  tuple : c.mg "tuple" = none
  range : c.mg "range" = none
  ValueError : c.mg "ValueError" = none
  c_MOST_SIGNS : ∀ {η : Nm} {ρ : Rho} {pos : Pos}, glB η.sc "MOST_SIGNS" = true → ED c η (.Name "MOST_SIGNS" pos) ρ (.int 6)
  c_BOUND : ∀ {η : Nm} {ρ : Rho} {pos : Pos}, glB η.sc "BOUND" = true → ED c η (.Name "BOUND" pos) ρ (.int 1000000)
  c_MOST_BLOCKS : ∀ {η : Nm} {ρ : Rho} {pos : Pos}, glB η.sc "MOST_BLOCKS" = true → ED c η (.Name "MOST_BLOCKS" pos) ρ (.int 12)
  c_MOST_LEVELS : ∀ {η : Nm} {ρ : Rho} {pos : Pos}, glB η.sc "MOST_LEVELS" = true → ED c η (.Name "MOST_LEVELS" pos) ρ (.int 8)
  c_LETTERS : ∀ {η : Nm} {ρ : Rho} {pos : Pos}, glB η.sc "LETTERS" = true → ED c η (.Name "LETTERS" pos) ρ (.str "abcdefghijklmnopqrstuvwxyz")
  c_FIGURES : ∀ {η : Nm} {ρ : Rho} {pos : Pos}, glB η.sc "FIGURES" = true → ED c η (.Name "FIGURES" pos) ρ (.str "0123456789")
  c_TAKEN : ∀ {η : Nm} {ρ : Rho} {pos : Pos}, glB η.sc "TAKEN" = true → ED c η (.Name "TAKEN" pos) ρ (.tup ((["block", "if", "else", "fi", "from", "loop", "until", "call", "undo", "push", "pull"] : List Str).map .str))
  c_ASKING : ∀ {η : Nm} {ρ : Rho} {pos : Pos}, glB η.sc "ASKING" = true → ED c η (.Name "ASKING" pos) ρ (.tup ((["<", "=", ">=", "!="] : List Str).map .str))
  c_SIGNS : ∀ {η : Nm} {ρ : Rho} {pos : Pos}, glB η.sc "SIGNS" = true → ED c η (.Name "SIGNS" pos) ρ (.tup ((["+", "-", "*", "<", "=", ">=", "!="] : List Str).map .str))
def hotX : List Str := ["BadProgram", "BadRow", "BadName", "BadNumber", "OwnBox", "TooDeep"]
def madeX : List Str := ["BadRow", "BadName", "BadNumber", "OwnBox", "TooDeep", "UndoError", "BadProgram", "BadLine"]
section
variable {c : Cc} (T : Tx c)
include T
abbrev s_is_name : Stmt := topS 17
abbrev n_is_name : List Str := ["thing", "sign"]
abbrev e_is_name : Nm := ⟨n_is_name, defScope s_is_name, fun _ => true⟩
omit T in
theorem sc_is_name : FnScope n_is_name ["thing"] (defScope s_is_name) := ⟨rfl, rfl, rfl, by decide +kernel, rfl, by decide +kernel, by decide +kernel⟩
def R_is_name (ds : List D) (d : D) : Prop := ∃ x, ds = [x] ∧ smallD x ∧ d = .bl (isNameD x)
theorem b_is_name {ds : List D} {d : D} (h : R_is_name ds d) : BodyD c e_is_name s_is_name (rho n_is_name ds) d := by
  have nd := sc_is_name.nd
  obtain ⟨x, rfl, ht, rfl⟩ := h
  left
  cases x with
  | ty => exact absurd ht (by simp [smallD])
  | ref => exact absurd ht (by simp [smallD])
  | ins => exact absurd ht (by simp [smallD])
  | exc => exact absurd ht (by simp [smallD])
  | str z =>
    have hz : z.length ≤ 100000 := ht
    exact
    (sd_if (EP'.et (ep_or (et_not (et_val (ed_isi (by exact tn_str) (by exact kit_str_str) T.isinstance (ea_cons (ed_var 0 rfl) (ea_cons (ed_type T.str (by decide +kernel)) ea_nil))))) fun h2 => (ep_or (et_not (et_chain (fun _ _ => op_le) (rd_I0 fun _ => .bl _) (fun _ _ => op_le) (fun _ => rd_I0 fun _ => .bl _) ed_int (ed_lenS (hz) T.len (ea_cons (ed_var 0 rfl) ea_nil)) (fun _ => (T.c_MOST_SIGNS (by decide +kernel))) (by with_unfolding_all rfl))) fun h1 => (ep_or1 (et_in (.tup _) rfl flatS (by rfl) (ed_var 0 rfl) (T.c_TAKEN (by decide +kernel)))))))
      (fun h100 =>
        (sd_rt (s1_ret (ED.is ed_bl (by
    show D.bl false = D.bl (isNameS z)
    rw [isNameS_out h100])))))
      (fun h100 =>
        (sd_nil
          (sd_rt (s1_ret (ED.is (ed_and (ed_inSign (by rfl) (ed_ixz (hz) (ed_var 0 rfl) ed_int (by
    obtain ⟨a, -⟩ := name_and h100
    rw [Bool.and_eq_true] at a
    have := of_decide_eq_true a.1
    exact ⟨Int.le_refl _, by show (0 : Int) < (z.length : Int); omega⟩)) (T.c_LETTERS (by decide +kernel))) fun h3 => (ed_one (ed_all T.all (ea_cons (EO.ed (eo_comp [("sign", 1)] nd (id_str (ed_var 0 rfl)) (comp_signsB 1 _ nd (h := fun k hk => (ed_inSign (by rfl) (ed_var 1 rfl) (ed_addS sz_add (T.c_LETTERS (by decide +kernel)) (T.c_FIGURES (by decide +kernel)))))) (by show (z.cps.toList.map _).length ≤ _; rw [List.length_map]; exact hz))) ea_nil)))) (by
    show _ = D.bl (isNameS z)
    rw [isNameS_in h100])))))))
  | int x => exact
    (sd_if (EP'.et (ep_or (kb := true) (et_not (et_val (ed_isi (by exact tn_int) (by exact kit_int_str) T.isinstance (ea_cons (ed_var 0 rfl) (ea_cons (ed_type T.str (by decide +kernel)) ea_nil))))) fun h1 => (absurd h1 (by decide))))
      (fun h100 =>
        (sd_rt (s1_ret (ED.is ed_bl (by first | rfl | (try clear nd; simp_all; done))))))
      (fun h100 =>(absurd h100 (by decide))))
  | bl x => exact
    (sd_if (EP'.et (ep_or (kb := true) (et_not (et_val (ed_isi (by exact tn_bool) (by exact kit_bool_str) T.isinstance (ea_cons (ed_var 0 rfl) (ea_cons (ed_type T.str (by decide +kernel)) ea_nil))))) fun h1 => (absurd h1 (by decide))))
      (fun h100 =>
        (sd_rt (s1_ret (ED.is ed_bl (by first | rfl | (try clear nd; simp_all; done))))))
      (fun h100 =>(absurd h100 (by decide))))
  | non => exact
    (sd_if (EP'.et (ep_or (kb := true) (et_not (et_val (ed_isi (by exact tn_NoneType) (by exact kit_NoneType_str) T.isinstance (ea_cons (ed_var 0 rfl) (ea_cons (ed_type T.str (by decide +kernel)) ea_nil))))) fun h1 => (absurd h1 (by decide))))
      (fun h100 =>
        (sd_rt (s1_ret (ED.is ed_bl (by first | rfl | (try clear nd; simp_all; done))))))
      (fun h100 =>(absurd h100 (by decide))))
  | tup x => exact
    (sd_if (EP'.et (ep_or (kb := true) (et_not (et_val (ed_isi (by exact tn_tuple) (by exact kit_tuple_str) T.isinstance (ea_cons (ed_var 0 rfl) (ea_cons (ed_type T.str (by decide +kernel)) ea_nil))))) fun h1 => (absurd h1 (by decide))))
      (fun h100 =>
        (sd_rt (s1_ret (ED.is ed_bl (by first | rfl | (try clear nd; simp_all; done))))))
      (fun h100 =>(absurd h100 (by decide))))
  | lst x => exact
    (sd_if (EP'.et (ep_or (kb := true) (et_not (et_val (ed_isi (by exact tn_list) (by exact kit_list_str) T.isinstance (ea_cons (ed_var 0 rfl) (ea_cons (ed_type T.str (by decide +kernel)) ea_nil))))) fun h1 => (absurd h1 (by decide))))
      (fun h100 =>
        (sd_rt (s1_ret (ED.is ed_bl (by first | rfl | (try clear nd; simp_all; done))))))
      (fun h100 =>(absurd h100 (by decide))))
  | dic x => exact
    (sd_if (EP'.et (ep_or (kb := true) (et_not (et_val (ed_isi (by exact tn_dict) (by exact kit_dict_str) T.isinstance (ea_cons (ed_var 0 rfl) (ea_cons (ed_type T.str (by decide +kernel)) ea_nil))))) fun h1 => (absurd h1 (by decide))))
      (fun h100 =>
        (sd_rt (s1_ret (ED.is ed_bl (by first | rfl | (try clear nd; simp_all; done))))))
      (fun h100 =>(absurd h100 (by decide))))
  | scr x => exact
    (sd_if (EP'.et (ep_or (kb := true) (et_not (et_val (ed_isi (by exact tn_list) (by exact kit_list_str) T.isinstance (ea_cons (ed_var 0 rfl) (ea_cons (ed_type T.str (by decide +kernel)) ea_nil))))) fun h1 => (absurd h1 (by decide))))
      (fun h100 =>
        (sd_rt (s1_ret (ED.is ed_bl (by first | rfl | (try clear nd; simp_all; done))))))
      (fun h100 =>(absurd h100 (by decide))))
abbrev s_is_number : Stmt := topS 18
abbrev n_is_number : List Str := ["thing"]
abbrev e_is_number : Nm := ⟨n_is_number, defScope s_is_number, fun _ => true⟩
omit T in
theorem sc_is_number : FnScope n_is_number ["thing"] (defScope s_is_number) := ⟨rfl, rfl, rfl, by decide +kernel, rfl, by decide +kernel, by decide +kernel⟩
def R_is_number (ds : List D) (d : D) : Prop := ∃ x, ds = [x] ∧ smallD x ∧ d = .bl (isNumD x)
theorem b_is_number {ds : List D} {d : D} (h : R_is_number ds d) : BodyD c e_is_number s_is_number (rho n_is_number ds) d := by
  have nd := sc_is_number.nd
  obtain ⟨x, rfl, ht, rfl⟩ := h
  left
  cases x with
  | ty => exact absurd ht (by simp [smallD])
  | ref => exact absurd ht (by simp [smallD])
  | ins => exact absurd ht (by simp [smallD])
  | exc => exact absurd ht (by simp [smallD])
  | int x => exact
    (sd_rt (s1_ret (ED.is (ed_and (ed_isi (by exact tn_int) (by exact kit_int_int) T.isinstance (ea_cons (ed_var 0 rfl) (ea_cons (ed_type T.int (by decide +kernel)) ea_nil))) fun h2 => (ed_and (ed_not (ed_isi (by exact tn_int) (by exact kit_int_bool) T.isinstance (ea_cons (ed_var 0 rfl) (ea_cons (ed_type T.bool (by decide +kernel)) ea_nil)))) fun h1 => (ed_one (ed_chain (fun _ _ => op_le) (rd_I0 fun _ => .bl _) (fun _ _ => op_lt) (fun _ => rd_I0 fun _ => .bl _) ed_int (ed_var 0 rfl) (fun _ => (T.c_BOUND (by decide +kernel))) (by with_unfolding_all rfl))))) (by first | rfl | (try clear nd; simp_all; done)))))
  | bl x => exact
    (sd_rt (s1_ret (ED.is (ed_and (ed_isi (by exact tn_bool) (by exact kit_bool_int) T.isinstance (ea_cons (ed_var 0 rfl) (ea_cons (ed_type T.int (by decide +kernel)) ea_nil))) fun h2 => (ed_and (kb := false) (ed_not (ed_isi (by exact tn_bool) (by exact kit_bool_bool) T.isinstance (ea_cons (ed_var 0 rfl) (ea_cons (ed_type T.bool (by decide +kernel)) ea_nil)))) fun h1 => (absurd h1 (by decide)))) (by first | rfl | (try clear nd; simp_all; done)))))
  | str x => exact
    (sd_rt (s1_ret (ED.is (ed_and (kb := false) (ed_isi (by exact tn_str) (by exact kit_str_int) T.isinstance (ea_cons (ed_var 0 rfl) (ea_cons (ed_type T.int (by decide +kernel)) ea_nil))) fun h1 => (absurd h1 (by decide))) (by first | rfl | (try clear nd; simp_all; done)))))
  | non => exact
    (sd_rt (s1_ret (ED.is (ed_and (kb := false) (ed_isi (by exact tn_NoneType) (by exact kit_NoneType_int) T.isinstance (ea_cons (ed_var 0 rfl) (ea_cons (ed_type T.int (by decide +kernel)) ea_nil))) fun h1 => (absurd h1 (by decide))) (by first | rfl | (try clear nd; simp_all; done)))))
  | tup x => exact
    (sd_rt (s1_ret (ED.is (ed_and (kb := false) (ed_isi (by exact tn_tuple) (by exact kit_tuple_int) T.isinstance (ea_cons (ed_var 0 rfl) (ea_cons (ed_type T.int (by decide +kernel)) ea_nil))) fun h1 => (absurd h1 (by decide))) (by first | rfl | (try clear nd; simp_all; done)))))
  | lst x => exact
    (sd_rt (s1_ret (ED.is (ed_and (kb := false) (ed_isi (by exact tn_list) (by exact kit_list_int) T.isinstance (ea_cons (ed_var 0 rfl) (ea_cons (ed_type T.int (by decide +kernel)) ea_nil))) fun h1 => (absurd h1 (by decide))) (by first | rfl | (try clear nd; simp_all; done)))))
  | dic x => exact
    (sd_rt (s1_ret (ED.is (ed_and (kb := false) (ed_isi (by exact tn_dict) (by exact kit_dict_int) T.isinstance (ea_cons (ed_var 0 rfl) (ea_cons (ed_type T.int (by decide +kernel)) ea_nil))) fun h1 => (absurd h1 (by decide))) (by first | rfl | (try clear nd; simp_all; done)))))
  | scr x => exact
    (sd_rt (s1_ret (ED.is (ed_and (kb := false) (ed_isi (by exact tn_list) (by exact kit_list_int) T.isinstance (ea_cons (ed_var 0 rfl) (ea_cons (ed_type T.int (by decide +kernel)) ea_nil))) fun h1 => (absurd h1 (by decide))) (by first | rfl | (try clear nd; simp_all; done)))))
def xcls : List Str := ["BadProgram", "BadRow", "BadName", "BadNumber", "OwnBox", "TooDeep", "BadLine"]
abbrev s_uinit : Stmt := inClass (topS 1) 0
abbrev n_uinit : List Str := ["self", "at"]
omit T in
theorem sc_uinit : FnScope n_uinit ["self", "at"] (defScope s_uinit) := ⟨rfl, rfl, rfl, by decide +kernel, rfl, by decide +kernel, by decide +kernel⟩
abbrev s_szof : Stmt := topS 22
abbrev n_szof : List Str := ["word"]
abbrev e_szof : Nm := ⟨n_szof, defScope s_szof, fun _ => true⟩
omit T in
theorem sc_szof : FnScope n_szof ["word"] (defScope s_szof) := ⟨rfl, rfl, rfl, by decide +kernel, rfl, by decide +kernel, by decide +kernel⟩
theorem b_szof {ds : List D} {d : D} (h : R_szof ds d) : BodyD c e_szof s_szof (rho n_szof ds) d := by
  have nd := sc_szof.nd
  obtain ⟨w, rfl, rfl⟩ := h
  left
  have o2 : ∀ {p q : Prop} [Decidable p] [Decidable q], (decide p || decide q) = true → p ∨ q := fun h => by simpa using h
  have n2 : ∀ {p q : Prop} [Decidable p] [Decidable q], (decide p || decide q) = false → ¬ (p ∨ q) := fun h => by simpa using h
  refine (sd_if (EP'.et (ep_or (et_eq rfl (ed_var 0 rfl) ed_str) fun _ => (ep_or1 (et_eq rfl (ed_var 0 rfl) ed_str)))) (fun h1 => (sd_rt (s1_ret (ED.is ed_int ?_)))) (fun h1 => sd_nil ?_))
  · rw [eqS_str, eqS_str] at h1
    unfold sizeW
    rw [if_pos (o2 h1)]; rfl
  refine (sd_if (et_eq rfl (ed_var 0 rfl) ed_str) (fun h2 => (sd_rt (s1_ret (ED.is ed_int ?_)))) (fun h2 => sd_nil ?_))
  · rw [eqS_str, eqS_str] at h1
    rw [eqS_str] at h2
    unfold sizeW
    rw [if_neg (n2 h1), if_pos (of_decide_eq_true h2)]; rfl
  refine (sd_if (et_eq rfl (ed_var 0 rfl) ed_str) (fun h3 => (sd_rt (s1_ret (ED.is ed_int ?_)))) (fun h3 => sd_nil ?_))
  · rw [eqS_str, eqS_str] at h1
    rw [eqS_str] at h2 h3
    unfold sizeW
    rw [if_neg (n2 h1), if_neg (of_decide_eq_false h2), if_pos (of_decide_eq_true h3)]; rfl
  rw [eqS_str, eqS_str] at h1
  rw [eqS_str] at h2 h3
  refine (sd_if (EP'.et (ep_or (et_eq rfl (ed_var 0 rfl) ed_str) fun _ => ep_or (et_eq rfl (ed_var 0 rfl) ed_str) fun _ => ep_or (et_eq rfl (ed_var 0 rfl) ed_str) fun _ => (ep_or1 (et_eq rfl (ed_var 0 rfl) ed_str)))) (fun h4 => (sd_rt (s1_ret (ED.is ed_int ?_)))) (fun h4 => sd_nil (sd_rt (s1_ret (ED.is ed_int ?_)))))
  · simp only [eqS_str] at h4
    unfold sizeW
    rw [if_neg (n2 h1), if_neg (of_decide_eq_false h2), if_neg (of_decide_eq_false h3), if_pos (by simpa using h4)]; rfl
  · simp only [eqS_str] at h4
    unfold sizeW
    rw [if_neg (n2 h1), if_neg (of_decide_eq_false h2), if_neg (of_decide_eq_false h3), if_neg (by simpa using h4)]; rfl
abbrev s_xform : Stmt := topS 23
abbrev n_xform : List Str := ["row", "place"]
abbrev e_xform : Nm := ⟨n_xform, defScope s_xform, fun _ => true⟩
omit T in
theorem sc_xform : FnScope n_xform ["row", "place"] (defScope s_xform) := ⟨rfl, rfl, rfl, by decide +kernel, rfl, by decide +kernel, by decide +kernel⟩
theorem b_xform (hk : 2 ≤ c.k) (C_UndoError : XTab c 1 xcls) (C_size_of : Call c 1 "size_of" (spP c.K R_szof)) {ds : List D} {r : Xr} (h : R_xform ds r) : BodyX c e_xform s_xform (rho n_xform ds) r := by
  obtain ⟨row, pl, rfl, hf, rfl⟩ := h
  right
  refine ⟨fun d h => by unfold xrOf at h; split at h <;> cases h; rfl, ⟨[.no, .no], []⟩, ?_⟩
  have bad : formOf row = none → SM c e_xform [defBody s_xform] (rho n_xform [row, pl]) (.xc "BadRow" pl) → SM c e_xform [defBody s_xform] (rho n_xform [row, pl]) ((xrOf pl (if (formOf row).isSome = true then none else some ("BadRow" : Str))).pr ⟨[.no, .no], []⟩) := fun e h => by rw [e]; exact h
  have hs := fine_small hf
  by_cases ht : isTupB row = true
  · cases row with
    | tup xs =>
      rw [D.fine] at hf
      cases xs with
      | nil =>
        refine bad rfl (sm_if (EP'.et (ep_or (et_not (et_val (ed_isi hs.ty (by exact kit_tuple_tuple) T.isinstance (ea_cons (ed_var 0 rfl) (ea_cons (ed_type T.tuple (by decide +kernel)) ea_nil))))) fun _ => (ep_or (kb := true) (et_eq rfl (ed_len (.tup _) T.len (ea_cons (ed_var 0 rfl) ea_nil)) ed_int) fun h => absurd h (by decide)))) (fun _ => ?_) (fun h => absurd h (by decide)))
        exact sm_x (sx_raise C_UndoError (by decide +kernel) (ed_var 1 rfl) hk)
      | cons x rest =>
        have hx := fine_small (fines_at hf.2 (i := 0) rfl)
        by_cases hstr : isStrB x = true
        · cases x with
          | str w =>
            refine (sm_if (EP'.et (ep_or (et_not (et_val (ed_isi hs.ty (by exact kit_tuple_tuple) T.isinstance (ea_cons (ed_var 0 rfl) (ea_cons (ed_type T.tuple (by decide +kernel)) ea_nil))))) fun _ => (ep_or (et_eq rfl (ed_len (.tup _) T.len (ea_cons (ed_var 0 rfl) ea_nil)) ed_int) fun _ => (ep_or1 (et_not (et_val (ed_isi hx.ty (by exact kit_str_str) T.isinstance (ea_cons (ed_ixT (atI_zero _ _) (ed_var 0 rfl) ed_int) (ea_cons (ed_type T.str (by decide +kernel)) ea_nil))))))))) (fun h => absurd h (by rw [eqS_int, decide_eq_false (by simp; omega)]; decide)) (fun _ => sm_nil ?_))
            refine (sm_if (et_ne rfl (ed_call C_size_of (by omega) ⟨w, rfl, rfl⟩ (ea_cons (ed_ixT (d := .str w) (atI_zero _ _) (ed_var 0 rfl) ed_int) ea_nil)) (ed_len (.tup _) T.len (ea_cons (ed_var 0 rfl) ea_nil))) (fun h => ?_) (fun h => ?_))
            · have hne : ¬ sizeW w = rest.length + 1 := by
                rw [eqS_int] at h
                simp at h
                omega
              rw [formOf_no hne]
              exact sm_x (sx_raise C_UndoError (by decide +kernel) (ed_var 1 rfl) hk)
            · have heq : sizeW w = rest.length + 1 := by
                rw [eqS_int] at h
                simp at h
                omega
              rw [formOf_yes heq]
              exact sm_of (sd_nil (sd_nil (sd_endw ⟨rfl, by repeat (first | exact trivial | refine And.intro rfl ?_)⟩)))
          | _ => cases hstr
        · have hstr : isStrB x = false := by simpa using hstr
          have e : formOf (.tup (x :: rest)) = none := formOf_nstr hstr
          refine bad e (sm_if (EP'.et (ep_or (et_not (et_val (ed_isi hs.ty (by exact kit_tuple_tuple) T.isinstance (ea_cons (ed_var 0 rfl) (ea_cons (ed_type T.tuple (by decide +kernel)) ea_nil))))) fun _ => (ep_or (et_eq rfl (ed_len (.tup _) T.len (ea_cons (ed_var 0 rfl) ea_nil)) ed_int) fun _ => (ep_or1 (et_not (et_val (ed_isi hx.ty (by exact kit_strB hx) T.isinstance (ea_cons (ed_ixT (atI_zero _ _) (ed_var 0 rfl) ed_int) (ea_cons (ed_type T.str (by decide +kernel)) ea_nil))))))))) (fun _ => ?_) (fun h => absurd h (by rw [hstr]; simp)))
          exact sm_x (sx_raise C_UndoError (by decide +kernel) (ed_var 1 rfl) hk)
    | _ => cases ht
  · have ht : isTupB row = false := by simpa using ht
    have e : formOf row = none := formOf_ntup ht
    refine bad e (sm_if (EP'.et (ep_or (kb := true) (et_not (et_val (ed_isi hs.ty (kit_tupB hs) T.isinstance (ea_cons (ed_var 0 rfl) (ea_cons (ed_type T.tuple (by decide +kernel)) ea_nil))))) fun h => absurd h (by rw [ht]; decide))) (fun _ => ?_) (fun h => absurd h (by simp)))
    exact sm_x (sx_raise C_UndoError (by decide +kernel) (ed_var 1 rfl) hk)
abbrev s_xname : Stmt := topS 24
abbrev n_xname : List Str := ["thing", "place"]
abbrev e_xname : Nm := ⟨n_xname, defScope s_xname, fun _ => true⟩
omit T in
theorem sc_xname : FnScope n_xname ["thing", "place"] (defScope s_xname) := ⟨rfl, rfl, rfl, by decide +kernel, rfl, by decide +kernel, by decide +kernel⟩
theorem b_xname (hk : 2 ≤ c.k) (C_UndoError : XTab c 1 xcls) (C_is_name : Call c 1 "is_name" (spP c.K R_is_name)) {ds : List D} {r : Xr} (h : R_xname ds r) : BodyX c e_xname s_xname (rho n_xname ds) r := by
  obtain ⟨z, pl, rfl, hf, rfl⟩ := h
  right
  refine ⟨fun d h => by unfold xrOf at h; split at h <;> cases h; rfl, ⟨[.no, .no], []⟩, ?_⟩
  refine (sm_if (et_not (et_val (ed_call C_is_name (by omega) ⟨_, rfl, fine_small hf, rfl⟩ (ea_cons (ed_var 0 rfl) ea_nil)))) (fun h => ?_) (fun h => ?_))
  · have h : isNameD z = false := by simpa using h
    rw [h]
    exact sm_x (sx_raise C_UndoError (by decide +kernel) (ed_var 1 rfl) hk)
  · have h : isNameD z = true := by simpa using h
    rw [h]
    exact sm_of (sd_nil (sd_nil (sd_endw ⟨rfl, by repeat (first | exact trivial | refine And.intro rfl ?_)⟩)))
abbrev s_xthing : Stmt := topS 25
abbrev n_xthing : List Str := ["thing", "place"]
abbrev e_xthing : Nm := ⟨n_xthing, defScope s_xthing, fun _ => true⟩
omit T in
theorem sc_xthing : FnScope n_xthing ["thing", "place"] (defScope s_xthing) := ⟨rfl, rfl, rfl, by decide +kernel, rfl, by decide +kernel, by decide +kernel⟩
theorem b_xthing (hk : 3 ≤ c.k) (C_UndoError : XTab c 1 xcls) (C_is_number : Call c 1 "is_number" (spP c.K R_is_number)) (C_need_name : CallX c 3 "need_name" R_xname) {ds : List D} {r : Xr} (h : R_xthing ds r) : BodyX c e_xthing s_xthing (rho n_xthing ds) r := by
  obtain ⟨t, pl, rfl, hf, rfl⟩ := h
  right
  refine ⟨fun d h => by unfold xrOf at h; split at h <;> cases h; rfl, ⟨[.no, .no], []⟩, ?_⟩
  have hs := fine_small hf
  by_cases ht : isStrB t = true
  · cases t with
    | str z =>
      refine (sm_if (et_val (ed_isi hs.ty (by exact kit_str_str) T.isinstance (ea_cons (ed_var 0 rfl) (ea_cons (ed_type T.str (by decide +kernel)) ea_nil)))) (fun _ => ?_) (fun h => absurd h (by decide)))
      by_cases hz : isNameS z = true
      · rw [ckThing_yes hz]
        refine sm_cons (s1_expr (ed_callX C_need_name (by omega) ⟨.str z, pl, rfl, hf, by rw [show isNameD (.str z) = isNameS z from rfl, hz]; rfl⟩ (ea_cons (ed_var 0 rfl) (ea_cons (ed_var 1 rfl) ea_nil)))) ?_
        exact sm_of (sd_nil (sd_nil (sd_endw ⟨rfl, by repeat (first | exact trivial | refine And.intro rfl ?_)⟩)))
      · have hz : isNameS z = false := by simpa using hz
        rw [ckThing_no hz]
        exact sm_x (sx_expr (ex_callX C_need_name (by omega) ⟨.str z, pl, rfl, hf, by rw [show isNameD (.str z) = isNameS z from rfl, hz]; rfl⟩ (ea_cons (ed_var 0 rfl) (ea_cons (ed_var 1 rfl) ea_nil))))
    | _ => cases ht
  · have ht : isStrB t = false := by simpa using ht
    rw [ckThing_num ht]
    refine (sm_if (et_val (ed_isi hs.ty (kit_strB hs) T.isinstance (ea_cons (ed_var 0 rfl) (ea_cons (ed_type T.str (by decide +kernel)) ea_nil)))) (fun h => absurd h (by rw [ht]; decide)) (fun _ => ?_))
    refine (sm_if (et_not (et_val (ed_call C_is_number (by omega) ⟨_, rfl, hs, rfl⟩ (ea_cons (ed_var 0 rfl) ea_nil)))) (fun h => ?_) (fun h => ?_))
    · have h : isNumD t = false := by simpa using h
      rw [h]
      exact sm_x (sx_raise C_UndoError (by decide +kernel) (ed_var 1 rfl) (by omega))
    · have h : isNumD t = true := by simpa using h
      rw [h]
      exact sm_of (sd_nil (sd_nil (sd_nil (sd_endw ⟨rfl, by repeat (first | exact trivial | refine And.intro rfl ?_)⟩))))
abbrev s_xsigned : Stmt := topS 26
abbrev n_xsigned : List Str := ["made", "signs", "place"]
abbrev e_xsigned : Nm := ⟨n_xsigned, defScope s_xsigned, fun _ => true⟩
omit T in
theorem sc_xsigned : FnScope n_xsigned ["made", "signs", "place"] (defScope s_xsigned) := ⟨rfl, rfl, rfl, by decide +kernel, rfl, by decide +kernel, by decide +kernel⟩
theorem b_xsigned (hk : 4 ≤ c.k) (C_UndoError : XTab c 1 xcls) (C_need_thing : CallX c 4 "need_thing" R_xthing) {ds : List D} {r : Xr} (h : R_xsigned ds r) : BodyX c e_xsigned s_xsigned (rho n_xsigned ds) r := by
  obtain ⟨m, signs, pl, rfl, hf, rfl⟩ := h
  right
  refine ⟨fun d h => by unfold xrOf at h; split at h <;> cases h; rfl, ⟨[.no, .no, .no], []⟩, ?_⟩
  have hs := fine_small hf
  by_cases ht : isTupB m = true
  · cases m with
    | tup xs =>
      rw [D.fine] at hf
      by_cases hl : xs.length = 3
      · match xs, hl with
        | [x, a, b], _ =>
          have hx := fine_small (fines_at hf.2 (i := 0) rfl)
          have ha := fines_at hf.2 (i := 1) rfl
          have hb := fines_at hf.2 (i := 2) rfl
          by_cases hstr : isStrB x = true
          · cases x with
            | str s =>
              refine (sm_if (EP'.et (ep_or (et_not (et_val (ed_isi hs.ty (by exact kit_tuple_tuple) T.isinstance (ea_cons (ed_var 0 rfl) (ea_cons (ed_type T.tuple (by decide +kernel)) ea_nil))))) fun _ => ep_or (et_ne rfl (ed_len (.tup _) T.len (ea_cons (ed_var 0 rfl) ea_nil)) ed_int) fun _ => ep_or (et_not (et_val (ed_isi hx.ty (by exact kit_str_str) T.isinstance (ea_cons (ed_ixT (d := .str s) (atI_zero _ _) (ed_var 0 rfl) ed_int) (ea_cons (ed_type T.str (by decide +kernel)) ea_nil))))) fun _ => ep_or1 (et_notIn (.tup _) rfl (flat_strs' _) rfl (ed_ixT (d := .str s) (atI_zero _ _) (ed_var 0 rfl) ed_int) (ed_var 1 rfl)))) (fun h => ?_) (fun h => sm_nil ?_))
              · rw [inD_strs] at h
                have hin : ¬ s ∈ signs := by simpa using h
                rw [ckSigned_out hin]
                exact sm_x (sx_raise C_UndoError (by decide +kernel) (ed_var 2 rfl) (by omega))
              · rw [inD_strs] at h
                have hin : s ∈ signs := by simpa using h
                rw [ckSigned_in hin]
                cases e1 : ckThing a with
                | some y => exact sm_x (sx_expr (ex_callX C_need_thing (by omega) ⟨a, pl, rfl, ha, by rw [e1]; rfl⟩ (ea_cons (ed_ixT (ds := [.str s, a, b]) (d := a) rfl (ed_var 0 rfl) ed_int) (ea_cons (ed_var 2 rfl) ea_nil))))
                | none =>
                  refine sm_cons (s1_expr (ed_callX C_need_thing (by omega) ⟨a, pl, rfl, ha, by rw [e1]; rfl⟩ (ea_cons (ed_ixT (ds := [.str s, a, b]) (d := a) rfl (ed_var 0 rfl) ed_int) (ea_cons (ed_var 2 rfl) ea_nil)))) ?_
                  show SM _ _ _ _ ((xrOf pl (ckThing b)).pr _)
                  cases e2 : ckThing b with
                  | some y => exact sm_x (sx_expr (ex_callX C_need_thing (by omega) ⟨b, pl, rfl, hb, by rw [e2]; rfl⟩ (ea_cons (ed_ixT (ds := [.str s, a, b]) (d := b) rfl (ed_var 0 rfl) ed_int) (ea_cons (ed_var 2 rfl) ea_nil))))
                  | none =>
                    refine sm_cons (s1_expr (ed_callX C_need_thing (by omega) ⟨b, pl, rfl, hb, by rw [e2]; rfl⟩ (ea_cons (ed_ixT (ds := [.str s, a, b]) (d := b) rfl (ed_var 0 rfl) ed_int) (ea_cons (ed_var 2 rfl) ea_nil)))) ?_
                    exact sm_of (sd_nil (sd_endw ⟨rfl, by repeat (first | exact trivial | refine And.intro rfl ?_)⟩))
            | _ => cases hstr
          · have hstr : isStrB x = false := by simpa using hstr
            rw [ckSigned_nstr hstr]
            refine (sm_if (EP'.et (ep_or (et_not (et_val (ed_isi hs.ty (by exact kit_tuple_tuple) T.isinstance (ea_cons (ed_var 0 rfl) (ea_cons (ed_type T.tuple (by decide +kernel)) ea_nil))))) fun _ => ep_or (et_ne rfl (ed_len (.tup _) T.len (ea_cons (ed_var 0 rfl) ea_nil)) ed_int) fun _ => ep_or (kb := true) (et_not (et_val (ed_isi hx.ty (kit_strB hx) T.isinstance (ea_cons (ed_ixT (atI_zero _ _) (ed_var 0 rfl) ed_int) (ea_cons (ed_type T.str (by decide +kernel)) ea_nil))))) fun h => absurd h (by rw [hstr]; decide))) (fun h => ?_) (fun h => absurd h (by simp)))
            exact sm_x (sx_raise C_UndoError (by decide +kernel) (ed_var 2 rfl) (by omega))
      · rw [ckSigned_nlen hl]
        have e3 : eqS (.int (xs.length : Int)) (.int 3) = false := by rw [eqS_int, decide_eq_false (by omega)]
        refine (sm_if (EP'.et (ep_or (et_not (et_val (ed_isi hs.ty (by exact kit_tuple_tuple) T.isinstance (ea_cons (ed_var 0 rfl) (ea_cons (ed_type T.tuple (by decide +kernel)) ea_nil))))) fun _ => ep_or (kb := true) (et_ne rfl (ed_len (.tup _) T.len (ea_cons (ed_var 0 rfl) ea_nil)) ed_int) fun h => absurd h (by rw [e3]; decide))) (fun h => ?_) (fun h => absurd h (by simp)))
        exact sm_x (sx_raise C_UndoError (by decide +kernel) (ed_var 2 rfl) (by omega))
    | _ => cases ht
  · have ht : isTupB m = false := by simpa using ht
    rw [ckSigned_ntup ht]
    refine (sm_if (EP'.et (ep_or (kb := true) (et_not (et_val (ed_isi hs.ty (kit_tupB hs) T.isinstance (ea_cons (ed_var 0 rfl) (ea_cons (ed_type T.tuple (by decide +kernel)) ea_nil))))) fun h => absurd h (by rw [ht]; decide))) (fun _ => ?_) (fun h => absurd h (by simp)))
    exact sm_x (sx_raise C_UndoError (by decide +kernel) (ed_var 2 rfl) (by omega))
abbrev s_xput : Stmt := topS 27
abbrev n_xput : List Str := ["row", "place", "things"]
abbrev e_xput : Nm := ⟨n_xput, defScope s_xput, fun _ => true⟩
omit T in
theorem sc_xput : FnScope n_xput ["row", "place"] (defScope s_xput) := ⟨rfl, rfl, rfl, by decide +kernel, rfl, by decide +kernel, by decide +kernel⟩
theorem b_xput (hk : 5 ≤ c.k) (C_UndoError : XTab c 1 xcls) (C_need_name : CallX c 3 "need_name" R_xname) (C_need_thing : CallX c 4 "need_thing" R_xthing) (C_need_signed : CallX c 5 "need_signed" R_xsigned) {ds : List D} {r : Xr} (h : R_xput ds r) : BodyX c e_xput s_xput (rho n_xput ds) r := by
  have nd := sc_xput.nd
  obtain ⟨w, x, s, m, pl, rfl, hx, hs, hm, rfl⟩ := h
  right
  refine ⟨fun d h => by unfold xrOf at h; split at h <;> cases h; rfl, ⟨[.no, .no, .no], []⟩, ?_⟩
  by_cases hn : isNameD x = true
  rotate_left
  · have hn : isNameD x = false := by simpa using hn
    unfold ckPut
    rw [if_pos hn]
    exact sm_x (sx_expr (ex_callX C_need_name (by omega) ⟨x, pl, rfl, hx, by rw [hn]; rfl⟩ (ea_cons (ed_ixT (ds := [w, x, s, m]) (d := x) rfl (ed_var 0 rfl) ed_int) (ea_cons (ed_var 1 rfl) ea_nil))))
  refine sm_cons (s1_expr (ed_callX C_need_name (by omega) ⟨x, pl, rfl, hx, by rw [hn]; rfl⟩ (ea_cons (ed_ixT (ds := [w, x, s, m]) (d := x) rfl (ed_var 0 rfl) ed_int) (ea_cons (ed_var 1 rfl) ea_nil)))) ?_
  have e0 : ckPut x s m = if isPm s = false then some ("BadRow" : Str) else andX (ckSum m) (if inD x (thingsOf m) = true then some ("OwnBox" : Str) else none) := by
    unfold ckPut
    rw [if_neg (by rw [hn]; decide)]
  rw [e0]
  have ss := fine_small hs
  by_cases hst : isStrB s = true
  rotate_left
  · have hst : isStrB s = false := by simpa using hst
    rw [if_pos (isPm_str hst)]
    refine (sm_if (EP'.et (ep_or (kb := true) (et_not (et_val (ed_isi ss.ty (kit_strB ss) T.isinstance (ea_cons (ed_ixT (ds := [w, x, s, m]) (d := s) rfl (ed_var 0 rfl) ed_int) (ea_cons (ed_type T.str (by decide +kernel)) ea_nil))))) fun h => absurd h (by rw [hst]; decide))) (fun _ => ?_) (fun h => absurd h (by simp)))
    exact sm_x (sx_raise C_UndoError (by decide +kernel) (ed_var 1 rfl) (by omega))
  obtain ⟨z, rfl⟩ : ∃ z, s = .str z := by
    cases s with
    | str z => exact ⟨z, rfl⟩
    | _ => cases hst
  have pm : isPm (.str z) = inD (.str z) [.str "+", .str "-"] := (inD_strs z ["+", "-"]).symm
  refine (sm_if (EP'.et (ep_or (et_not (et_val (ed_isi ss.ty (by exact kit_str_str) T.isinstance (ea_cons (ed_ixT (ds := [w, x, .str z, m]) (d := .str z) rfl (ed_var 0 rfl) ed_int) (ea_cons (ed_type T.str (by decide +kernel)) ea_nil))))) fun _ => ep_or1 (et_notIn (.tup _) rfl rfl rfl (ed_ixT (ds := [w, x, .str z, m]) (d := .str z) rfl (ed_var 0 rfl) ed_int) (ed_tup (ea_cons ed_str (ea_cons ed_str ea_nil)))))) (fun h => ?_) (fun h => sm_nil ?_))
  · have h : isPm (.str z) = false := by rw [pm]; simpa using h
    rw [if_pos h]
    exact sm_x (sx_raise C_UndoError (by decide +kernel) (ed_var 1 rfl) (by omega))
  have h : isPm (.str z) = true := by rw [pm]; simpa using h
  rw [if_neg (by rw [h]; decide)]
  have ms := fine_small hm
  -- the last test, its things found
  have last : ∀ things : List D, things.all D.flat = true → SM c e_xput [defBody s_xput |>.drop 3] ⟨[.va (.tup [w, x, .str z, m]), .va pl, .va (.tup things)], []⟩ ((xrOf pl (if inD x things = true then some ("OwnBox" : Str) else none)).pr ⟨[.no, .no, .no], []⟩) := fun things hfl => by
    have hxf : x.flat = true := by
      obtain ⟨y, rfl, _⟩ := nameD_str hn
      rfl
    refine (sm_if (et_in (ds := things) (.tup _) hxf hfl rfl (ed_ixT (ds := [w, x, .str z, m]) (d := x) rfl (ed_var 0 rfl) ed_int) (ed_var 2 rfl)) (fun h => ?_) (fun h => ?_))
    · rw [if_pos h]
      exact sm_x (sx_raise C_UndoError (by decide +kernel) (ed_var 1 rfl) (by omega))
    · rw [if_neg (by rw [h]; decide)]
      exact sm_of (sd_nil (sd_nil (sd_endw ⟨rfl, by repeat (first | exact trivial | refine And.intro rfl ?_)⟩)))
  by_cases ht : isTupB m = true
  rotate_left
  · have ht : isTupB m = false := by simpa using ht
    rw [ckSum_ntup ht, ckSigned_ntup ht]
    refine (sm_if (EP'.et (ep_and (kb := false) (et_val (ed_isi ms.ty (kit_tupB ms) T.isinstance (ea_cons (ed_ixT (ds := [w, x, .str z, m]) (d := m) rfl (ed_var 0 rfl) ed_int) (ea_cons (ed_type T.tuple (by decide +kernel)) ea_nil)))) fun h => absurd h (by rw [ht]; decide))) (fun h => absurd h (by simp)) (fun _ => ?_))
    exact sm_x (sx_expr (ex_callX C_need_signed (by omega) ⟨m, sgns, pl, rfl, hm, by rw [ckSigned_ntup ht]; rfl⟩ (ea_cons (ed_ixT (ds := [w, x, .str z, m]) (d := m) rfl (ed_var 0 rfl) ed_int) (ea_cons (T.c_SIGNS (by decide +kernel)) (ea_cons (ed_var 1 rfl) ea_nil)))))
  obtain ⟨xs, rfl⟩ : ∃ xs, m = .tup xs := by
    cases m with
    | tup xs => exact ⟨xs, rfl⟩
    | _ => cases ht
  have hm2 := hm
  rw [D.fine] at hm2
  by_cases hl : xs.length = 1
  · obtain ⟨t, rfl⟩ : ∃ t, xs = [t] := List.length_eq_one_iff.mp hl
    have htf := fines_at hm2.2 (i := 0) rfl
    refine (sm_if (EP'.et (ep_and (et_val (ed_isi ms.ty (by exact kit_tuple_tuple) T.isinstance (ea_cons (ed_ixT (ds := [w, x, .str z, .tup [t]]) (d := .tup [t]) rfl (ed_var 0 rfl) ed_int) (ea_cons (ed_type T.tuple (by decide +kernel)) ea_nil)))) fun _ => (ep_and1 (et_eq rfl (ed_len (.tup [t]) T.len (ea_cons (ed_ixT (ds := [w, x, .str z, .tup [t]]) (d := .tup [t]) rfl (ed_var 0 rfl) ed_int) ea_nil)) ed_int)))) (fun _ => ?_) (fun h => absurd h (by simp)))
    rw [ckSum_one]
    cases e1 : ckThing t with
    | some y => exact sm_x (sx_expr (ex_callX C_need_thing (by omega) ⟨t, pl, rfl, htf, by rw [e1]; rfl⟩ (ea_cons (ed_ixT (ds := [t]) (d := t) (atI_zero _ _) (ed_ixT (ds := [w, x, .str z, .tup [t]]) (d := .tup [t]) rfl (ed_var 0 rfl) ed_int) ed_int) (ea_cons (ed_var 1 rfl) ea_nil))))
    | none =>
      refine sm_cons (s1_expr (ed_callX C_need_thing (by omega) ⟨t, pl, rfl, htf, by rw [e1]; rfl⟩ (ea_cons (ed_ixT (ds := [t]) (d := t) (atI_zero _ _) (ed_ixT (ds := [w, x, .str z, .tup [t]]) (d := .tup [t]) rfl (ed_var 0 rfl) ed_int) ed_int) (ea_cons (ed_var 1 rfl) ea_nil)))) ?_
      refine sm_cons (s1_set 2 (ed_ixT (ds := [w, x, .str z, .tup [t]]) (d := .tup [t]) rfl (ed_var 0 rfl) ed_int) nd) (sm_nil ?_)
      exact last [t] (by rw [List.all_cons, ckThing_flat e1]; rfl)
  · rw [ckSum_nlen hl]
    have e3 : eqS (.int (xs.length : Int)) (.int 1) = false := by rw [eqS_int, decide_eq_false (by omega)]
    refine (sm_if (EP'.et (ep_and (et_val (ed_isi ms.ty (by exact kit_tuple_tuple) T.isinstance (ea_cons (ed_ixT (ds := [w, x, .str z, .tup xs]) (d := .tup xs) rfl (ed_var 0 rfl) ed_int) (ea_cons (ed_type T.tuple (by decide +kernel)) ea_nil)))) fun _ => (ep_and1 (et_eq rfl (ed_len (.tup xs) T.len (ea_cons (ed_ixT (ds := [w, x, .str z, .tup xs]) (d := .tup xs) rfl (ed_var 0 rfl) ed_int) ea_nil)) ed_int)))) (fun h => absurd h (by rw [e3]; decide)) (fun _ => ?_))
    cases e1 : ckSigned sgns (.tup xs) with
    | some y => exact sm_x (sx_expr (ex_callX C_need_signed (by omega) ⟨.tup xs, sgns, pl, rfl, hm, by rw [e1]; rfl⟩ (ea_cons (ed_ixT (ds := [w, x, .str z, .tup xs]) (d := .tup xs) rfl (ed_var 0 rfl) ed_int) (ea_cons (T.c_SIGNS (by decide +kernel)) (ea_cons (ed_var 1 rfl) ea_nil)))))
    | none =>
      obtain ⟨g, a, b, e2, ta, tb⟩ := ckSigned_three e1
      cases e2
      refine sm_cons (s1_expr (ed_callX C_need_signed (by omega) ⟨.tup [.str g, a, b], sgns, pl, rfl, hm, by rw [e1]; rfl⟩ (ea_cons (ed_ixT (ds := [w, x, .str z, .tup [.str g, a, b]]) (d := .tup [.str g, a, b]) rfl (ed_var 0 rfl) ed_int) (ea_cons (T.c_SIGNS (by decide +kernel)) (ea_cons (ed_var 1 rfl) ea_nil))))) ?_
      refine sm_cons (s1_set 2 (ED.is (ed_slT (lo := some 1) (hi := none) (ed_ixT (ds := [w, x, .str z, .tup [.str g, a, b]]) (d := .tup [.str g, a, b]) rfl (ed_var 0 rfl) ed_int) ed_int trivial) (d2 := .tup [a, b]) rfl) nd) (sm_nil ?_)
      exact last [a, b] (by rw [List.all_cons, List.all_cons, ckThing_flat ta, ckThing_flat tb]; rfl)
abbrev s_xask : Stmt := topS 28
abbrev n_xask : List Str := ["row", "place"]
abbrev e_xask : Nm := ⟨n_xask, defScope s_xask, fun _ => true⟩
omit T in
theorem sc_xask : FnScope n_xask ["row", "place"] (defScope s_xask) := ⟨rfl, rfl, rfl, by decide +kernel, rfl, by decide +kernel, by decide +kernel⟩
theorem b_xask (hk : 5 ≤ c.k) (C_UndoError : XTab c 1 xcls) (C_need_signed : CallX c 5 "need_signed" R_xsigned) {ds : List D} {r : Xr} (h : R_xask ds r) : BodyX c e_xask s_xask (rho n_xask ds) r := by
  obtain ⟨w, q1, a, b, q2, pl, rfl, h1, ha, hb, h2, rfl⟩ := h
  right
  refine ⟨fun d h => by unfold xrOf at h; split at h <;> cases h; rfl, ⟨[.no, .no], []⟩, ?_⟩
  unfold ckAsk
  cases e1 : ckSigned askns q1 with
  | some y => exact sm_x (sx_expr (ex_callX C_need_signed (by omega) ⟨q1, askns, pl, rfl, h1, by rw [e1]; rfl⟩ (ea_cons (ed_ixT (ds := [w, q1, a, b, q2]) (d := q1) rfl (ed_var 0 rfl) ed_int) (ea_cons (T.c_ASKING (by decide +kernel)) (ea_cons (ed_var 1 rfl) ea_nil)))))
  | none =>
    refine sm_cons (s1_expr (ed_callX C_need_signed (by omega) ⟨q1, askns, pl, rfl, h1, by rw [e1]; rfl⟩ (ea_cons (ed_ixT (ds := [w, q1, a, b, q2]) (d := q1) rfl (ed_var 0 rfl) ed_int) (ea_cons (T.c_ASKING (by decide +kernel)) (ea_cons (ed_var 1 rfl) ea_nil))))) ?_
    refine (sm_if (EP'.et (ep_or (et_not (et_val (ed_isi (fine_small ha).ty (kit_lstB (fine_small ha) ha) T.isinstance (ea_cons (ed_ixT (ds := [w, q1, a, b, q2]) (d := a) rfl (ed_var 0 rfl) ed_int) (ea_cons (ed_type T.list (by decide +kernel)) ea_nil))))) fun _ => (ep_or1 (et_not (et_val (ed_isi (fine_small hb).ty (kit_lstB (fine_small hb) hb) T.isinstance (ea_cons (ed_ixT (ds := [w, q1, a, b, q2]) (d := b) rfl (ed_var 0 rfl) ed_int) (ea_cons (ed_type T.list (by decide +kernel)) ea_nil)))))))) (fun h => ?_) (fun h => sm_nil ?_))
    · have e2 : (isLstB a && isLstB b) = false := by cases hA : isLstB a <;> cases hB : isLstB b <;> first | rfl | (rw [hA, hB] at h; exact absurd h (by decide))
      rw [e2]
      exact sm_x (sx_raise C_UndoError (by decide +kernel) (ed_var 1 rfl) (by omega))
    · have e2 : (isLstB a && isLstB b) = true := by cases hA : isLstB a <;> cases hB : isLstB b <;> first | rfl | (rw [hA, hB] at h; exact absurd h (by decide))
      rw [e2]
      show SM _ _ _ _ ((xrOf pl (ckSigned askns q2)).pr _)
      cases e3 : ckSigned askns q2 with
      | some y => exact sm_x (sx_expr (ex_callX C_need_signed (by omega) ⟨q2, askns, pl, rfl, h2, by rw [e3]; rfl⟩ (ea_cons (ed_ixT (ds := [w, q1, a, b, q2]) (d := q2) rfl (ed_var 0 rfl) ed_int) (ea_cons (T.c_ASKING (by decide +kernel)) (ea_cons (ed_var 1 rfl) ea_nil)))))
      | none =>
        refine sm_cons (s1_expr (ed_callX C_need_signed (by omega) ⟨q2, askns, pl, rfl, h2, by rw [e3]; rfl⟩ (ea_cons (ed_ixT (ds := [w, q1, a, b, q2]) (d := q2) rfl (ed_var 0 rfl) ed_int) (ea_cons (T.c_ASKING (by decide +kernel)) (ea_cons (ed_var 1 rfl) ea_nil))))) ?_
        exact sm_of (sd_nil (sd_endw ⟨rfl, by repeat (first | exact trivial | refine And.intro rfl ?_)⟩))
abbrev s_xrow : Stmt := topS 29
abbrev n_xrow : List Str := ["row", "place", "level", "names", "inner", "name"]
abbrev e_xrow : Nm := ⟨n_xrow, defScope s_xrow, fun _ => true⟩
omit T in
theorem sc_xrow : FnScope n_xrow ["row", "place", "level", "names"] (defScope s_xrow) := ⟨rfl, rfl, rfl, by decide +kernel, rfl, by decide +kernel, by decide +kernel⟩
theorem b_xrow {n : Nat} (hk : 2 * n + 6 ≤ c.k) (C_UndoError : XTab c 1 xcls) (C_need_form : CallX c 3 "need_form" R_xform) (C_need_name : CallX c 3 "need_name" R_xname) (C_need_put : CallX c 6 "need_put" R_xput) (C_need_asking : CallX c 6 "need_asking" R_xask)
    (C_counted : ∀ m, m + 1 = n → CallX c (2 * m + 8) "counted" (R_xrows m)) {ds : List D} {r : Xr} (h : R_xrow n ds r) : BodyX c e_xrow s_xrow (rho n_xrow ds) r := by
  have nd := sc_xrow.nd
  obtain ⟨row, pl, ns, rfl, hn, hf, hpl, rfl⟩ := h
  left
  cases e1 : formOf row with
  | none =>
    rw [ckRow_form e1]
    exact sm_x (sx_expr (ex_callX C_need_form (by omega) ⟨row, .tup pl, rfl, hf, by rw [e1]; rfl⟩ (ea_cons (ed_var 0 rfl) (ea_cons (ed_var 1 rfl) ea_nil))))
  | some wr =>
  obtain ⟨w, rest⟩ := wr
  obtain ⟨rfl, hsz⟩ := formOf_some e1
  refine sm_cons (s1_expr (ed_callX C_need_form (by omega) ⟨_, .tup pl, rfl, hf, by rw [e1]; rfl⟩ (ea_cons (ed_var 0 rfl) (ea_cons (ed_var 1 rfl) ea_nil)))) ?_
  refine (sm_if (et_gt (ed_var 2 rfl) (T.c_MOST_LEVELS (by decide +kernel))) (fun h => ?_) (fun h => sm_nil ?_))
  · have h0 : n = 0 := by
      have := of_decide_eq_true h
      omega
    subst h0
    rw [ckRow_deep e1]
    exact sm_x (sx_raise C_UndoError (by decide +kernel) (ed_var 1 rfl) (by omega))
  obtain ⟨m, rfl⟩ : ∃ m, n = m + 1 := ⟨n - 1, by
    have := of_decide_eq_false h
    omega⟩
  have C_counted := C_counted m rfl
  rw [D.fine] at hf
  have hrest : D.fines rest := by
    have := hf.2
    rw [D.fines] at this
    exact this.2
  have tst : ∀ z1 z2 : Str, (eqS (.str w) (.str z1) || eqS (.str w) (.str z2)) = decide (w = z1 ∨ w = z2) := fun z1 z2 => by
    rw [eqS_str, eqS_str, ← Bool.decide_or]
  refine (sm_if (EP'.et (ep_or (et_eq rfl (ed_ixT (d := .str w) (atI_zero _ _) (ed_var 0 rfl) ed_int) ed_str) fun _ => (ep_or1 (et_eq rfl (ed_ixT (d := .str w) (atI_zero _ _) (ed_var 0 rfl) ed_int) ed_str)))) (fun h => ?_) (fun h => sm_nil ?_))
  · rw [tst] at h
    have hw := of_decide_eq_true h
    have h5 : rest.length = 4 := by
      unfold sizeW at hsz
      rw [if_pos hw] at hsz
      omega
    obtain ⟨q1, a, b, q2, rfl⟩ : ∃ q1 a b q2, rest = [q1, a, b, q2] := by
      match rest, h5 with
      | [q1, a, b, q2], _ => exact ⟨q1, a, b, q2, rfl⟩
    have f1 := fines_at hrest (i := 0) rfl
    have fa := fines_at hrest (i := 1) rfl
    have fb := fines_at hrest (i := 2) rfl
    have f2 := fines_at hrest (i := 3) rfl
    rw [ckRow_both e1 hw]
    show SM _ _ _ _ (Ck.xr (match ckAsk q1 a b q2 with
      | some x => .bad x pl
      | none => match ckL (ckRow ns m) (pl ++ [.int 0]) 0 (lstOf a) with
        | .bad x q => .bad x q
        | .ok k => match ckL (ckRow ns m) (pl ++ [.int 1]) 0 (lstOf b) with
          | .bad x q => .bad x q
          | .ok j => .ok (1 + k + j))).fn
    cases e3 : ckAsk q1 a b q2 with
    | some y => exact sm_x (sx_expr (ex_callX C_need_asking (by omega) ⟨.str w, q1, a, b, q2, .tup pl, rfl, f1, fa, fb, f2, by rw [e3]; rfl⟩ (ea_cons (ed_var 0 rfl) (ea_cons (ed_var 1 rfl) ea_nil))))
    | none =>
      refine sm_cons (s1_expr (ed_callX C_need_asking (by omega) ⟨.str w, q1, a, b, q2, .tup pl, rfl, f1, fa, fb, f2, by rw [e3]; rfl⟩ (ea_cons (ed_var 0 rfl) (ea_cons (ed_var 1 rfl) ea_nil)))) ?_
      have e4 : (isLstB a && isLstB b) = true := by
        unfold ckAsk at e3
        have := (andX_none e3).2
        cases hx : (isLstB a && isLstB b) with
        | true => rfl
        | false => rw [hx] at this; cases this
      obtain ⟨la, rfl⟩ : ∃ la, a = .lst la := by
        cases a with
        | lst la => exact ⟨la, rfl⟩
        | _ => cases e4
      obtain ⟨lb, rfl⟩ : ∃ lb, b = .lst lb := by
        cases b with
        | lst lb => exact ⟨lb, rfl⟩
        | _ => cases e4
      rw [D.fine] at fa fb
      show SM _ _ _ _ (Ck.xr (match ckL (ckRow ns m) (pl ++ [.int 0]) 0 la with | .bad x q => .bad x q | .ok k => match ckL (ckRow ns m) (pl ++ [.int 1]) 0 lb with | .bad x q => .bad x q | .ok j => .ok (1 + k + j))).fn
      cases e5 : ckL (ckRow ns m) (pl ++ [.int 0]) 0 la with
      | bad x q => exact sm_x (sx_set (ex_callX C_counted (by omega) ⟨la, pl ++ [.int 0], ns, rfl, by omega, fa.1, fa.2, by rw [List.length_append, List.length_singleton]; omega, by rw [e5]; rfl⟩ (ea_cons (ed_ixT (ds := [.str w, q1, .lst la, .lst lb, q2]) (d := .lst la) rfl (ed_var 0 rfl) ed_int) (ea_cons (ed_catT (by simp; omega) (ed_var 1 rfl) (ed_tup (ea_cons ed_int ea_nil))) (ea_cons (ED.is (ed_add (ed_var 2 rfl) ed_int) (congrArg D.int (by omega))) (ea_cons (ed_var 3 rfl) ea_nil))))) nd (i := 4) rfl)
      | ok k =>
        refine sm_cons (s1_set 4 (ed_callX C_counted (by omega) ⟨la, pl ++ [.int 0], ns, rfl, by omega, fa.1, fa.2, by rw [List.length_append, List.length_singleton]; omega, by rw [e5]; rfl⟩ (ea_cons (ed_ixT (ds := [.str w, q1, .lst la, .lst lb, q2]) (d := .lst la) rfl (ed_var 0 rfl) ed_int) (ea_cons (ed_catT (by simp; omega) (ed_var 1 rfl) (ed_tup (ea_cons ed_int ea_nil))) (ea_cons (ED.is (ed_add (ed_var 2 rfl) ed_int) (congrArg D.int (by omega))) (ea_cons (ed_var 3 rfl) ea_nil))))) nd) ?_
        show SM _ _ _ _ (Ck.xr (match ckL (ckRow ns m) (pl ++ [.int 1]) 0 lb with | .bad x q => .bad x q | .ok j => .ok (1 + k + j))).fn
        cases e6 : ckL (ckRow ns m) (pl ++ [.int 1]) 0 lb with
        | bad x q => exact sm_x (sx_ret (ex_add (ed_add ed_int (ed_var 4 rfl)) (ex_callX C_counted (by omega) ⟨lb, pl ++ [.int 1], ns, rfl, by omega, fb.1, fb.2, by rw [List.length_append, List.length_singleton]; omega, by rw [e6]; rfl⟩ (ea_cons (ed_ixT (ds := [.str w, q1, .lst la, .lst lb, q2]) (d := .lst lb) rfl (ed_var 0 rfl) ed_int) (ea_cons (ed_catT (by simp; omega) (ed_var 1 rfl) (ed_tup (ea_cons ed_int ea_nil))) (ea_cons (ED.is (ed_add (ed_var 2 rfl) ed_int) (congrArg D.int (by omega))) (ea_cons (ed_var 3 rfl) ea_nil)))))))
        | ok j => exact sm_of (sd_rt (s1_ret (ED.is (ed_add (ed_add ed_int (ed_var 4 rfl)) (ed_callX C_counted (by omega) ⟨lb, pl ++ [.int 1], ns, rfl, by omega, fb.1, fb.2, by rw [List.length_append, List.length_singleton]; omega, by rw [e6]; rfl⟩ (ea_cons (ed_ixT (ds := [.str w, q1, .lst la, .lst lb, q2]) (d := .lst lb) rfl (ed_var 0 rfl) ed_int) (ea_cons (ed_catT (by simp; omega) (ed_var 1 rfl) (ed_tup (ea_cons ed_int ea_nil))) (ea_cons (ED.is (ed_add (ed_var 2 rfl) ed_int) (congrArg D.int (by omega))) (ea_cons (ed_var 3 rfl) ea_nil)))))) (congrArg D.int (by omega)))))
  rw [tst] at h
  have hw := of_decide_eq_false h
  rw [ckRow_leaf e1 hw]
  unfold ckLeaf
  refine (sm_if (et_eq rfl (ed_ixT (d := .str w) (atI_zero _ _) (ed_var 0 rfl) ed_int) ed_str) (fun h2 => ?_) (fun h2 => ?_))
  · rw [eqS_str] at h2
    have hp : w = "put" := of_decide_eq_true h2
    subst hp
    obtain ⟨x, s, m', rfl⟩ : ∃ x s m', rest = [x, s, m'] := by
      have h4 : rest.length = 3 := by
        have : sizeW "put" = 4 := by decide +kernel
        omega
      match rest, h4 with
      | [x, s, m'], _ => exact ⟨x, s, m', rfl⟩
    rw [if_pos rfl]
    show SM _ _ _ _ (Ck.xr (match ckPut x s m' with | some y => .bad y pl | none => .ok 1)).fn
    have f1 := fines_at hrest (i := 0) rfl
    have f2 := fines_at hrest (i := 1) rfl
    have f3 := fines_at hrest (i := 2) rfl
    cases e3 : ckPut x s m' with
    | some y => exact sm_x (sx_expr (ex_callX C_need_put (by omega) ⟨.str "put", x, s, m', .tup pl, rfl, f1, f2, f3, by rw [e3]; rfl⟩ (ea_cons (ed_var 0 rfl) (ea_cons (ed_var 1 rfl) ea_nil))))
    | none =>
      refine sm_cons (s1_expr (ed_callX C_need_put (by omega) ⟨.str "put", x, s, m', .tup pl, rfl, f1, f2, f3, by rw [e3]; rfl⟩ (ea_cons (ed_var 0 rfl) (ea_cons (ed_var 1 rfl) ea_nil)))) (sm_nil ?_)
      exact sm_of (sd_rt (s1_ret ed_int))
  rw [eqS_str] at h2
  have hp : ¬ w = "put" := of_decide_eq_false h2
  rw [if_neg hp]
  refine (sm_if (EP'.et (ep_or (et_eq rfl (ed_ixT (d := .str w) (atI_zero _ _) (ed_var 0 rfl) ed_int) ed_str) fun _ => (ep_or1 (et_eq rfl (ed_ixT (d := .str w) (atI_zero _ _) (ed_var 0 rfl) ed_int) ed_str)))) (fun h3 => ?_) (fun h3 => ?_))
  · rw [tst] at h3
    have hc := of_decide_eq_true h3
    rw [if_pos hc]
    obtain ⟨g, rfl⟩ : ∃ g, rest = [g] := by
      have h4 : rest.length = 1 := by
        have : sizeW w = 2 := by rcases hc with rfl | rfl <;> decide +kernel
        omega
      exact List.length_eq_one_iff.mp h4
    show SM _ _ _ _ (Ck.xr (match ckGoal ns g with | some y => .bad y pl | none => .ok 1)).fn
    have fg := fines_at hrest (i := 0) rfl
    have sg := fine_small fg
    by_cases hst : isStrB g = true
    rotate_left
    · have hst : isStrB g = false := by simpa using hst
      have e3 : ckGoal ns g = some "BadName" := by cases g <;> first | rfl | cases hst
      rw [e3]
      refine (sm_if (EP'.et (ep_or (kb := true) (et_not (et_val (ed_isi sg.ty (kit_strB sg) T.isinstance (ea_cons (ed_ixT (ds := [.str w, g]) (d := g) rfl (ed_var 0 rfl) ed_int) (ea_cons (ed_type T.str (by decide +kernel)) ea_nil))))) fun h => absurd h (by rw [hst]; decide))) (fun _ => ?_) (fun h => absurd h (by simp)))
      exact sm_x (sx_raise C_UndoError (by decide +kernel) (ed_var 1 rfl) (by omega))
    obtain ⟨z, rfl⟩ : ∃ z, g = .str z := by
      cases g with
      | str z => exact ⟨z, rfl⟩
      | _ => cases hst
    refine (sm_if (EP'.et (ep_or (et_not (et_val (ed_isi sg.ty (by exact kit_str_str) T.isinstance (ea_cons (ed_ixT (ds := [.str w, .str z]) (d := .str z) rfl (ed_var 0 rfl) ed_int) (ea_cons (ed_type T.str (by decide +kernel)) ea_nil))))) fun _ => ep_or1 (et_notIn (.lst _) rfl (flat_strs' _) rfl (ed_ixT (ds := [.str w, .str z]) (d := .str z) rfl (ed_var 0 rfl) ed_int) (ed_var 3 rfl)))) (fun h => ?_) (fun h => sm_nil (sm_nil ?_)))
    · rw [inD_strs] at h
      have hin : ¬ z ∈ ns := by simpa using h
      have e3 : ckGoal ns (.str z) = some "BadName" := by
        show (if z ∈ ns then none else some ("BadName" : Str)) = _
        rw [if_neg hin]; rfl
      rw [e3]
      exact sm_x (sx_raise C_UndoError (by decide +kernel) (ed_var 1 rfl) (by omega))
    · rw [inD_strs] at h
      have hin : z ∈ ns := by simpa using h
      have e3 : ckGoal ns (.str z) = none := by
        show (if z ∈ ns then none else some ("BadName" : Str)) = none
        rw [if_pos hin]
      rw [e3]
      exact sm_of (sd_nil (sd_rt (s1_ret ed_int)))
  · rw [tst] at h3
    have hc := of_decide_eq_false h3
    rw [if_neg hc]
    have hln : rest.length ≤ 80000 := by
      have := hf.1
      simp at this
      omega
    have hcut : cutL (.str w :: rest) (some 1) none = rest := by
      unfold cutL HT.sIx
      simp
    have names : ∀ (i : Nat) (d : D), rest[i]? = some d → d.fine := fun i d hd => fines_at hrest hd
    unfold ckNames
    by_cases hall : rest.all isNameD = true
    · rw [if_pos hall]
      have hall := List.all_eq_true.mp hall
      refine sm_cons (s1_forN 5 rest.length (fun i => ⟨[.va (.tup (.str w :: rest)), .va (.tup pl), .va (.int ((9 - (m + 1) : Nat) : Int)), .va (.lst (ns.map .str)), .no, .no], []⟩) (id_tup (ED.is (ed_slT (ds := .str w :: rest) (lo := some 1) (hi := none) (ed_var 0 rfl) ed_int trivial) (by rw [hcut]))) rfl nd ⟨rfl, by repeat (first | exact trivial | refine And.intro rfl ?_)⟩ (fun _ => by simp) (fun i d hd => ?_)) (sm_nil (sm_nil ?_))
      · have hd2 := hall d (List.mem_of_getElem? hd)
        exact (sd_cons (s1_expr (ed_callX C_need_name (by omega) ⟨d, .tup pl, rfl, names i d hd, by rw [hd2]; rfl⟩ (ea_cons (ed_var 5 rfl) (ea_cons (ed_var 1 rfl) ea_nil)))) (sd_nil (sd_endw ⟨rfl, by repeat (first | exact trivial | refine And.intro rfl ?_)⟩)))
      · exact sm_of (sd_rt (s1_ret ed_int))
    · rw [if_neg hall]
      have hall : rest.all isNameD = false := by simpa using hall
      obtain ⟨i, d, hi, hd, hb⟩ := first_not hall
      have hli := (List.getElem?_eq_some_iff.mp hi).1
      refine sm_x (sx_forN 5 i (fun i => ⟨[.va (.tup (.str w :: rest)), .va (.tup pl), .va (.int ((9 - (m + 1) : Nat) : Int)), .va (.lst (ns.map .str)), .no, .no], []⟩) (id_tup (ED.is (ed_slT (ds := .str w :: rest) (lo := some 1) (hi := none) (ed_var 0 rfl) ed_int trivial) (by rw [hcut]))) nd ⟨rfl, by repeat (first | exact trivial | refine And.intro rfl ?_)⟩ (fun _ => by simp) hli (fun j d' hj hd' => ?_) (fun d' hd' => ?_))
      · have hd2 := hb j d' hj hd'
        exact (sd_cons (s1_expr (ed_callX C_need_name (by omega) ⟨d', .tup pl, rfl, names j d' hd', by rw [hd2]; rfl⟩ (ea_cons (ed_var 5 rfl) (ea_cons (ed_var 1 rfl) ea_nil)))) (sd_nil (sd_endw ⟨rfl, by repeat (first | exact trivial | refine And.intro rfl ?_)⟩)))
      · rw [hi] at hd'
        cases hd'
        exact sm_x (sx_expr (ex_callX C_need_name (by omega) ⟨d, .tup pl, rfl, names i d hi, by rw [hd]; rfl⟩ (ea_cons (ed_var 5 rfl) (ea_cons (ed_var 1 rfl) ea_nil))))
abbrev s_xrows : Stmt := topS 30
abbrev n_xrows : List Str := ["rows", "place", "level", "names", "many", "k"]
abbrev e_xrows : Nm := ⟨n_xrows, defScope s_xrows, fun _ => true⟩
omit T in
theorem sc_xrows : FnScope n_xrows ["rows", "place", "level", "names"] (defScope s_xrows) := ⟨rfl, rfl, rfl, by decide +kernel, rfl, by decide +kernel, by decide +kernel⟩
theorem b_xrows {n : Nat} (hk : 2 * n + 7 ≤ c.k) (C_counted_row : CallX c (2 * n + 7) "counted_row" (R_xrow n)) {ds : List D} {r : Xr} (h : R_xrows n ds r) : BodyX c e_xrows s_xrows (rho n_xrows ds) r := by
  have nd := sc_xrows.nd
  obtain ⟨rows, pl, ns, rfl, hn, hlen, hf, hpl, rfl⟩ := h
  left
  refine sm_cons (s1_set 4 ed_int nd) ?_
  have hat : ∀ (i : Nat) (d : D), rows[i]? = some d → L2.atI rows (0 + (i : Int)) = some d := fun i d hd => by
    rw [show (0 + (i : Int)) = ((i : Nat) : Int) by omega]
    exact atI_nat hd
  have hr : ∀ {i : Nat} {d : D}, (rangeD 0 ((rows.length : Nat) : Int).toNat)[i]? = some d → i < rows.length ∧ d = .int (0 + (i : Nat)) := fun {i d} hd => by
    obtain ⟨hi, rfl⟩ := rangeD_inv hd
    exact ⟨by omega, rfl⟩
  cases e1 : ckL (ckRow ns n) pl 0 rows with
  | ok k =>
    obtain ⟨ks, hk1, hk2, hk3⟩ := ckL_ok e1
    refine sm_cons (s1_forN 5 rows.length (fun i => ⟨[.va (.lst rows), .va (.tup pl), .va (.int ((9 - n : Nat) : Int)), .va (.lst (ns.map .str)), .va (.int ((ks.take i).sum : Nat)), .no], []⟩) (id_range1 T.range (ea_cons (ed_len (.lst _) T.len (ea_cons (ed_var 0 rfl) ea_nil)) ea_nil)) (by rw [rangeD_len]; omega) nd ⟨rfl, by repeat (first | exact trivial | refine And.intro rfl ?_)⟩ (fun _ => by simp) (fun i d hd => ?_)) ?_
    · obtain ⟨hi, rfl⟩ := hr hd
      have hd1 : rows[i]? = some rows[i] := List.getElem?_eq_getElem hi
      obtain ⟨k1, e3, e4⟩ := hk3 i _ hd1
      rw [Nat.zero_add] at e4
      rw [sum_take_succ e3]
      exact (sd_cons (s1_set 4 (ED.is (ed_add (ed_var 4 rfl) (ed_callX C_counted_row (by omega) ⟨rows[i], pl ++ [.int (0 + (i : Int))], ns, rfl, hn, fines_at hf hd1, by rw [List.length_append, List.length_singleton]; omega, by rw [show (0 + (i : Int)) = ((i : Nat) : Int) by omega, e4]; rfl⟩ (ea_cons (ed_ixL (hat i _ hd1) (ed_var 0 rfl) (ed_var 5 rfl)) (ea_cons (ed_catT (by simp; omega) (ed_var 1 rfl) (ed_tup (ea_cons (ed_var 5 rfl) ea_nil))) (ea_cons (ed_var 2 rfl) (ea_cons (ed_var 3 rfl) ea_nil)))))) (d2 := .int ((ks.take i).sum + k1 : Nat)) (congrArg D.int (by omega))) nd) (sd_nil (sd_endw ⟨rfl, by repeat (first | exact trivial | refine And.intro rfl ?_)⟩)))
    · have e5 : (ks.take rows.length).sum = k := by rw [← hk1, List.take_length, hk2]
      rw [e5]
      exact sm_of (sd_rt (s1_ret (ed_var 4 rfl)))
  | bad x q =>
    obtain ⟨i, d, hi, hb, ks, hk1, hk3⟩ := ckL_bad e1
    have hli := (List.getElem?_eq_some_iff.mp hi).1
    rw [Nat.zero_add] at hb
    refine sm_x (sx_forN 5 i (fun i => ⟨[.va (.lst rows), .va (.tup pl), .va (.int ((9 - n : Nat) : Int)), .va (.lst (ns.map .str)), .va (.int ((ks.take i).sum : Nat)), .no], []⟩) (id_range1 T.range (ea_cons (ed_len (.lst _) T.len (ea_cons (ed_var 0 rfl) ea_nil)) ea_nil)) nd ⟨rfl, by repeat (first | exact trivial | refine And.intro rfl ?_)⟩ (fun _ => by simp) (by rw [rangeD_len]; omega) (fun j d' hj hd' => ?_) (fun d' hd' => ?_))
    · obtain ⟨hj2, rfl⟩ := hr hd'
      have hd1 : rows[j]? = some rows[j] := List.getElem?_eq_getElem hj2
      obtain ⟨k1, e3, e4⟩ := hk3 j _ hj hd1
      rw [Nat.zero_add] at e4
      rw [sum_take_succ e3]
      exact (sd_cons (s1_set 4 (ED.is (ed_add (ed_var 4 rfl) (ed_callX C_counted_row (by omega) ⟨rows[j], pl ++ [.int (0 + (j : Int))], ns, rfl, hn, fines_at hf hd1, by rw [List.length_append, List.length_singleton]; omega, by rw [show (0 + (j : Int)) = ((j : Nat) : Int) by omega, e4]; rfl⟩ (ea_cons (ed_ixL (hat j _ hd1) (ed_var 0 rfl) (ed_var 5 rfl)) (ea_cons (ed_catT (by simp; omega) (ed_var 1 rfl) (ed_tup (ea_cons (ed_var 5 rfl) ea_nil))) (ea_cons (ed_var 2 rfl) (ea_cons (ed_var 3 rfl) ea_nil)))))) (d2 := .int ((ks.take j).sum + k1 : Nat)) (congrArg D.int (by omega))) nd) (sd_nil (sd_endw ⟨rfl, by repeat (first | exact trivial | refine And.intro rfl ?_)⟩)))
    · obtain ⟨_, rfl⟩ := hr hd'
      exact sm_x (sx_set (ex_add (ed_var 4 rfl) (ex_callX C_counted_row (by omega) ⟨d, pl ++ [.int (0 + (i : Int))], ns, rfl, hn, fines_at hf hi, by rw [List.length_append, List.length_singleton]; omega, by rw [show (0 + (i : Int)) = ((i : Nat) : Int) by omega, hb]; rfl⟩ (ea_cons (ed_ixL (hat i _ hi) (ed_var 0 rfl) (ed_var 5 rfl)) (ea_cons (ed_catT (by simp; omega) (ed_var 1 rfl) (ed_tup (ea_cons (ed_var 5 rfl) ea_nil))) (ea_cons (ed_var 2 rfl) (ea_cons (ed_var 3 rfl) ea_nil)))))) nd (i := 4) rfl)
abbrev s_xblock : Stmt := topS 31
abbrev n_xblock : List Str := ["block"]
abbrev e_xblock : Nm := ⟨n_xblock, defScope s_xblock, fun _ => true⟩
omit T in
theorem sc_xblock : FnScope n_xblock ["block"] (defScope s_xblock) := ⟨rfl, rfl, rfl, by decide +kernel, rfl, by decide +kernel, by decide +kernel⟩
theorem b_xblock (hk : 2 ≤ c.k) (C_UndoError : XTab c 1 xcls) (C_is_name : Call c 1 "is_name" (spP c.K R_is_name)) {ds : List D} {r : Xr} (h : R_xblock3 ds r) : BodyX c e_xblock s_xblock (rho n_xblock ds) r := by
  obtain ⟨b, rfl, hf, rfl⟩ := h
  right
  refine ⟨fun d h => by split at h <;> cases h; rfl, ⟨[.no], []⟩, ?_⟩
  have hs := fine_small hf
  have bad : isBlk b = false → SM c e_xblock [defBody s_xblock] (rho n_xblock [b]) (.xc "BadProgram" .non) → SM c e_xblock [defBody s_xblock] (rho n_xblock [b]) ((if isBlk b = true then Xr.ok .non else .xc "BadProgram" .non).pr ⟨[.no], []⟩) := fun e h => by rw [if_neg (by rw [e]; decide)]; exact h
  by_cases ht : isTupB b = true
  · cases b with
    | tup xs =>
      by_cases hl : xs.length = 2
      · match xs, hl with
        | [x, y], _ =>
          rw [D.fine] at hf
          have fx := fines_at hf.2 (i := 0) rfl
          have fy := fines_at hf.2 (i := 1) rfl
          by_cases hx : isNameD x = true
          · by_cases hy : isLstB y = true
            · have e : isBlk (.tup [x, y]) = true := by show (isNameD x && isLstB y) = true; rw [hx, hy]; rfl
              rw [if_pos e]
              exact sm_of (sd_if (EP'.et (ep_or (et_not (et_val (ed_isi hs.ty (by exact kit_tuple_tuple) T.isinstance (ea_cons (ed_var 0 rfl) (ea_cons (ed_type T.tuple (by decide +kernel)) ea_nil))))) fun _ => (ep_or (et_ne rfl (ed_len (.tup [x, y]) T.len (ea_cons (ed_var 0 rfl) ea_nil)) ed_int) fun _ => (ep_or (et_not (et_val (ed_call C_is_name (by omega) ⟨_, rfl, fine_small fx, rfl⟩ (ea_cons (ed_ixT (d := x) (atI_zero _ _) (ed_var 0 rfl) ed_int) ea_nil)))) fun _ => (ep_or1 (et_not (et_val (ed_isi (fine_small fy).ty (kit_lstB (fine_small fy) fy) T.isinstance (ea_cons (ed_ixT (ds := [x, y]) (d := y) rfl (ed_var 0 rfl) ed_int) (ea_cons (ed_type T.list (by decide +kernel)) ea_nil)))))))))) (fun h => absurd h (by rw [hx, hy]; simp)) (fun _ => (sd_nil (sd_nil (sd_endw ⟨rfl, by repeat (first | exact trivial | refine And.intro rfl ?_)⟩)))))
            · have hy : isLstB y = false := by simpa using hy
              have e : isBlk (.tup [x, y]) = false := by show (isNameD x && isLstB y) = false; rw [hx, hy]; rfl
              refine bad e (sm_if (EP'.et (ep_or (et_not (et_val (ed_isi hs.ty (by exact kit_tuple_tuple) T.isinstance (ea_cons (ed_var 0 rfl) (ea_cons (ed_type T.tuple (by decide +kernel)) ea_nil))))) fun _ => (ep_or (et_ne rfl (ed_len (.tup [x, y]) T.len (ea_cons (ed_var 0 rfl) ea_nil)) ed_int) fun _ => (ep_or (et_not (et_val (ed_call C_is_name (by omega) ⟨_, rfl, fine_small fx, rfl⟩ (ea_cons (ed_ixT (d := x) (atI_zero _ _) (ed_var 0 rfl) ed_int) ea_nil)))) fun _ => (ep_or1 (et_not (et_val (ed_isi (fine_small fy).ty (kit_lstB (fine_small fy) fy) T.isinstance (ea_cons (ed_ixT (ds := [x, y]) (d := y) rfl (ed_var 0 rfl) ed_int) (ea_cons (ed_type T.list (by decide +kernel)) ea_nil)))))))))) (fun _ => ?_) (fun h => absurd h (by rw [hx, hy]; simp)))
              exact sm_x (sx_raise C_UndoError (by decide +kernel) ed_non hk)
          · have hx : isNameD x = false := by simpa using hx
            have e : isBlk (.tup [x, y]) = false := by show (isNameD x && isLstB y) = false; rw [hx]; rfl
            refine bad e (sm_if (EP'.et (ep_or (et_not (et_val (ed_isi hs.ty (by exact kit_tuple_tuple) T.isinstance (ea_cons (ed_var 0 rfl) (ea_cons (ed_type T.tuple (by decide +kernel)) ea_nil))))) fun _ => (ep_or (et_ne rfl (ed_len (.tup [x, y]) T.len (ea_cons (ed_var 0 rfl) ea_nil)) ed_int) fun _ => (ep_or (kb := true) (et_not (et_val (ed_call C_is_name (by omega) ⟨_, rfl, fine_small fx, rfl⟩ (ea_cons (ed_ixT (d := x) (atI_zero _ _) (ed_var 0 rfl) ed_int) ea_nil)))) fun h => absurd h (by rw [hx]; decide))))) (fun _ => ?_) (fun h => absurd h (by simp)))
            exact sm_x (sx_raise C_UndoError (by decide +kernel) ed_non hk)
      · refine bad (isBlk_len hl) (sm_if (EP'.et (ep_or (et_not (et_val (ed_isi hs.ty (by exact kit_tuple_tuple) T.isinstance (ea_cons (ed_var 0 rfl) (ea_cons (ed_type T.tuple (by decide +kernel)) ea_nil))))) fun _ => (ep_or (kb := true) (et_ne rfl (ed_len (.tup xs) T.len (ea_cons (ed_var 0 rfl) ea_nil)) ed_int) fun h => absurd h (by rw [eqS_int]; simp; omega)))) (fun _ => ?_) (fun h => absurd h (by simp)))
        exact sm_x (sx_raise C_UndoError (by decide +kernel) ed_non hk)
    | _ => cases ht
  · have ht : isTupB b = false := by simpa using ht
    refine bad (isBlk_ntup ht) (sm_if (EP'.et (ep_or (kb := true) (et_not (et_val (ed_isi hs.ty (kit_tupB hs) T.isinstance (ea_cons (ed_var 0 rfl) (ea_cons (ed_type T.tuple (by decide +kernel)) ea_nil))))) fun h => absurd h (by rw [ht]; decide))) (fun _ => ?_) (fun h => absurd h (by simp)))
    exact sm_x (sx_raise C_UndoError (by decide +kernel) ed_non hk)
abbrev s_xchecked : Stmt := topS 32
abbrev n_xchecked : List Str := ["program", "block", "names", "many", "name", "rows"]
abbrev e_xchecked : Nm := ⟨n_xchecked, defScope s_xchecked, fun _ => true⟩
omit T in
theorem sc_xchecked : FnScope n_xchecked ["program"] (defScope s_xchecked) := ⟨rfl, rfl, rfl, by decide +kernel, rfl, by decide +kernel, by decide +kernel⟩
theorem b_xchecked (hk : 24 ≤ c.k) (C_UndoError : XTab c 1 xcls) (C_need_block : CallX c 3 "need_block" R_xblock3) (C_counted : CallX c 24 "counted" (R_xrows 8)) {ds : List D} {r : Xr} (h : R_xchecked3 ds r) : BodyX c e_xchecked s_xchecked (rho n_xchecked ds) r := by
  have nd := sc_xchecked.nd
  obtain ⟨d0, rfl, hf, hp⟩ := h
  left
  have hs := fine_small hf
  cases hp with
  | nlst hn =>
    refine (sm_if (EP'.et (ep_or (kb := true) (et_not (et_val (ed_isi hs.ty (kit_lstB hs hf) T.isinstance (ea_cons (ed_var 0 rfl) (ea_cons (ed_type T.list (by decide +kernel)) ea_nil))))) fun h => absurd h (by rw [hn]; decide))) (fun _ => ?_) (fun h => absurd h (by simp)))
    exact sm_x (sx_raise C_UndoError (by decide +kernel) ed_non (by omega))
  | @len xs hl =>
    refine (sm_if (EP'.et (ep_or (et_not (et_val (ed_isi (by exact tn_list) (by exact kit_list_list) T.isinstance (ea_cons (ed_var 0 rfl) (ea_cons (ed_type T.list (by decide +kernel)) ea_nil))))) fun _ => (ep_or1 (et_not (et_chain (fun _ _ => op_le) (rd_I0 fun _ => .bl _) (fun _ _ => op_le) (fun _ => rd_I0 fun _ => .bl _) ed_int (ed_len (.lst xs) T.len (ea_cons (ed_var 0 rfl) ea_nil)) (fun _ => T.c_MOST_BLOCKS (by decide +kernel)) (by with_unfolding_all rfl)))))) (fun _ => ?_) (fun h => absurd h (by
      have : ¬ ((1 : Int) ≤ (xs.length : Int) ∧ (xs.length : Int) ≤ 12) := by omega
      simp only [Bool.or_eq_false_iff, Bool.not_eq_eq_eq_not, Bool.not_false, Bool.and_eq_true, decide_eq_true_eq]
      exact fun z => this z.2)))
    exact sm_x (sx_raise C_UndoError (by decide +kernel) ed_non (by omega))
  | @blk xs i b hl hi hb hall =>
    rw [D.fine] at hf
    refine (sm_if (EP'.et (ep_or (et_not (et_val (ed_isi (by exact tn_list) (by exact kit_list_list) T.isinstance (ea_cons (ed_var 0 rfl) (ea_cons (ed_type T.list (by decide +kernel)) ea_nil))))) fun _ => (ep_or1 (et_not (et_chain (fun _ _ => op_le) (rd_I0 fun _ => .bl _) (fun _ _ => op_le) (fun _ => rd_I0 fun _ => .bl _) ed_int (ed_len (.lst xs) T.len (ea_cons (ed_var 0 rfl) ea_nil)) (fun _ => T.c_MOST_BLOCKS (by decide +kernel)) (by with_unfolding_all rfl)))))) (fun h => absurd h (by
      rw [decide_eq_true (show (1 : Int) ≤ (xs.length : Int) by omega), decide_eq_true (show (xs.length : Int) ≤ 12 by omega)]; decide)) (fun _ => (sm_nil ?_)))
    refine sm_x (sx_forN 1 i (fun _ => ⟨[.va (.lst xs), .no, .no, .no, .no, .no], []⟩) (id_list (ed_var 0 rfl)) nd ⟨rfl, by repeat (first | exact trivial | refine And.intro rfl ?_)⟩ (fun _ => by simp) (List.getElem?_eq_some_iff.mp hi).1 (fun j d hj hd => ?_) (fun d hd => ?_))
    · exact (sd_cons (s1_expr (ed_callX C_need_block (by omega) ⟨d, rfl, fines_at hf.2 hd, by rw [if_pos (hall j d hj hd)]⟩ (ea_cons (ed_var 1 rfl) ea_nil))) (sd_nil (sd_endw ⟨rfl, by repeat (first | exact trivial | refine And.intro rfl ?_)⟩)))
    · rw [hi] at hd
      cases hd
      exact sm_x (sx_expr (ex_callX C_need_block (by omega) ⟨b, rfl, fines_at hf.2 hi, by rw [if_neg (by rw [hb]; decide)]⟩ (ea_cons (ed_var 1 rfl) ea_nil)))
  | @two bs hl1 hl2 hnm hnd =>
    have hpl : (blksD bs).length = bs.length := by unfold blksD; rw [List.length_map]
    rw [D.fine] at hf
    refine (sm_if (EP'.et (ep_or (et_not (et_val (ed_isi (by exact tn_list) (by exact kit_list_list) T.isinstance (ea_cons (ed_var 0 rfl) (ea_cons (ed_type T.list (by decide +kernel)) ea_nil))))) fun _ => (ep_or1 (et_not (et_chain (fun _ _ => op_le) (rd_I0 fun _ => .bl _) (fun _ _ => op_le) (fun _ => rd_I0 fun _ => .bl _) ed_int (ed_len (.lst _) T.len (ea_cons (ed_var 0 rfl) ea_nil)) (fun _ => T.c_MOST_BLOCKS (by decide +kernel)) (by with_unfolding_all rfl)))))) (fun h => absurd h (by
      rw [hpl, decide_eq_true (show (1 : Int) ≤ (bs.length : Int) by omega), decide_eq_true (show (bs.length : Int) ≤ 12 by omega)]; decide)) (fun _ => (sm_nil ?_)))
    refine (sm_cons (s1_forN 1 bs.length (fun i => ⟨[.va (.lst (blksD bs)), .no, .no, .no, .no, .no], []⟩) (id_list (ed_var 0 rfl)) hpl nd ⟨rfl, by repeat (first | exact trivial | refine And.intro rfl ?_)⟩ (fun _ => by simp) (fun i d hd => ?_)) ?_)
    · obtain ⟨b, hb, rfl⟩ := blks_at hd
      exact (sd_cons (s1_expr (ed_callX C_need_block (by omega) ⟨_, rfl, fines_at hf.2 hd, by rw [if_pos (show isBlk (.tup [.str b.1, .lst b.2]) = true from by show (isNameS b.1 && true) = true; rw [hnm b (List.mem_of_getElem? hb)]; rfl)]⟩ (ea_cons (ed_var 1 rfl) ea_nil))) (sd_nil (sd_endw ⟨rfl, by repeat (first | exact trivial | refine And.intro rfl ?_)⟩)))
    refine (sm_cons (s1_setLc 2 [("block", 1)] nd (id_list (ed_var 0 rfl)) (comp_map 1 headD nd (Nat.lt_of_lt_of_eq (show 1 < 6 by decide) rfl) (blksD bs) (fun d hd => by
      obtain ⟨b, hb, rfl⟩ : ∃ b, b ∈ bs ∧ D.tup [.str b.1, .lst b.2] = d := by unfold blksD at hd; rw [List.mem_map] at hd; exact hd
      exact (ed_ixT (d := .str b.1) (atI_zero _ _) (ed_var 1 rfl) ed_int))) (by rw [hpl]; omega) (hsw := fun X hX => sw_true (by rw [hX.sc]; rfl) (by rw [hX.sc]; decide +kernel) rfl (by decide +kernel))) (sm_freeze 2 rfl ?_))
    have hns : (blksD bs).map headD = (bs.map (·.1)).map .str := by unfold blksD; rw [List.map_map, List.map_map]; rfl
    rw [hns]
    refine (sm_if (et_lt (ed_lenSetD (ns := bs.map (·.1)) T.len T.set (by rw [List.length_map]; omega) (ed_var 2 rfl)) (ed_len (.lst _) T.len (ea_cons (ed_var 2 rfl) ea_nil))) (fun _ => ?_) (fun h => absurd h (by
      simp only [List.length_map, decide_eq_false_iff_not]
      omega)))
    exact sm_x (sx_raise C_UndoError (by decide +kernel) ed_non (by omega))
  | @ok bs hbs =>
  obtain ⟨hl1, hl2, hnm, hnd, hok⟩ := hbs
  have hpl : (blksD bs).length = bs.length := by unfold blksD; rw [List.length_map]
  refine (sm_if (EP'.et (ep_or (et_not (et_val (ed_isi (by exact tn_list) (by exact kit_list_list) T.isinstance (ea_cons (ed_var 0 rfl) (ea_cons (ed_type T.list (by decide +kernel)) ea_nil))))) fun _ => (ep_or1 (et_not (et_chain (fun _ _ => op_le) (rd_I0 fun _ => .bl _) (fun _ _ => op_le) (fun _ => rd_I0 fun _ => .bl _) ed_int (ed_len (.lst _) T.len (ea_cons (ed_var 0 rfl) ea_nil)) (fun _ => T.c_MOST_BLOCKS (by decide +kernel)) (by with_unfolding_all rfl)))))) (fun h => absurd h (by
    rw [hpl, decide_eq_true (show (1 : Int) ≤ (bs.length : Int) by omega), decide_eq_true (show (bs.length : Int) ≤ 12 by omega)]; decide)) (fun _ => (sm_nil ?_)))
  refine (sm_cons (s1_forN 1 bs.length (fun i => ⟨[.va (.lst (blksD bs)), .no, .no, .no, .no, .no], []⟩) (id_list (ed_var 0 rfl)) hpl nd ⟨rfl, by repeat (first | exact trivial | refine And.intro rfl ?_)⟩ (fun _ => by simp) (fun i d hd => ?_)) ?_)
  · obtain ⟨b, hb, rfl⟩ := blks_at hd
    exact (sd_cons (s1_expr (ed_callX C_need_block (by omega) ⟨_, rfl, fines_at (by rw [D.fine] at hf; exact hf.2) hd, by rw [if_pos (show isBlk (.tup [.str b.1, .lst b.2]) = true from by show (isNameS b.1 && true) = true; rw [hnm b (List.mem_of_getElem? hb)]; rfl)]⟩ (ea_cons (ed_var 1 rfl) ea_nil))) (sd_nil (sd_endw ⟨rfl, by repeat (first | exact trivial | refine And.intro rfl ?_)⟩)))
  refine (sm_cons (s1_setLc 2 [("block", 1)] nd (id_list (ed_var 0 rfl)) (comp_map 1 headD nd (Nat.lt_of_lt_of_eq (show 1 < 6 by decide) rfl) (blksD bs) (fun d hd => by
    obtain ⟨b, hb, rfl⟩ : ∃ b, b ∈ bs ∧ D.tup [.str b.1, .lst b.2] = d := by unfold blksD at hd; rw [List.mem_map] at hd; exact hd
    exact (ed_ixT (d := .str b.1) (atI_zero _ _) (ed_var 1 rfl) ed_int))) (by rw [hpl]; omega) (hsw := fun X hX => sw_true (by rw [hX.sc]; rfl) (by rw [hX.sc]; decide +kernel) rfl (by decide +kernel))) (sm_freeze 2 rfl ?_))
  have hns : (blksD bs).map headD = (bs.map (·.1)).map .str := by unfold blksD; rw [List.map_map, List.map_map]; rfl
  rw [hns]
  refine (sm_if (et_lt (ed_lenSet (ns := bs.map (·.1)) T.len T.set hnd (by rw [List.length_map]; omega) (ed_var 2 rfl)) (ed_len (.lst _) T.len (ea_cons (ed_var 2 rfl) ea_nil))) (fun h => absurd h (by simp)) (fun _ => (sm_nil ?_)))
  refine sm_cons (s1_set 3 ed_int nd) ?_
  cases e1 : ckBlocks (bs.map (·.1)) bs with
  | ok k =>
    obtain ⟨ks, hk1, hk2, hk3⟩ := ckBlocks_ok e1
    refine sm_cons (s1_forT bs.length (fun i => ⟨[.va (.lst (blksD bs)), .no, .va (.lst ((bs.map (·.1)).map .str)), .va (.int ((ks.take i).sum : Nat)), .no, .no], []⟩) (id_list (ed_var 0 rfl)) hpl ⟨rfl, by repeat (first | exact trivial | refine And.intro rfl ?_)⟩ (fun i d hd => ?_)) ?_
    · obtain ⟨b, hb, rfl⟩ := blks_at hd
      obtain ⟨o1, o2⟩ := hok b (List.mem_of_getElem? hb)
      obtain ⟨k1, e3, e4⟩ := hk3 i _ hb
      rw [sum_take_succ e3]
      refine ⟨[4, 5], _, td_name2 4 5 nd, ?_⟩
      exact (sd_cons (s1_set 3 (ED.is (ed_add (ed_var 3 rfl) (ed_callX C_counted (by omega) ⟨b.2, [.str b.1], bs.map (·.1), rfl, by omega, o1, o2, by simp, by rw [e4]; rfl⟩ (ea_cons (ed_var 5 rfl) (ea_cons (ed_tup (ea_cons (ed_var 4 rfl) ea_nil)) (ea_cons ed_int (ea_cons (ed_var 2 rfl) ea_nil)))))) (d2 := .int ((ks.take i).sum + k1 : Nat)) (congrArg D.int (by omega))) nd) (sd_nil (sd_endw ⟨rfl, by repeat (first | exact trivial | refine And.intro rfl ?_)⟩)))
    · have e5 : (ks.take bs.length).sum = k := by rw [← hk1, List.take_length, hk2]
      rw [e5]
      exact sm_of (sd_rt (s1_ret (ed_var 3 rfl)))
  | bad x q =>
    obtain ⟨i, b, hi, hb, ks, hk1, hk3⟩ := ckBlocks_bad e1
    have hli := (List.getElem?_eq_some_iff.mp hi).1
    refine sm_x (sx_forE (n := i) (fun i ρ' => leR ⟨[.va (.lst (blksD bs)), .no, .va (.lst ((bs.map (·.1)).map .str)), .va (.int ((ks.take i).sum : Nat)), .no, .no], []⟩ ρ') (id_list (ed_var 0 rfl)) ⟨rfl, by repeat (first | exact trivial | refine And.intro rfl ?_)⟩ (by rw [hpl]; exact hli) (fun j d' ρ' hj hd' hI => ?_) (fun d' ρ' hd' hI => ?_))
    · obtain ⟨b2, hb2, rfl⟩ := blks_at hd'
      obtain ⟨o1, o2⟩ := hok b2 (List.mem_of_getElem? hb2)
      obtain ⟨k1, e3, e4⟩ := hk3 j _ hj hb2
      have hl := hI.len
      refine ⟨[4, 5], _, td_name2 4 5 nd (hρ := by rw [← hl]; exact (show 4 < 6 by decide)) (hρ2 := by rw [← hl]; exact (show 5 < 6 by decide)), ?_⟩
      rw [sum_take_succ e3]
      refine sd_mono (P := fun ρ' => ρ' = ⟨[.va (.lst (blksD bs)), .no, .va (.lst ((bs.map (·.1)).map .str)), .va (.int ((ks.take j).sum + k1 : Nat)), .no, .no], []⟩) (sd_pre (sd_exact ?_) (leR.set (leR.set hI))) (fun ρ' e => by subst e; exact leR.refl _)
      exact (sd_cons (s1_set 3 (ED.is (ed_add (ed_var 3 rfl) (ed_callX C_counted (by omega) ⟨b2.2, [.str b2.1], bs.map (·.1), rfl, by omega, o1, o2, by simp, by rw [e4]; rfl⟩ (ea_cons (ed_var 5 rfl) (ea_cons (ed_tup (ea_cons (ed_var 4 rfl) ea_nil)) (ea_cons ed_int (ea_cons (ed_var 2 rfl) ea_nil)))))) (d2 := .int ((ks.take j).sum + k1 : Nat)) (congrArg D.int (by omega))) nd) (sd_nil (sd_endw ⟨rfl, by repeat (first | exact trivial | refine And.intro rfl ?_)⟩)))
    · obtain ⟨b2, hb2, rfl⟩ := blks_at hd'
      rw [hi] at hb2
      cases hb2
      obtain ⟨o1, o2⟩ := hok b (List.mem_of_getElem? hi)
      have hl := hI.len
      refine ⟨[4, 5], _, td_name2 4 5 nd (hρ := by rw [← hl]; exact (show 4 < 6 by decide)) (hρ2 := by rw [← hl]; exact (show 5 < 6 by decide)), ?_⟩
      refine sm_pre ?_ (leR.set (leR.set hI))
      exact sm_x (sx_set (ex_add (ed_var 3 rfl) (ex_callX C_counted (by omega) ⟨b.2, [.str b.1], bs.map (·.1), rfl, by omega, o1, o2, by simp, by rw [hb]; rfl⟩ (ea_cons (ed_var 5 rfl) (ea_cons (ed_tup (ea_cons (ed_var 4 rfl) ea_nil)) (ea_cons ed_int (ea_cons (ed_var 2 rfl) ea_nil)))))) nd (i := 3) rfl)
abbrev s_lword : Stmt := topS 47
abbrev n_lword : List Str := ["_law_e", "_law_found"]
abbrev e_lword : Nm := ⟨n_lword, defScope s_lword, fun _ => true⟩
omit T in
theorem sc_lword : FnScope n_lword ["_law_e"] (defScope s_lword) := ⟨rfl, rfl, rfl, by decide +kernel, rfl, by decide +kernel, by decide +kernel⟩
theorem b_lword (HT : HTab c "UndoError" hotX xcls) {a C dd : Addr} {dat d : D} (h : R_lword c hotX C d) : SH c e_lword ⟨a, C, dd⟩ dat (defBody s_lword) (rho n_lword [.ref a]) (.rt d) := by
  have nd := sc_lword.nd
  obtain ⟨x, hx, hC, rfl⟩ := h
  have tm : ∀ {y z : Str} {ρ : Rho} {p0 p1 p2 p3 p4 p5 p6 p7 : Pos} {j : Nat}, ρ[0]? = some (.va (.ref a)) → y ∈ xcls → glB e_lword.sc y = true → (y == ("__debug__" : Str)) = false → EH c e_lword ⟨a, C, dd⟩ dat (.BinOp (.Constant (.str z) j p0) .Mult (.Call (.Name "int" p1) [.Call (.Name "isinstance" p2) [.Name "_law_e" p3, .Name y p4] [] p5] [] p6) p7) ρ (.str (onceS (decide (x = y)) z)) := fun h0 hy hg hd =>
    eh_mulS eh_str (eh_intB T.int (eh_isX HT hx hC hy T.isinstance (eh_var 0 h0) (by decide +kernel) hg hd))
  have l0 := onceS_len (decide (x = "BadProgram")) "program"
  have l1 := onceS_len (decide (x = "BadRow")) "row"
  have l2 := onceS_len (decide (x = "BadName")) "name"
  have l3 := onceS_len (decide (x = "BadNumber")) "number"
  have l4 := onceS_len (decide (x = "OwnBox")) "own"
  have l5 := onceS_len (decide (x = "TooDeep")) "deep"
  have l6 := onceS_len (decide (x = "BadLine")) "line"
  have l7 := onceS_len (!true) "none"
  rw [show ("program" : Str).length = 7 from by decide +kernel] at l0
  rw [show ("row" : Str).length = 3 from by decide +kernel] at l1
  rw [show ("name" : Str).length = 4 from by decide +kernel] at l2
  rw [show ("number" : Str).length = 6 from by decide +kernel] at l3
  rw [show ("own" : Str).length = 3 from by decide +kernel] at l4
  rw [show ("deep" : Str).length = 4 from by decide +kernel] at l5
  rw [show ("line" : Str).length = 4 from by decide +kernel] at l6
  rw [show ("none" : Str).length = 4 from by decide +kernel] at l7
  refine sh_set 1 (eh_addS (by omega) (tm rfl (by decide +kernel) (by decide +kernel) (by decide)) (tm rfl (by decide +kernel) (by decide +kernel) (by decide))) nd ?_
  refine sh_set 1 (eh_addS (by simp only [str_app_len]; omega) (eh_addS (by simp only [str_app_len]; omega) (eh_var 1 rfl) (tm rfl (by decide +kernel) (by decide +kernel) (by decide))) (tm rfl (by decide +kernel) (by decide +kernel) (by decide))) nd ?_
  refine sh_set 1 (eh_addS (by simp only [str_app_len]; omega) (eh_addS (by simp only [str_app_len]; omega) (eh_var 1 rfl) (tm rfl (by decide +kernel) (by decide +kernel) (by decide))) (tm rfl (by decide +kernel) (by decide +kernel) (by decide))) nd ?_
  exact sh_ret (EH.is (eh_addS (by simp only [str_app_len]; omega) (eh_addS (by simp only [str_app_len]; omega) (eh_var 1 rfl) (tm rfl (by decide +kernel) (by decide +kernel) (by decide))) (EH.is (d2 := .str (onceS (!true) "none")) (eh_mulS eh_str (eh_intB T.int (eh_not (eh_isVE HT hx hC T.isinstance T.ValueError (eh_var 0 rfl))))) rfl)) rfl)
abbrev s_refusal : Stmt := topS 48
abbrev n_refusal : List Str := ["_law_program_here", "_law_e"]
abbrev e_refusal : Nm := ⟨n_refusal, defScope s_refusal, fun _ => true⟩
omit T in
theorem sc_refusal : FnScope n_refusal ["_law_program_here"] (defScope s_refusal) := ⟨rfl, rfl, rfl, by decide +kernel, rfl, by decide +kernel, by decide +kernel⟩
theorem b_refusal (hk : 25 ≤ c.k) (HT : HTab c "UndoError" hotX xcls) (C_checked : CallX c 25 "checked" R_xchecked3) (C_word : CallHot c 1 "_law_word" (R_lword c hotX)) {B : Addr} (hB : c.mg "UndoError" = some (.ref B)) {vs : List V} {H : Hp} {Q : VK} {E : XK} (h : spO c.K (R_refusal hotX R_xchecked3) vs H Q E) :
    XWB c e_refusal (tryBody s_refusal) (wTry c e_refusal (trySuite s_refusal) B 1 { nx := fun _ H' => Q .non H', rt := Q }) { nx := fun _ H' => Q .non H', rt := Q } (L2.start n_refusal vs) H := by
  obtain ⟨F, ds, d, s, rl, ⟨hl, r, hr, ho⟩, q⟩ := h
  obtain ⟨d0, rfl⟩ : ∃ d0, ds = [d0] := List.length_eq_one_iff.mp hl
  have S : Stt c.K F H (rho n_refusal [d0]) (L2.start n_refusal vs) F H := stt_start s rl
  rcases ho with ⟨n, rfl, rfl⟩ | ⟨x, pl, rfl, hx, rfl⟩
  · exact try_ok (out := .ro (.lst [.int n])) S (sd_ro (s1_retO (eo_lst (ea_cons (ed_callX C_checked (by omega) hr (ea_cons (ed_var 0 rfl) ea_nil)) ea_nil)))) (fun a F' H' g n1 n2 ob => q a F' H' g n1 n2 ob)
  · obtain ⟨C, hC⟩ := HT.cls x hx
    obtain ⟨B', hB', hex⟩ := HT.B
    rw [hB] at hB'
    cases hB'
    refine try_x (out := .ro (.lst [.str (wordF x), pl])) hC (hex x hx C hC) S (ex_lst (ax_one (ex_callX C_checked (by omega) hr (ea_cons (ed_var 0 rfl) ea_nil)))) (Nat.lt_of_lt_of_eq (show 1 < 2 by decide) rfl) (fun a dd => ?_) (fun a F' H' g n1 n2 ob => q a F' H' g n1 n2 ob)
    exact sh_retO (eho_lst (ah_cons (eh_callHot C_word (by omega) ⟨x, hx, hC, rfl⟩ (eh_var 1 rfl)) (ah_cons (eh_atX HT hx hC (eh_var 1 rfl)) ah_nil)))
abbrev s_cell_at : Stmt := topS 34
abbrev n_cell_at : List Str := ["_law_script", "_law_k"]
abbrev e_cell_at : Nm := ⟨n_cell_at, defScope s_cell_at, fun _ => true⟩
omit T in
theorem sc_cell_at : FnScope n_cell_at ["_law_script", "_law_k"] (defScope s_cell_at) := ⟨rfl, rfl, rfl, by decide +kernel, rfl, by decide +kernel, by decide +kernel⟩
def R_cell_at (ds : List D) (d : D) : Prop := ∃ ns k, ds = [.scr ns, .int k] ∧ 0 ≤ k ∧ d = .int (cellAt ns k)
theorem b_cell_at {ds : List D} {d : D} (h : R_cell_at ds d) : BodyD c e_cell_at s_cell_at (rho n_cell_at ds) d := by
  have nd := sc_cell_at.nd
  obtain ⟨ns, k, rfl, hk, rfl⟩ := h
  left
  exact
    (sd_if (et_lt (ed_var 1 rfl) (ed_lenC T.len (ea_cons (ed_var 0 rfl) ea_nil)))
      (fun h100 =>
        (sd_rt (s1_ret (ED.is (ed_ixc (ed_var 0 rfl) (ed_var 1 rfl) (by simp at h100; omega)) (by simp at h100; unfold cellAt; rw [if_pos h100])))))
      (fun h100 =>
        (sd_nil
          (sd_rt (s1_ret (ED.is ed_int (by simp at h100; unfold cellAt; rw [if_neg (by omega)])))))))
abbrev s_mixed : Stmt := topS 35
abbrev n_mixed : List Str := ["_law_cell", "_law_k", "_law_number"]
abbrev e_mixed : Nm := ⟨n_mixed, defScope s_mixed, fun _ => true⟩
omit T in
theorem sc_mixed : FnScope n_mixed ["_law_cell", "_law_k"] (defScope s_mixed) := ⟨rfl, rfl, rfl, by decide +kernel, rfl, by decide +kernel, by decide +kernel⟩
def R_mixed (ds : List D) (d : D) : Prop := ∃ x k, ds = [.int x, .int k] ∧ d = .int (mixed x k)
theorem b_mixed {ds : List D} {d : D} (h : R_mixed ds d) : BodyD c e_mixed s_mixed (rho n_mixed ds) d := by
  have nd := sc_mixed.nd
  obtain ⟨x, k, rfl, rfl⟩ := h
  left
  exact
    (sd_cons (s1_set 2 (ed_mod (by decide) (ed_mul (.inr ⟨by decide, by decide⟩) (ed_add (ed_add (ed_var 0 rfl) (ed_mul (.inl ⟨by decide, by decide⟩) ed_int (ed_var 1 rfl))) ed_int) ed_int) ed_int) nd)
      (sd_rt (s1_ret (ED.is (ed_mod (by decide) (ed_mul (.inl ⟨by omega, by omega⟩) (ed_var 2 rfl) (ed_var 2 rfl)) ed_int) (by first | rfl | (try clear nd; simp_all; done))))))
abbrev s_whole : Stmt := topS 36
abbrev n_whole : List Str := ["_law_found"]
abbrev e_whole : Nm := ⟨n_whole, defScope s_whole, fun _ => true⟩
omit T in
theorem sc_whole : FnScope n_whole ["_law_found"] (defScope s_whole) := ⟨rfl, rfl, rfl, by decide +kernel, rfl, by decide +kernel, by decide +kernel⟩
def R_whole (ds : List D) (d : D) : Prop := ∃ x, ds = [x] ∧ x.tyn ≠ "type" ∧ d = .bl (wholeD x)
theorem b_whole {ds : List D} {d : D} (h : R_whole ds d) : BodyD c e_whole s_whole (rho n_whole ds) d := by
  have nd := sc_whole.nd
  obtain ⟨x, rfl, ht, rfl⟩ := h
  left
  cases x with
  | ty => exact absurd rfl ht
  | ref => exact absurd rfl ht
  | ins => exact absurd rfl ht
  | exc => exact absurd rfl ht
  | int x => exact
    (sd_rt (s1_ret (ED.is (ed_and (ed_isi (by exact tn_int) (by exact kit_int_int) T.isinstance (ea_cons (ed_var 0 rfl) (ea_cons (ed_type T.int (by decide +kernel)) ea_nil))) fun h1 => (ed_one (ed_not (ed_isi (by exact tn_int) (by exact kit_int_bool) T.isinstance (ea_cons (ed_var 0 rfl) (ea_cons (ed_type T.bool (by decide +kernel)) ea_nil)))))) (by first | rfl | (try clear nd; simp_all; done)))))
  | bl x => exact
    (sd_rt (s1_ret (ED.is (ed_and (ed_isi (by exact tn_bool) (by exact kit_bool_int) T.isinstance (ea_cons (ed_var 0 rfl) (ea_cons (ed_type T.int (by decide +kernel)) ea_nil))) fun h1 => (ed_one (ed_not (ed_isi (by exact tn_bool) (by exact kit_bool_bool) T.isinstance (ea_cons (ed_var 0 rfl) (ea_cons (ed_type T.bool (by decide +kernel)) ea_nil)))))) (by first | rfl | (try clear nd; simp_all; done)))))
  | str x => exact
    (sd_rt (s1_ret (ED.is (ed_and (ed_isi (by exact tn_str) (by exact kit_str_int) T.isinstance (ea_cons (ed_var 0 rfl) (ea_cons (ed_type T.int (by decide +kernel)) ea_nil))) fun h1 => (ed_one (ed_not (ed_isi (by exact tn_str) (by exact kit_str_bool) T.isinstance (ea_cons (ed_var 0 rfl) (ea_cons (ed_type T.bool (by decide +kernel)) ea_nil)))))) (by first | rfl | (try clear nd; simp_all; done)))))
  | non => exact
    (sd_rt (s1_ret (ED.is (ed_and (ed_isi (by exact tn_NoneType) (by exact kit_NoneType_int) T.isinstance (ea_cons (ed_var 0 rfl) (ea_cons (ed_type T.int (by decide +kernel)) ea_nil))) fun h1 => (ed_one (ed_not (ed_isi (by exact tn_NoneType) (by exact kit_NoneType_bool) T.isinstance (ea_cons (ed_var 0 rfl) (ea_cons (ed_type T.bool (by decide +kernel)) ea_nil)))))) (by first | rfl | (try clear nd; simp_all; done)))))
  | tup x => exact
    (sd_rt (s1_ret (ED.is (ed_and (ed_isi (by exact tn_tuple) (by exact kit_tuple_int) T.isinstance (ea_cons (ed_var 0 rfl) (ea_cons (ed_type T.int (by decide +kernel)) ea_nil))) fun h1 => (ed_one (ed_not (ed_isi (by exact tn_tuple) (by exact kit_tuple_bool) T.isinstance (ea_cons (ed_var 0 rfl) (ea_cons (ed_type T.bool (by decide +kernel)) ea_nil)))))) (by first | rfl | (try clear nd; simp_all; done)))))
  | lst x => exact
    (sd_rt (s1_ret (ED.is (ed_and (ed_isi (by exact tn_list) (by exact kit_list_int) T.isinstance (ea_cons (ed_var 0 rfl) (ea_cons (ed_type T.int (by decide +kernel)) ea_nil))) fun h1 => (ed_one (ed_not (ed_isi (by exact tn_list) (by exact kit_list_bool) T.isinstance (ea_cons (ed_var 0 rfl) (ea_cons (ed_type T.bool (by decide +kernel)) ea_nil)))))) (by first | rfl | (try clear nd; simp_all; done)))))
  | dic x => exact
    (sd_rt (s1_ret (ED.is (ed_and (ed_isi (by exact tn_dict) (by exact kit_dict_int) T.isinstance (ea_cons (ed_var 0 rfl) (ea_cons (ed_type T.int (by decide +kernel)) ea_nil))) fun h1 => (ed_one (ed_not (ed_isi (by exact tn_dict) (by exact kit_dict_bool) T.isinstance (ea_cons (ed_var 0 rfl) (ea_cons (ed_type T.bool (by decide +kernel)) ea_nil)))))) (by first | rfl | (try clear nd; simp_all; done)))))
  | scr x => exact
    (sd_rt (s1_ret (ED.is (ed_and (ed_isi (by exact tn_list) (by exact kit_list_int) T.isinstance (ea_cons (ed_var 0 rfl) (ea_cons (ed_type T.int (by decide +kernel)) ea_nil))) fun h1 => (ed_one (ed_not (ed_isi (by exact tn_list) (by exact kit_list_bool) T.isinstance (ea_cons (ed_var 0 rfl) (ea_cons (ed_type T.bool (by decide +kernel)) ea_nil)))))) (by first | rfl | (try clear nd; simp_all; done)))))
abbrev s_alike : Stmt := topS 37
abbrev n_alike : List Str := ["_law_found", "_law_due", "_law_key", "_law_k"]
abbrev e_alike : Nm := ⟨n_alike, defScope s_alike, fun _ => true⟩
omit T in
theorem sc_alike : FnScope n_alike ["_law_found", "_law_due"] (defScope s_alike) := ⟨rfl, rfl, rfl, by decide +kernel, rfl, by decide +kernel, by decide +kernel⟩
theorem b_alike {n : Nat} (hk : n + 1 ≤ c.k) (C__law_whole : Call c 1 "_law_whole" (spP c.K R_whole)) (C__law_alike : ∀ m, m + 1 = n → Call c (m + 2) "_law_alike" (spP c.K (R_alike m))) {ds : List D} {d : D} (h : R_alike n ds d) : BodyD c e_alike s_alike (rho n_alike ds) d := by
  have nd := sc_alike.nd
  obtain ⟨x, y, rfl, hA, rfl⟩ := h
  left
  cases hA with
  | non => exact
    (sd_if (et_val (ed_isiT (Ts := ["tuple", "list", "dict"]) (by exact tn_NoneType) (fun K => rfl) T.isinstance (ed_var 1 rfl) (ea_cons (ed_type T.tuple (by decide +kernel)) (ea_cons (ed_type T.list (by decide +kernel)) (ea_cons (ed_type T.dict (by decide +kernel)) ea_nil)))))
      (fun h100 =>(absurd h100 (by decide)))
      (fun h100 =>
        (sd_nil
          (sd_if (EP'.et (ep_or (et_isN (ed_var 1 rfl) ed_non) fun h1 => (ep_or1 (et_val (ed_isi (by exact tn_NoneType) (by exact kit_NoneType_str) T.isinstance (ea_cons (ed_var 1 rfl) (ea_cons (ed_type T.str (by decide +kernel)) ea_nil)))))))
            (fun h101 =>
              (sd_rt (s1_ret (ED.is (ed_ifExp (et_isN (ed_var 1 rfl) ed_non) (fun h2 => (ed_isN (ed_var 0 rfl) ed_non)) (fun h2 => absurd h2 (by simp [D.isN]))) (by first | rfl | decide | simp)))))
            (fun h101 =>(absurd h101 (by simp [D.isN])))))))
  | int _ x => exact
    (sd_if (et_val (ed_isiT (Ts := ["tuple", "list", "dict"]) (by exact tn_int) (fun K => rfl) T.isinstance (ed_var 1 rfl) (ea_cons (ed_type T.tuple (by decide +kernel)) (ea_cons (ed_type T.list (by decide +kernel)) (ea_cons (ed_type T.dict (by decide +kernel)) ea_nil)))))
      (fun h100 =>(absurd h100 (by simp [D.isN])))
      (fun h100 =>
        (sd_nil
          (sd_if (EP'.et (ep_or (et_isN (ed_var 1 rfl) ed_non) fun h1 => (ep_or1 (et_val (ed_isi (by exact tn_int) (by exact kit_int_str) T.isinstance (ea_cons (ed_var 1 rfl) (ea_cons (ed_type T.str (by decide +kernel)) ea_nil)))))))
            (fun h101 =>(absurd h101 (by simp [D.isN])))
            (fun h101 =>
              (sd_nil
                (sd_rt (s1_ret (ED.is (ed_and (ed_call C__law_whole (by omega) (⟨_, rfl, by first | exact tn_int | assumption, rfl⟩) (ea_cons (ed_var 0 rfl) ea_nil)) fun h2 => (ed_one (ed_eq rfl (ed_var 0 rfl) (ed_var 1 rfl)))) (by simp [wholeD]))))))))))
  | str _ x => exact
    (sd_if (et_val (ed_isiT (Ts := ["tuple", "list", "dict"]) (by exact tn_str) (fun K => rfl) T.isinstance (ed_var 1 rfl) (ea_cons (ed_type T.tuple (by decide +kernel)) (ea_cons (ed_type T.list (by decide +kernel)) (ea_cons (ed_type T.dict (by decide +kernel)) ea_nil)))))
      (fun h100 =>(absurd h100 (by decide)))
      (fun h100 =>
        (sd_nil
          (sd_if (EP'.et (ep_or (et_isN (ed_var 1 rfl) ed_non) fun h1 => (ep_or1 (et_val (ed_isi (by exact tn_str) (by exact kit_str_str) T.isinstance (ea_cons (ed_var 1 rfl) (ea_cons (ed_type T.str (by decide +kernel)) ea_nil)))))))
            (fun h101 =>
              (sd_rt (s1_ret (ED.is (ed_ifExp (et_isN (ed_var 1 rfl) ed_non) (fun h3 => absurd h3 (by simp [D.isN])) (fun h3 => (ed_and (ed_isi (by exact tn_str) (by exact kit_str_str) T.isinstance (ea_cons (ed_var 0 rfl) (ea_cons (ed_type T.str (by decide +kernel)) ea_nil))) fun h2 => (ed_one (ed_eq rfl (ed_var 0 rfl) (ed_var 1 rfl)))))) (by simp)))))
            (fun h101 =>(absurd h101 (by simp)))))))
  | tup m xs ys hl hs hA =>
    have C__law_alike := C__law_alike m rfl
    exact
    (sd_if (et_val (ed_isiT (Ts := ["tuple", "list", "dict"]) (by exact tn_tuple) (fun K => rfl) T.isinstance (ed_var 1 rfl) (ea_cons (ed_type T.tuple (by decide +kernel)) (ea_cons (ed_type T.list (by decide +kernel)) (ea_cons (ed_type T.dict (by decide +kernel)) ea_nil)))))
      (fun h100 =>
        (sd_if (EP'.et (ep_or (et_not (et_val (ed_isiT (Ts := ["tuple", "list", "dict"]) (by exact tn_tuple) (fun K => rfl) T.isinstance (ed_var 0 rfl) (ea_cons (ed_type T.tuple (by decide +kernel)) (ea_cons (ed_type T.list (by decide +kernel)) (ea_cons (ed_type T.dict (by decide +kernel)) ea_nil)))))) fun h1 => (ep_or1 (et_ne rfl (ed_len (.tup _) T.len (ea_cons (ed_var 0 rfl) ea_nil)) (ed_len (.tup _) T.len (ea_cons (ed_var 1 rfl) ea_nil))))))
          (fun h101 =>(absurd h101 (by simp [hl])))
          (fun h101 =>
            (sd_nil
              (sd_if (et_ne rfl (ed_isi (by exact tn_tuple) (by exact kit_tuple_tuple) T.isinstance (ea_cons (ed_var 0 rfl) (ea_cons (ed_type T.tuple (by decide +kernel)) ea_nil))) (ed_isi (by exact tn_tuple) (by exact kit_tuple_tuple) T.isinstance (ea_cons (ed_var 1 rfl) (ea_cons (ed_type T.tuple (by decide +kernel)) ea_nil))))
                (fun h102 =>(absurd h102 (by decide)))
                (fun h102 =>
                  (sd_nil
                    (sd_if (et_ne rfl (ed_isi (by exact tn_tuple) (by exact kit_tuple_dict) T.isinstance (ea_cons (ed_var 0 rfl) (ea_cons (ed_type T.dict (by decide +kernel)) ea_nil))) (ed_isi (by exact tn_tuple) (by exact kit_tuple_dict) T.isinstance (ea_cons (ed_var 1 rfl) (ea_cons (ed_type T.dict (by decide +kernel)) ea_nil))))
                      (fun h103 =>(absurd h103 (by decide)))
                      (fun h103 =>
                        (sd_nil
                          (sd_if (et_val (ed_isi (by exact tn_tuple) (by exact kit_tuple_dict) T.isinstance (ea_cons (ed_var 1 rfl) (ea_cons (ed_type T.dict (by decide +kernel)) ea_nil))))
                            (fun h104 =>(absurd h104 (by decide)))
                            (fun h104 =>
                              (sd_nil
                                (sd_rt (s1_ret (ED.is (ed_all T.all (ea_cons (EO.ed (eo_comp [("_law_k", 3)] nd (id_range1 T.range (ea_cons (ed_len (.tup _) T.len (ea_cons (ed_var 1 rfl) ea_nil)) ea_nil)) (comp_rangeB 3 _ nd (h := fun k hk => (ed_call C__law_alike (by omega) (⟨_, _, rfl, (by have := hA k (by omega); simpa using this), rfl⟩) (ea_cons (ed_ixT (atI_get' _ _ .non (by omega)) (ed_var 0 rfl) (ed_var 3 rfl)) (ea_cons (ed_ixT (atI_get' _ _ .non (by omega)) (ed_var 1 rfl) (ed_var 3 rfl)) ea_nil))))) (by first | omega | (simp only [rangeD_len, List.length_set, List.length_cons, List.length_nil, List.length_map, List.length_append, List.length_range] <;> omega) | (simp <;> omega)))) ea_nil)) (congrArg D.bl (all_trueB _))))))))))))))))))
      (fun h100 =>(absurd h100 (by decide))))
  | lst m xs ys hl hs hA =>
    have C__law_alike := C__law_alike m rfl
    exact
    (sd_if (et_val (ed_isiT (Ts := ["tuple", "list", "dict"]) (by exact tn_list) (fun K => rfl) T.isinstance (ed_var 1 rfl) (ea_cons (ed_type T.tuple (by decide +kernel)) (ea_cons (ed_type T.list (by decide +kernel)) (ea_cons (ed_type T.dict (by decide +kernel)) ea_nil)))))
      (fun h100 =>
        (sd_if (EP'.et (ep_or (et_not (et_val (ed_isiT (Ts := ["tuple", "list", "dict"]) (by exact tn_list) (fun K => rfl) T.isinstance (ed_var 0 rfl) (ea_cons (ed_type T.tuple (by decide +kernel)) (ea_cons (ed_type T.list (by decide +kernel)) (ea_cons (ed_type T.dict (by decide +kernel)) ea_nil)))))) fun h1 => (ep_or1 (et_ne rfl (ed_len (.lst _) T.len (ea_cons (ed_var 0 rfl) ea_nil)) (ed_len (.lst _) T.len (ea_cons (ed_var 1 rfl) ea_nil))))))
          (fun h101 =>(absurd h101 (by simp [hl])))
          (fun h101 =>
            (sd_nil
              (sd_if (et_ne rfl (ed_isi (by exact tn_list) (by exact kit_list_tuple) T.isinstance (ea_cons (ed_var 0 rfl) (ea_cons (ed_type T.tuple (by decide +kernel)) ea_nil))) (ed_isi (by exact tn_list) (by exact kit_list_tuple) T.isinstance (ea_cons (ed_var 1 rfl) (ea_cons (ed_type T.tuple (by decide +kernel)) ea_nil))))
                (fun h102 =>(absurd h102 (by decide)))
                (fun h102 =>
                  (sd_nil
                    (sd_if (et_ne rfl (ed_isi (by exact tn_list) (by exact kit_list_dict) T.isinstance (ea_cons (ed_var 0 rfl) (ea_cons (ed_type T.dict (by decide +kernel)) ea_nil))) (ed_isi (by exact tn_list) (by exact kit_list_dict) T.isinstance (ea_cons (ed_var 1 rfl) (ea_cons (ed_type T.dict (by decide +kernel)) ea_nil))))
                      (fun h103 =>(absurd h103 (by decide)))
                      (fun h103 =>
                        (sd_nil
                          (sd_if (et_val (ed_isi (by exact tn_list) (by exact kit_list_dict) T.isinstance (ea_cons (ed_var 1 rfl) (ea_cons (ed_type T.dict (by decide +kernel)) ea_nil))))
                            (fun h104 =>(absurd h104 (by decide)))
                            (fun h104 =>
                              (sd_nil
                                (sd_rt (s1_ret (ED.is (ed_all T.all (ea_cons (EO.ed (eo_comp [("_law_k", 3)] nd (id_range1 T.range (ea_cons (ed_len (.lst _) T.len (ea_cons (ed_var 1 rfl) ea_nil)) ea_nil)) (comp_rangeB 3 _ nd (h := fun k hk => (ed_call C__law_alike (by omega) (⟨_, _, rfl, (by have := hA k (by omega); simpa using this), rfl⟩) (ea_cons (ed_ixL (atI_get' _ _ .non (by omega)) (ed_var 0 rfl) (ed_var 3 rfl)) (ea_cons (ed_ixL (atI_get' _ _ .non (by omega)) (ed_var 1 rfl) (ed_var 3 rfl)) ea_nil))))) (by first | omega | (simp only [rangeD_len, List.length_set, List.length_cons, List.length_nil, List.length_map, List.length_append, List.length_range] <;> omega) | (simp <;> omega)))) ea_nil)) (congrArg D.bl (all_trueB _))))))))))))))))))
      (fun h100 =>(absurd h100 (by decide))))
  | dic m xs ys hl hs h1 hA =>
    have C__law_alike := C__law_alike m rfl
    have hq : ∀ k ∈ ys, ∃ d e, lookD xs k.1 = some d ∧ lookD ys k.1 = some e ∧ Alk m d e := fun k hk => by
      obtain ⟨z1, z2⟩ := h1 k hk
      obtain ⟨d, e1⟩ := Option.isSome_iff_exists.mp z1
      obtain ⟨e, e2⟩ := Option.isSome_iff_exists.mp z2
      exact ⟨d, e, e1, e2, hA k hk d e e1 e2⟩
    exact
    (sd_if (et_val (ed_isiT (Ts := ["tuple", "list", "dict"]) (by exact tn_dict) (fun K => rfl) T.isinstance (ed_var 1 rfl) (ea_cons (ed_type T.tuple (by decide +kernel)) (ea_cons (ed_type T.list (by decide +kernel)) (ea_cons (ed_type T.dict (by decide +kernel)) ea_nil)))))
      (fun h100 =>
        (sd_if (EP'.et (ep_or (et_not (et_val (ed_isiT (Ts := ["tuple", "list", "dict"]) (by exact tn_dict) (fun K => rfl) T.isinstance (ed_var 0 rfl) (ea_cons (ed_type T.tuple (by decide +kernel)) (ea_cons (ed_type T.list (by decide +kernel)) (ea_cons (ed_type T.dict (by decide +kernel)) ea_nil)))))) fun h1 => (ep_or1 (et_ne rfl (ed_lenK T.len (ea_cons (ed_var 0 rfl) ea_nil)) (ed_lenK T.len (ea_cons (ed_var 1 rfl) ea_nil))))))
          (fun h101 =>(absurd h101 (by simp [hl])))
          (fun h101 =>
            (sd_nil
              (sd_if (et_ne rfl (ed_isi (by exact tn_dict) (by exact kit_dict_tuple) T.isinstance (ea_cons (ed_var 0 rfl) (ea_cons (ed_type T.tuple (by decide +kernel)) ea_nil))) (ed_isi (by exact tn_dict) (by exact kit_dict_tuple) T.isinstance (ea_cons (ed_var 1 rfl) (ea_cons (ed_type T.tuple (by decide +kernel)) ea_nil))))
                (fun h102 =>(absurd h102 (by decide)))
                (fun h102 =>
                  (sd_nil
                    (sd_if (et_ne rfl (ed_isi (by exact tn_dict) (by exact kit_dict_dict) T.isinstance (ea_cons (ed_var 0 rfl) (ea_cons (ed_type T.dict (by decide +kernel)) ea_nil))) (ed_isi (by exact tn_dict) (by exact kit_dict_dict) T.isinstance (ea_cons (ed_var 1 rfl) (ea_cons (ed_type T.dict (by decide +kernel)) ea_nil))))
                      (fun h103 =>(absurd h103 (by decide)))
                      (fun h103 =>
                        (sd_nil
                          (sd_if (et_val (ed_isi (by exact tn_dict) (by exact kit_dict_dict) T.isinstance (ea_cons (ed_var 1 rfl) (ea_cons (ed_type T.dict (by decide +kernel)) ea_nil))))
                            (fun h104 =>
                              (sd_rt (s1_ret (ED.is (ed_all T.all (ea_cons (EO.ed (eo_compK [("_law_key", 2)] nd (el_var 1 rfl) (comp_keysB 2 (fun _ => true) nd (h := fun k hk => by obtain ⟨d, e, h1, h2, h3⟩ := hq k hk; exact ED.is (ed_and (ed_inDic (by rfl) (ed_var 2 rfl) (ed_var 0 rfl)) fun _ => (ed_one (ed_call C__law_alike (by omega) ⟨_, _, rfl, h3, rfl⟩ (ea_cons (ed_dix h1 (ed_var 0 rfl) (ed_var 2 rfl)) (ea_cons (ed_dix h2 (ed_var 1 rfl) (ed_var 2 rfl)) ea_nil))))) (by rw [h1]; rfl))) (by first | omega | (simp only [rangeD_len, List.length_set, List.length_cons, List.length_nil, List.length_map, List.length_append, List.length_range] <;> omega) | (simp <;> omega)))) ea_nil)) (congrArg D.bl (all_trueB _))))))
                            (fun h104 =>(absurd h104 (by decide))))))))))))))
      (fun h100 =>(absurd h100 (by decide))))
abbrev s_names : Stmt := topS 38
abbrev n_names : List Str := ["_law_cell", "_law_letters", "_law_some", "_law_size", "_law_tail", "_law_k", "_law_word_here", "_law_place", "_law_words", "_law_j"]
abbrev e_names : Nm := ⟨n_names, defScope s_names, fun _ => true⟩
omit T in
theorem sc_names : FnScope n_names ["_law_cell"] (defScope s_names) := ⟨rfl, rfl, rfl, by decide +kernel, rfl, by decide +kernel, by decide +kernel⟩
def R_names (ds : List D) (d : D) : Prop := ∃ x, ds = [.int x] ∧ d = .lst ((lawNames x).map .str)
theorem b_names {ds : List D} {d : D} (h : R_names ds d) : SD c e_names [defBody s_names] (rho n_names ds) (.ro d) := by
  have nd := sc_names.nd
  obtain ⟨x, rfl, rfl⟩ := h
  have sz : 0 < lawSize x := by have := lawSize_ok x; omega
  have tl := lawTail_len x
  have al : ("abcdefghijklmnopqrstuvwxyz" : Str).length = 26 := by decide +kernel
  have alc : ("abcdefghijklmnopqrstuvwxyz" : Str).cps.toList.length = 26 := by decide +kernel
  exact
    (sd_cons (s1_set 1 ed_str nd)
      (sd_cons (s1_setO 2 (eo_lst ea_nil) nd)
        (sd_cons (s1_set 3 (ed_ixi (EO.ed (eo_lst (ea_cons ed_int (ea_cons ed_int (ea_cons ed_int (ea_cons ed_int (ea_cons ed_int ea_nil))))))) (ed_mod (by decide) (ed_fdiv ⟨by decide, by decide⟩ (ed_var 0 rfl) ed_int) ed_int) (by first | omega | (simp only [rangeD_len, List.length_set, List.length_cons, List.length_nil, List.length_map, List.length_append, List.length_range] <;> omega) | (have h1 := cutL_len ((lawNames1 x).map D.str) none (some 8); have h2 := cutL_len ((lawNames1 x).map D.str) none (some 4); rw [List.length_map, lawNames1_len] at h1 h2; omega))) nd)
          (sd_cons (s1_set 4 (ed_join (by rw [List.map_map, show ("" : Str).length = 0 from by decide +kernel, Nat.mul_zero]; exact (by decide : ((List.range 6).map (fun _ => 1)).sum + 0 ≤ 1000000)) ed_str (EO.ed (eo_comp [("_law_j", 9)] nd (id_range1 T.range (ea_cons ed_int ea_nil)) (comp_rangeS 9 _ nd (h := fun k hk => (ed_ixz sz_one (ed_var 1 rfl) (ed_mod (by decide) (ed_add (ed_add (ed_fdiv ⟨by decide, by decide⟩ (ed_var 0 rfl) ed_int) (ed_mul (.inl ⟨by decide, by decide⟩) ed_int (ed_var 9 rfl))) ed_int) ed_int) (by first | (refine ⟨by omega, ?_⟩; rw [show ∀ s : Str, (s.cps.toList.length : Int) = s.length from fun _ => rfl]; omega) | (constructor <;> simp <;> omega))))) (by first | omega | (simp only [rangeD_len, List.length_set, List.length_cons, List.length_nil, List.length_map, List.length_append, List.length_range] <;> omega) | (have h1 := cutL_len ((lawNames1 x).map D.str) none (some 8); have h2 := cutL_len ((lawNames1 x).map D.str) none (some 4); rw [List.length_map, lawNames1_len] at h1 h2; omega))))) nd)
            (sd_cons (s1_forN 5 12 (fun i => ⟨[.va (.int x), .va (.str "abcdefghijklmnopqrstuvwxyz"), .ow (.lst (((List.range i).map (lawWord x)).map .str)), .va (.int (lawSize x)), .va (.str (lawTail x)), .no, .no, .no, .no, .no], []⟩) (id_range1 T.range (ea_cons ed_int ea_nil)) rfl nd (by repeat (first | exact trivial | refine And.intro rfl ?_)) (fun _ => by simp) (fun i d hd => by obtain ⟨hi, rfl⟩ := rangeD_inv hd; exact
                (sd_cons (s1_set 6 (ed_ixz sz_one (ed_var 1 rfl) (ed_mod (by decide) (ed_add (ed_fdiv ⟨by decide, by decide⟩ (ed_var 0 rfl) ed_int) (ed_mul (.inl ⟨by decide, by decide⟩) ed_int (ed_var 5 rfl))) ed_int) (by first | (refine ⟨by omega, ?_⟩; rw [show ∀ s : Str, (s.cps.toList.length : Int) = s.length from fun _ => rfl]; omega) | (constructor <;> simp <;> omega))) nd)
                  (sd_cons (s1_if (out := .nx ⟨[.va (.int x), .va (.str "abcdefghijklmnopqrstuvwxyz"), .ow (.lst (((List.range i).map (lawWord x)).map .str)), .va (.int (lawSize x)), .va (.str (lawTail x)), .va (.int (0 + (i : Nat))), .va (.str (lawWord x i)), .no, .no, .no], []⟩) (et_eq rfl (ed_mod (by decide) (ed_var 0 rfl) ed_int) ed_int) (fun h100 => 
                      (sd_cons (s1_set 7 (ed_mod (by first | omega | (simp only [rangeD_len, List.length_set, List.length_cons, List.length_nil, List.length_map, List.length_append, List.length_range] <;> omega) | (simp <;> omega)) (ed_fdiv ⟨by decide, by decide⟩ (ed_var 0 rfl) ed_int) (ed_var 3 rfl)) nd)
                        (sd_cons (s1_set 6 (ed_addS sz_add (ed_addS sz_add (ed_slS (lo := none) (hi := some _) sz_one (ed_var 4 rfl) trivial (ed_var 7 rfl)) (ed_var 6 rfl)) (ed_slS (lo := some _) (hi := some _) sz_one (ed_var 4 rfl) (ed_add (ed_var 7 rfl) ed_int) (ed_var 3 rfl))) nd)
                          (sd_nil (sd_endw (by
    have a : x % 3 = 1 := by simpa using h100
    rw [lawWord_1 a]; repeat (first | exact trivial | refine And.intro rfl ?_))))))) (fun h100 => 
                      (sd_if (et_eq rfl (ed_mod (by decide) (ed_var 0 rfl) ed_int) ed_int)
                        (fun h101 =>
                          (sd_cons (s1_set 6 (ed_ixz sz_one (ed_var 1 rfl) (ed_mod (by decide) (ed_add (ed_fdiv ⟨by decide, by decide⟩ (ed_var 0 rfl) ed_int) (ed_mul (.inl ⟨by decide, by decide⟩) ed_int (ed_fdiv ⟨by decide, by decide⟩ (ed_var 5 rfl) ed_int))) ed_int) (by first | (refine ⟨by omega, ?_⟩; rw [show ∀ s : Str, (s.cps.toList.length : Int) = s.length from fun _ => rfl]; omega) | (constructor <;> simp <;> omega))) nd)
                            (sd_cons (s1_set 6 (ed_addS sz_add (ed_var 6 rfl) (ed_slS (lo := none) (hi := some _) sz_one (ed_addS sz_add ed_str (ed_var 4 rfl)) trivial (ed_add (ed_mod (by decide) (ed_var 5 rfl) ed_int) (ed_mod (by decide) (ed_fdiv ⟨by decide, by decide⟩ (ed_var 0 rfl) ed_int) ed_int)))) nd)
                              (sd_nil
                                (sd_nil (sd_endw (by
    have a : ¬ x % 3 = 1 := by simpa using h100
    have b : x % 3 = 2 := by simpa using h101
    rw [lawWord_2 a b]; repeat (first | exact trivial | refine And.intro rfl ?_))))))))
                        (fun h101 =>
                          (sd_if (et_gt (ed_mod (by decide) (ed_add (ed_fdiv ⟨by decide, by decide⟩ (ed_var 0 rfl) ed_int) (ed_var 5 rfl)) ed_int) ed_int)
                            (fun h102 =>
                              (sd_cons (s1_set 6 (ed_addS sz_add (ed_var 6 rfl) (ed_strI (log_small (by omega)) T.str (ea_cons (ed_mod (by decide) (ed_add (ed_var 0 rfl) (ed_var 5 rfl)) ed_int) ea_nil))) nd)
                                (sd_cons (s1_set 6 (ed_addS sz_add (ed_var 6 rfl) (ed_slS (lo := none) (hi := some _) sz_one (ed_var 4 rfl) trivial (ed_sub (ed_mod (by decide) (ed_add (ed_fdiv ⟨by decide, by decide⟩ (ed_var 0 rfl) ed_int) (ed_var 5 rfl)) ed_int) ed_int))) nd)
                                  (sd_nil
                                    (sd_nil
                                      (sd_nil (sd_endw (by
    have a : ¬ x % 3 = 1 := by simpa using h100
    have b : ¬ x % 3 = 2 := by simpa using h101
    rw [lawWord_3 a b i (of_decide_eq_true h102)]; repeat (first | exact trivial | refine And.intro rfl ?_)))))))))
                            (fun h102 =>
                              (sd_nil
                                (sd_nil
                                  (sd_nil (sd_endw (by
    have a : ¬ x % 3 = 1 := by simpa using h100
    have b : ¬ x % 3 = 2 := by simpa using h101
    rw [lawWord_4 a b i (of_decide_eq_false h102)]; repeat (first | exact trivial | refine And.intro rfl ?_))))))))))))
                    (sd_cons (s1_app 2 rfl (ed_var 6 rfl) (by first | omega | (simp only [rangeD_len, List.length_set, List.length_cons, List.length_nil, List.length_map, List.length_append, List.length_range] <;> omega) | (have h1 := cutL_len ((lawNames1 x).map D.str) none (some 8); have h2 := cutL_len ((lawNames1 x).map D.str) none (some 4); rw [List.length_map, lawNames1_len] at h1 h2; omega)) (fun _ _ _ h1 h2 => pe_bm PySem.F.plainAttrs_list PySem.F.slot_list_append PySem.F.type_list_append mt_append h1 h2))
                      (sd_nil (sd_endw (by rw [up_succ]; repeat (first | exact trivial | refine And.intro rfl ?_)))))))))
              (sd_cons (s1_if (out := .nx ⟨[.va (.int x), .no, .ow (.lst ((lawNames1 x).map .str)), .no, .no, .no, .no, .no, .no, .no], []⟩) (et_eq rfl (ed_mod (by decide) (ed_var 0 rfl) ed_int) ed_int) (fun h103 => 
                  (sd_cons (s1_set 8 (EO.ed (eo_lst (ea_cons ed_str (ea_cons ed_str (ea_cons ed_str (ea_cons ed_str (ea_cons ed_str (ea_cons ed_str (ea_cons ed_str (ea_cons ed_str (ea_cons ed_str (ea_cons ed_str ea_nil)))))))))))) nd)
                    (sd_if (et_borrow 2 rfl (et_notIn (.lst _) rfl flatS (by rfl) (ed_ixs (ed_var 8 rfl) (ed_mod (by decide) (ed_fdiv ⟨by decide, by decide⟩ (ed_var 0 rfl) ed_int) ed_int) (by first | omega | (simp only [rangeD_len, List.length_set, List.length_cons, List.length_nil, List.length_map, List.length_append, List.length_range] <;> omega) | (have h1 := cutL_len ((lawNames1 x).map D.str) none (some 8); have h2 := cutL_len ((lawNames1 x).map D.str) none (some 4); rw [List.length_map, lawNames1_len] at h1 h2; omega))) (ed_var 2 rfl)))
                      (fun h104 =>
                        (sd_cons (s1_setix 2 rfl (ed_ixs (ed_var 8 rfl) (ed_mod (by decide) (ed_fdiv ⟨by decide, by decide⟩ (ed_var 0 rfl) ed_int) ed_int) (by first | omega | (simp only [rangeD_len, List.length_set, List.length_cons, List.length_nil, List.length_map, List.length_append, List.length_range] <;> omega) | (have h1 := cutL_len ((lawNames1 x).map D.str) none (some 8); have h2 := cutL_len ((lawNames1 x).map D.str) none (some 4); rw [List.length_map, lawNames1_len] at h1 h2; omega))) (ed_mod (by decide) (ed_fdiv ⟨by decide, by decide⟩ (ed_var 0 rfl) ed_int) ed_int) (by first | omega | (simp only [rangeD_len, List.length_set, List.length_cons, List.length_nil, List.length_map, List.length_append, List.length_range] <;> omega) | (have h1 := cutL_len ((lawNames1 x).map D.str) none (some 8); have h2 := cutL_len ((lawNames1 x).map D.str) none (some 4); rw [List.length_map, lawNames1_len] at h1 h2; omega)) (fun _ _ _ _ h1 h2 h3 => ps_asg h3 (pg_sub h1 h2 set_list)))
                          (sd_nil
                            (sd_nil (sd_endw (by
    have a : x % 5 = 3 := by simpa using h103
    rw [inD_strs] at h104
    rw [lawNames1_pos a (not_dec h104), List.map_set]; repeat (first | exact trivial | refine And.intro rfl ?_)))))))
                      (fun h104 =>
                        (sd_nil
                          (sd_nil (sd_endw (by
    have a : x % 5 = 3 := by simpa using h103
    rw [inD_strs] at h104
    rw [lawNames1_neg (fun z => z.2 (not_dec' h104))]; repeat (first | exact trivial | refine And.intro rfl ?_))))))))) (fun h103 => 
                  (sd_nil (sd_endw (by
    have a : ¬ x % 5 = 3 := by simpa using h103
    rw [lawNames1_neg (fun z => a z.1)]; repeat (first | exact trivial | refine And.intro rfl ?_))))))
                (sd_if (et_eq rfl (ed_mod (by decide) (ed_var 0 rfl) ed_int) ed_int)
                  (fun h105 =>
                    (sd_freeze 2 rfl
                    (sd_cons (s1_setO 2 (eo_cat (by first | omega | (simp only [rangeD_len, List.length_set, List.length_cons, List.length_nil, List.length_map, List.length_append, List.length_range] <;> omega) | (have h1 := cutL_len ((lawNames1 x).map D.str) none (some 8); have h2 := cutL_len ((lawNames1 x).map D.str) none (some 4); rw [List.length_map, lawNames1_len] at h1 h2; omega)) (EO.ed (eo_slL (lo := none) (hi := some _) (ed_var 2 rfl) trivial ed_int)) (EO.ed (eo_slL (lo := none) (hi := some _) (ed_var 2 rfl) trivial ed_int))) nd)
                      (sd_nil
                        (SD.isO (sd_ro (s1_retW (i := 2) rfl)) (by
    have a : x % 7 = 2 := by simpa using h105
    rw [cutL_map, cutL_map, ← List.map_append]; unfold lawNames; rw [if_pos a]))))))
                  (fun h105 =>
                    (sd_nil
                      (SD.isO (sd_ro (s1_retW (i := 2) rfl)) (by
    have a : ¬ x % 7 = 2 := by simpa using h105
    unfold lawNames; rw [if_neg a])))))))))))
abbrev s_thing : Stmt := topS 39
abbrev n_thing : List Str := ["_law_number", "_law_own", "_law_names_here", "_law_name", "_law_some"]
abbrev e_thing : Nm := ⟨n_thing, defScope s_thing, fun _ => true⟩
omit T in
theorem sc_thing : FnScope n_thing ["_law_number", "_law_own", "_law_names_here"] (defScope s_thing) := ⟨rfl, rfl, rfl, by decide +kernel, rfl, by decide +kernel, by decide +kernel⟩
def R_thing (ds : List D) (d : D) : Prop := ∃ n own names, ds = [.int n, .str own, .lst (names.map .str)] ∧ names.length = 12 ∧ d = (lawThing n own names).d
theorem b_thing {ds : List D} {d : D} (h : R_thing ds d) : BodyD c e_thing s_thing (rho n_thing ds) d := by
  have nd := sc_thing.nd
  obtain ⟨n, own, names, rfl, hn, rfl⟩ := h
  left
  exact
    (sd_cons (s1_set 3 (ed_ixs (ed_var 2 rfl) (ed_mod (by decide) (ed_fdiv ⟨by decide, by decide⟩ (ed_var 0 rfl) ed_int) ed_int) (by first | omega | (simp only [rangeD_len, List.length_set, List.length_cons, List.length_nil, List.length_map, List.length_append, List.length_range] <;> omega) | (simp <;> omega))) nd)
      (sd_if (EP'.et (ep_and (et_eq rfl (ed_mod (by decide) (ed_var 0 rfl) ed_int) ed_int) fun h1 => (ep_and1 (et_ne rfl (ed_var 3 rfl) (ed_var 1 rfl)))))
        (fun h100 =>
          (sd_rt (s1_ret (ED.is (ed_var 3 rfl) (by unfold lawThing; simp at h100; rw [if_pos ⟨h100.1, h100.2⟩]; rfl)))))
        (fun h100 =>
          (sd_nil
            (sd_cons (s1_set 4 (EO.ed (eo_lst (ea_cons (ed_mod (by decide) (ed_fdiv ⟨by decide, by decide⟩ (ed_var 0 rfl) ed_int) ed_int) (ea_cons (ed_mod (by decide) (ed_fdiv ⟨by decide, by decide⟩ (ed_var 0 rfl) ed_int) ed_int) (ea_cons (ed_mod (by decide) (ed_fdiv ⟨by decide, by decide⟩ (ed_var 0 rfl) ed_int) ed_int) (ea_cons (ed_sub ed_int (ed_mod (by decide) (ed_fdiv ⟨by decide, by decide⟩ (ed_var 0 rfl) ed_int) ed_int)) ea_nil)))))) nd)
              (sd_rt (s1_ret (ED.is (ed_ixi (ed_var 4 rfl) (ed_mod (by decide) (ed_fdiv ⟨by decide, by decide⟩ (ed_var 0 rfl) ed_int) ed_int) (by first | omega | (simp only [rangeD_len, List.length_set, List.length_cons, List.length_nil, List.length_map, List.length_append, List.length_range] <;> omega) | (simp <;> omega))) (by unfold lawThing; simp at h100; rw [if_neg (fun z => z.2 (h100 z.1))]; rfl)))))))))
abbrev s_sum : Stmt := topS 40
abbrev n_sum : List Str := ["_law_number", "_law_own", "_law_names_here", "_law_one"]
abbrev e_sum : Nm := ⟨n_sum, defScope s_sum, fun _ => true⟩
omit T in
theorem sc_sum : FnScope n_sum ["_law_number", "_law_own", "_law_names_here"] (defScope s_sum) := ⟨rfl, rfl, rfl, by decide +kernel, rfl, by decide +kernel, by decide +kernel⟩
def R_sum (ds : List D) (d : D) : Prop := ∃ n own names, ds = [.int n, .str own, .lst (names.map .str)] ∧ names.length = 12 ∧ d = (lawSum n own names).d
theorem b_sum {ds : List D} {d : D} (C__law_thing : Call c 1 "_law_thing" (spP c.K R_thing)) (hk : 1 ≤ c.k) (h : R_sum ds d) : BodyD c e_sum s_sum (rho n_sum ds) d := by
  have nd := sc_sum.nd
  obtain ⟨n, own, names, rfl, hn, rfl⟩ := h
  left
  exact
    (sd_cons (s1_set 3 (ed_call C__law_thing (by omega) (⟨_, _, _, rfl, hn, rfl⟩) (ea_cons (ed_fdiv ⟨by decide, by decide⟩ (ed_var 0 rfl) ed_int) (ea_cons (ed_var 1 rfl) (ea_cons (ed_var 2 rfl) ea_nil)))) nd)
      (sd_if (et_eq rfl (ed_mod (by decide) (ed_var 0 rfl) ed_int) ed_int)
        (fun h100 =>
          (sd_rt (s1_ret (ED.is (ed_tup (ea_cons (ed_var 3 rfl) ea_nil)) (by unfold lawSum; simp at h100; rw [if_pos h100]; rfl)))))
        (fun h100 =>
          (sd_nil
            (sd_rt (s1_ret (ED.is (ed_tup (ea_cons (ed_ixs (EO.ed (eo_lst (ea_cons ed_str (ea_cons ed_str (ea_cons ed_str (ea_cons ed_str (ea_cons ed_str (ea_cons ed_str (ea_cons ed_str ea_nil))))))))) (ed_sub (ed_mod (by decide) (ed_var 0 rfl) ed_int) ed_int) (by simp at h100; simp; omega)) (ea_cons (ed_var 3 rfl) (ea_cons (ed_call C__law_thing (by omega) (⟨_, _, _, rfl, hn, rfl⟩) (ea_cons (ed_fdiv ⟨by decide, by decide⟩ (ed_var 0 rfl) ed_int) (ea_cons (ed_var 1 rfl) (ea_cons (ed_var 2 rfl) ea_nil)))) ea_nil)))) (by unfold lawSum; simp at h100; rw [if_neg h100, sg_at (n % 8 - 1).toNat (by omega)]; rfl))))))))
abbrev s_question : Stmt := topS 41
abbrev n_question : List Str := ["_law_number", "_law_names_here", "_law_one"]
abbrev e_question : Nm := ⟨n_question, defScope s_question, fun _ => true⟩
omit T in
theorem sc_question : FnScope n_question ["_law_number", "_law_names_here"] (defScope s_question) := ⟨rfl, rfl, rfl, by decide +kernel, rfl, by decide +kernel, by decide +kernel⟩
def R_question (ds : List D) (d : D) : Prop := ∃ n names, ds = [.int n, .lst (names.map .str)] ∧ names.length = 12 ∧ d = (lawQuestion n names).d
theorem b_question {ds : List D} {d : D} (C__law_thing : Call c 1 "_law_thing" (spP c.K R_thing)) (hk : 1 ≤ c.k) (h : R_question ds d) : BodyD c e_question s_question (rho n_question ds) d := by
  have nd := sc_question.nd
  obtain ⟨n, names, rfl, hn, rfl⟩ := h
  left
  exact
    (sd_cons (s1_set 2 (ed_call C__law_thing (by omega) (⟨_, _, _, rfl, hn, rfl⟩) (ea_cons (ed_fdiv ⟨by decide, by decide⟩ (ed_var 0 rfl) ed_int) (ea_cons ed_str (ea_cons (ed_var 1 rfl) ea_nil)))) nd)
      (sd_rt (s1_ret (ED.is (ed_tup (ea_cons (ed_ixs (EO.ed (eo_lst (ea_cons ed_str (ea_cons ed_str (ea_cons ed_str (ea_cons ed_str ea_nil)))))) (ed_mod (by decide) (ed_var 0 rfl) ed_int) (by first | omega | (simp only [rangeD_len, List.length_set, List.length_cons, List.length_nil, List.length_map, List.length_append, List.length_range] <;> omega) | (simp <;> omega))) (ea_cons (ed_var 2 rfl) (ea_cons (ed_call C__law_thing (by omega) (⟨_, _, _, rfl, hn, rfl⟩) (ea_cons (ed_fdiv ⟨by decide, by decide⟩ (ed_var 0 rfl) ed_int) (ea_cons ed_str (ea_cons (ed_var 1 rfl) ea_nil)))) ea_nil)))) (by rw [ak_at (n % 4).toNat (by omega)]; rfl)))))
abbrev s_simple : Stmt := topS 42
abbrev n_simple : List Str := ["_law_number", "_law_names_here", "_law_own"]
abbrev e_simple : Nm := ⟨n_simple, defScope s_simple, fun _ => true⟩
omit T in
theorem sc_simple : FnScope n_simple ["_law_number", "_law_names_here"] (defScope s_simple) := ⟨rfl, rfl, rfl, by decide +kernel, rfl, by decide +kernel, by decide +kernel⟩
def R_simple (ds : List D) (d : D) : Prop := ∃ n names, ds = [.int n, .lst (names.map .str)] ∧ names.length = 12 ∧ d = .lst (rowsD (lawSimple n names))
theorem b_simple {ds : List D} {d : D} (C__law_sum : Call c 2 "_law_sum" (spP c.K R_sum)) (hk : 2 ≤ c.k) (h : R_simple ds d) : SD c e_simple [defBody s_simple] (rho n_simple ds) (.ro d) := by
  have nd := sc_simple.nd
  obtain ⟨n, names, rfl, hn, rfl⟩ := h
  exact
    (sd_cons (s1_set 2 (ed_ixs (ed_var 1 rfl) (ed_mod (by decide) (ed_fdiv ⟨by decide, by decide⟩ (ed_var 0 rfl) ed_int) ed_int) (by first | omega | (simp only [rangeD_len, List.length_set, List.length_cons, List.length_nil, List.length_map, List.length_append, List.length_range] <;> omega) | (simp <;> omega))) nd)
      (sd_if (et_lt (ed_mod (by decide) (ed_var 0 rfl) ed_int) ed_int)
        (fun h100 =>
          (sd_ro (s1_retO (EO.is (eo_lst (ea_cons (ed_tup (ea_cons ed_str (ea_cons (ed_var 2 rfl) (ea_cons (ed_ixz sz_one ed_str (ed_mod (by decide) (ed_var 0 rfl) ed_int) (⟨by omega, by have h2 : ((("+-" : Str).cps.toList.length : Nat) : Int) = 2 := (by decide +kernel); rw [h2]; omega⟩)) (ea_cons (ed_call C__law_sum (by omega) (⟨_, _, _, rfl, hn, rfl⟩) (ea_cons (ed_fdiv ⟨by decide, by decide⟩ (ed_var 0 rfl) ed_int) (ea_cons (ed_var 2 rfl) (ea_cons (ed_var 1 rfl) ea_nil)))) ea_nil))))) ea_nil)) (by unfold lawSimple; simp at h100; rw [if_pos h100, pm_at]; rfl)))))
        (fun h100 =>
          (sd_nil
            (sd_if (et_lt (ed_mod (by decide) (ed_var 0 rfl) ed_int) ed_int)
              (fun h101 =>
                (sd_ro (s1_retO (EO.is (eo_lst (ea_cons (ed_tup (ea_cons ed_str (ea_cons (ed_var 2 rfl) (ea_cons (ed_ixs (ed_var 1 rfl) (ed_mod (by decide) (ed_fdiv ⟨by decide, by decide⟩ (ed_var 0 rfl) ed_int) ed_int) (by first | omega | (simp only [rangeD_len, List.length_set, List.length_cons, List.length_nil, List.length_map, List.length_append, List.length_range] <;> omega) | (simp <;> omega))) ea_nil)))) ea_nil)) (by unfold lawSimple; simp at h100 h101; rw [if_neg (by omega), if_pos h101]; rfl)))))
              (fun h101 =>
                (sd_nil
                  (sd_if (et_eq rfl (ed_mod (by decide) (ed_var 0 rfl) ed_int) ed_int)
                    (fun h102 =>
                      (sd_ro (s1_retO (EO.is (eo_lst (ea_cons (ed_tup (ea_cons ed_str (ea_cons (ed_var 2 rfl) ea_nil))) ea_nil)) (by unfold lawSimple; simp at h100 h101 h102; rw [if_neg (by omega), if_neg (by omega), if_pos h102]; rfl)))))
                    (fun h102 =>
                      (sd_nil
                        (sd_ro (s1_retO (EO.is (eo_lst (ea_cons (ed_tup (ea_cons ed_str (ea_cons (ed_ixs (ed_var 1 rfl) ed_int (by first | omega | (simp only [rangeD_len, List.length_set, List.length_cons, List.length_nil, List.length_map, List.length_append, List.length_range] <;> omega) | (simp <;> omega))) ea_nil))) (ea_cons (ed_tup (ea_cons ed_str (ea_cons (ed_var 2 rfl) (ea_cons (ed_ixz sz_one ed_str (ed_mod (by decide) (ed_fdiv ⟨by decide, by decide⟩ (ed_var 0 rfl) ed_int) ed_int) (⟨by omega, by have h2 : ((("+-" : Str).cps.toList.length : Nat) : Int) = 2 := (by decide +kernel); rw [h2]; omega⟩)) (ea_cons (ed_tup (ea_cons (ed_ixs (ed_var 1 rfl) ed_int (by first | omega | (simp only [rangeD_len, List.length_set, List.length_cons, List.length_nil, List.length_map, List.length_append, List.length_range] <;> omega) | (simp <;> omega))) ea_nil)) ea_nil))))) (ea_cons (ed_tup (ea_cons ed_str (ea_cons (ed_ixs (ed_var 1 rfl) ed_int (by first | omega | (simp only [rangeD_len, List.length_set, List.length_cons, List.length_nil, List.length_map, List.length_append, List.length_range] <;> omega) | (simp <;> omega))) ea_nil))) ea_nil)))) (by unfold lawSimple; simp at h100 h101 h102; rw [if_neg (by omega), if_neg (by omega), if_neg h102, pm_at]; rfl))))))))))))))
abbrev s_rclosed : Stmt := topS 43
abbrev n_rclosed : List Str := ["_law_frame", "_law_block", "_law_level", "_law_names_here", "_law_question_here", "_law_last", "_law_count", "_law_back", "_law_many", "_law_first"]
abbrev e_rclosed : Nm := ⟨n_rclosed, defScope s_rclosed, fun _ => true⟩
omit T in
theorem sc_rclosed : FnScope n_rclosed ["_law_frame", "_law_block", "_law_level", "_law_names_here"] (defScope s_rclosed) := ⟨rfl, rfl, rfl, by decide +kernel, rfl, by decide +kernel, by decide +kernel⟩
def R_rclosed (ds : List D) (d : D) : Prop := ∃ f block level names, ds = [frP Row.d f, .int block, .int level, .lst (names.map .str)] ∧ names.length = 12 ∧ (0 ≤ block ∧ block < 10) ∧ (1 ≤ level ∧ level ≤ 3) ∧ f.b.length ≤ 90000 ∧ d = .lst ((rClosed f block level names).map Row.d)
theorem b_rclosed {ds : List D} {d : D} (C__law_question : Call c 2 "_law_question" (spP c.K R_question)) (hk : 2 ≤ c.k) (h : R_rclosed ds d) : SD c e_rclosed [defBody s_rclosed] (rho n_rclosed ds) (.ro d) := by
  have nd := sc_rclosed.nd
  obtain ⟨f, block, level, names, rfl, hn, hbk, hlv, hfb, rfl⟩ := h
  have sb := str_digit hbk
  have sl := str_digit (i := level) ⟨by omega, by omega⟩
  exact
    (sd_if (et_eq rfl (ed_ixL rfl (ed_var 0 rfl) ed_int) ed_str)
      (fun h100 =>
        (sd_cons (s1_set 4 (ed_tup (ea_cons (ed_ixs (EO.ed (eo_lst (ea_cons ed_str (ea_cons ed_str ea_nil)))) (ed_mod (by decide) (ed_ixL rfl (ed_var 0 rfl) ed_int) ed_int) (by first | omega | (simp only [rangeD_len, List.length_set, List.length_cons, List.length_nil, List.length_map, List.length_append, List.length_range] <;> omega))) (ea_cons (ed_ixs (ed_var 3 rfl) ed_int (by first | omega | (simp only [rangeD_len, List.length_set, List.length_cons, List.length_nil, List.length_map, List.length_append, List.length_range] <;> omega))) (ea_cons (ed_mod (by decide) (ed_fdiv ⟨by decide, by decide⟩ (ed_ixL rfl (ed_var 0 rfl) ed_int) ed_int) ed_int) ea_nil)))) nd)
          (sd_cons (s1_set 5 (ed_var 4 rfl) nd)
            (sd_if (et_eq rfl (ed_mod (by decide) (ed_fdiv ⟨by decide, by decide⟩ (ed_ixL rfl (ed_var 0 rfl) ed_int) ed_int) ed_int) ed_int)
              (fun h101 =>
                (sd_cons (s1_set 5 (ed_call C__law_question (by omega) (⟨_, _, rfl, hn, rfl⟩) (ea_cons (ed_fdiv ⟨by decide, by decide⟩ (ed_ixL rfl (ed_var 0 rfl) ed_int) ed_int) (ea_cons (ed_var 3 rfl) ea_nil))) nd)
                  (sd_nil
                    (sd_ro (s1_retO (EO.is (eo_lst (ea_cons (ed_tup (ea_cons ed_str (ea_cons (ed_var 4 rfl) (ea_cons (ed_ixL rfl (ed_var 0 rfl) ed_int) (ea_cons (ed_ixL rfl (ed_var 0 rfl) ed_int) (ea_cons (ed_var 5 rfl) ea_nil)))))) ea_nil)) (by unfold rClosed rQ; simp at h100 h101; rw [if_pos h100, if_pos h101]; simp only [List.map_cons, List.map_nil, Row.d, rowsD_map, ← rq0_d]; rfl)))))))
              (fun h101 =>
                (sd_nil
                  (sd_ro (s1_retO (EO.is (eo_lst (ea_cons (ed_tup (ea_cons ed_str (ea_cons (ed_var 4 rfl) (ea_cons (ed_ixL rfl (ed_var 0 rfl) ed_int) (ea_cons (ed_ixL rfl (ed_var 0 rfl) ed_int) (ea_cons (ed_var 5 rfl) ea_nil)))))) ea_nil)) (by unfold rClosed rQ; simp at h100 h101; rw [if_pos h100, if_neg h101]; simp only [List.map_cons, List.map_nil, Row.d, rowsD_map, ← rq0_d]; rfl))))))))))
      (fun h100 =>
        (sd_nil
          (sd_cons (s1_set 6 (ed_addS (by rw [len_append, show ("r" : Str).length = 1 from by decide +kernel]; omega) (ed_addS (by rw [show ("r" : Str).length = 1 from by decide +kernel]; omega) ed_str (ed_strI (log_small (by omega)) T.str (ea_cons (ed_var 1 rfl) ea_nil))) (ed_strI (log_small (by omega)) T.str (ea_cons (ed_var 2 rfl) ea_nil))) nd)
            (sd_cons (s1_set 7 (EO.ed (eo_cat (by first | omega | (simp only [rangeD_len, List.length_set, List.length_cons, List.length_nil, List.length_map, List.length_append, List.length_range] <;> omega)) (ed_ixL rfl (ed_var 0 rfl) ed_int) (EO.ed (eo_lst (ea_cons (ed_tup (ea_cons ed_str (ea_cons (ed_var 6 rfl) (ea_cons ed_str (ea_cons (ed_tup (ea_cons ed_int ea_nil)) ea_nil))))) ea_nil))))) nd)
              (sd_cons (s1_set 8 (ed_mod (by decide) (ed_ixL rfl (ed_var 0 rfl) ed_int) ed_int) nd)
                (sd_cons (s1_set 9 (ed_tup (ea_cons ed_str (ea_cons (ed_var 6 rfl) (ea_cons ed_int ea_nil)))) nd)
                  (sd_if (et_eq rfl (ed_mod (by decide) (ed_fdiv ⟨by decide, by decide⟩ (ed_ixL rfl (ed_var 0 rfl) ed_int) ed_int) ed_int) ed_int)
                    (fun h102 =>
                      (sd_cons (s1_set 9 (ed_call C__law_question (by omega) (⟨_, _, rfl, hn, rfl⟩) (ea_cons (ed_fdiv ⟨by decide, by decide⟩ (ed_ixL rfl (ed_var 0 rfl) ed_int) ed_int) (ea_cons (ed_var 3 rfl) ea_nil))) nd)
                        (sd_nil
                          (sd_cons (s1_set 5 (ed_tup (ea_cons (ed_ixs (EO.ed (eo_lst (ea_cons ed_str (ea_cons ed_str ea_nil)))) (ed_mod (by decide) (ed_fdiv ⟨by decide, by decide⟩ (ed_ixL rfl (ed_var 0 rfl) ed_int) ed_int) ed_int) (by first | omega | (simp only [rangeD_len, List.length_set, List.length_cons, List.length_nil, List.length_map, List.length_append, List.length_range] <;> omega))) (ea_cons (ed_var 6 rfl) (ea_cons (ed_var 8 rfl) ea_nil)))) nd)
                            (sd_ro (s1_retO (EO.is (eo_lst (ea_cons (ed_tup (ea_cons ed_str (ea_cons (ed_var 9 rfl) (ea_cons (ed_ixL rfl (ed_var 0 rfl) ed_int) (ea_cons (ed_var 7 rfl) (ea_cons (ed_var 5 rfl) ea_nil)))))) (ea_cons (ed_tup (ea_cons ed_str (ea_cons (ed_var 6 rfl) (ea_cons ed_str (ea_cons (ed_tup (ea_cons (ed_var 8 rfl) ea_nil)) ea_nil))))) ea_nil))) (by unfold rClosed rQ; simp at h100 h102; rw [if_neg h100, if_pos h102]; simp only [List.map_cons, List.map_nil, Row.d, rowsD_map, List.map_append, ← rlast_d]; rfl))))))))
                    (fun h102 =>
                      (sd_nil
                        (sd_cons (s1_set 5 (ed_tup (ea_cons (ed_ixs (EO.ed (eo_lst (ea_cons ed_str (ea_cons ed_str ea_nil)))) (ed_mod (by decide) (ed_fdiv ⟨by decide, by decide⟩ (ed_ixL rfl (ed_var 0 rfl) ed_int) ed_int) ed_int) (by first | omega | (simp only [rangeD_len, List.length_set, List.length_cons, List.length_nil, List.length_map, List.length_append, List.length_range] <;> omega))) (ea_cons (ed_var 6 rfl) (ea_cons (ed_var 8 rfl) ea_nil)))) nd)
                          (sd_ro (s1_retO (EO.is (eo_lst (ea_cons (ed_tup (ea_cons ed_str (ea_cons (ed_var 9 rfl) (ea_cons (ed_ixL rfl (ed_var 0 rfl) ed_int) (ea_cons (ed_var 7 rfl) (ea_cons (ed_var 5 rfl) ea_nil)))))) (ea_cons (ed_tup (ea_cons ed_str (ea_cons (ed_var 6 rfl) (ea_cons ed_str (ea_cons (ed_tup (ea_cons (ed_var 8 rfl) ea_nil)) ea_nil))))) ea_nil))) (by unfold rClosed rQ; simp at h100 h102; rw [if_neg h100, if_neg h102]; simp only [List.map_cons, List.map_nil, Row.d, rowsD_map, List.map_append, ← rlast_d]; rfl)))))))))))))))
def R_rclose : RW' := fun ds w P => ∃ (fl : Addr) (ps : List (FrA × RFr)) (block : Int) (names : List Str) (cs : Str → Prop) (B : Nat), ds = [.ref fl, .int block, .lst (names.map .str)] ∧ w = frsW Row.d fl ps ∧ names.length = 12 ∧ (0 ≤ block ∧ block < 10) ∧ 1 < ps.length ∧ RInv cs B (ps.map (·.2)) ∧ B ≤ 280 ∧ P = fun d w' => d = .non ∧ ∃ ps', w' = frsW Row.d fl ps' ∧ ps'.map (·.2) = rClose block names (ps.map (·.2))
abbrev s_rclose : Stmt := topS 44
abbrev n_rclose : List Str := ["_law_frames", "_law_block", "_law_names_here", "_law_top", "_law_below"]
abbrev e_rclose : Nm := ⟨n_rclose, defScope s_rclose, fun _ => true⟩
omit T in
theorem sc_rclose : FnScope n_rclose ["_law_frames", "_law_block", "_law_names_here"] (defScope s_rclose) := ⟨rfl, rfl, rfl, by decide +kernel, rfl, by decide +kernel, by decide +kernel⟩
theorem b_rclose (hk : 4 ≤ c.k) (C__law_closed : Call c 3 "_law_closed" (spO c.K R_rclosed)) {ds w P} (h : R_rclose ds w P) : BodyW c e_rclose s_rclose ⟨(rho n_rclose ds).s, w⟩ P := by
  obtain ⟨fl, ps, block, names, cs, B, rfl, rfl, hn, hbk, hl, hI, hB, rfl⟩ := h
  right
  have nd := sc_rclose.nd
  match ps, hl, hI with
  | (t, f) :: (u, g) :: r, _, hI =>
    have hI : RInv cs B (f :: g :: r.map (·.2)) := hI
    have hcl := rClosed_ok (block := block) (level := ((r.length + 1 : Nat) : Int)) (names := names) hI (by simp) hB
    obtain ⟨i1, i2, i3, i4, i5, i6, i7⟩ := hI
    obtain ⟨k1, k2, k3, k4, k5, k6, k7⟩ := i7
    have hrl : r.length ≤ 2 := by simpa using i6
    have e0 : rClose block names (((t, f) :: (u, g) :: r).map (·.2)) = if f.s = 0 then { f with s := 1 } :: g :: r.map (·.2) else g.app (rClosed f block ((r.length + 1 : Nat) : Int) names) :: r.map (·.2) := by
      show rClose block names (f :: g :: r.map (·.2)) = _
      rw [rClose_cons, List.length_map]
    rw [e0]
    refine (sd_cons (s1_set 3 (fr_top (ed_var 0 rfl)) nd) (sd_if (et_eq rfl (fr_fld (ed_var 3 rfl) ed_int rfl) ed_int) (fun h => ?_) (fun h => ?_)))
    · have hc : f.s = 0 := by simpa using h
      rw [if_pos hc]
      exact (sd_cons (fr_side (ed_var 3 rfl)) (sd_nil (sd_nil (sd_endE ⟨rfl, (t, { f with s := 1 }) :: (u, g) :: r, rfl, rfl⟩))))
    · have hc : ¬ f.s = 0 := by simpa using h
      rw [if_neg hc]
      have hcur : g.cur.length ≤ B := by unfold Fr.cur; split <;> omega
      refine (sd_cons (fr_pop (ed_var 0 rfl)) (sd_popped [.va (.ref fl), .va (.int block), .va (.lst (names.map .str))] [.no] (sd_cons (s1_set 4 (fr_top (ed_var 0 rfl)) nd) (sd_cons (fr_ext (rs := rClosed f block ((r.length + 1 : Nat) : Int) names) k1 (fr_cur k1 (ed_var 4 rfl) (ed_var 4 rfl)) (EO.ed (eo_call C__law_closed (by omega) ⟨f, block, ((r.length + 1 : Nat) : Int), names, rfl, hn, hbk, ⟨by omega, by omega⟩, by omega, rfl⟩ (ea_cons (ed_var 3 rfl) (ea_cons (ed_var 1 rfl) (ea_cons (ED.is (ed_lenW 0 rfl T.len (ed_var 0 rfl)) ?_) (ea_cons (ed_var 2 rfl) ea_nil)))))) (by omega)) (sd_nil (sd_nil (sd_endE ⟨rfl, (u, g.app (rClosed f block ((r.length + 1 : Nat) : Int) names)) :: r, rfl, rfl⟩)))))))
      unfold frL
      rw [List.length_reverse, List.length_map, List.length_cons]
abbrev s_block : Stmt := topS 45
abbrev n_block : List Str := ["_law_cells", "_law_block", "_law_many", "_law_names_here", "_law_frames", "_law_k", "_law_number", "_law_rest", "_law_top", "_law_goal"]
abbrev e_block : Nm := ⟨n_block, defScope s_block, fun _ => true⟩
omit T in
theorem sc_block : FnScope n_block ["_law_cells", "_law_block", "_law_many", "_law_names_here"] (defScope s_block) := ⟨rfl, rfl, rfl, by decide +kernel, rfl, by decide +kernel, by decide +kernel⟩
def R_block (ds : List D) (d : D) : Prop := ∃ cells block many names, ds = [.lst (cells.map .int), .int block, .int many, .lst (names.map .str)] ∧ names.length = 12 ∧ cells.length ≤ 63 ∧ (0 ≤ block ∧ block < many ∧ many ≤ 3) ∧ d = .lst (rowsD (lawBlock block many names cells))
theorem b_block {ds : List D} {d : D} (C__law_mixed : Call c 1 "_law_mixed" (spP c.K R_mixed)) (C__law_simple : Call c 3 "_law_simple" (spO c.K R_simple)) (C__law_close : Call c 5 "_law_close" (spW c.K (R_rclose))) (hk : 5 ≤ c.k) (h : R_block ds d) : SD c e_block [defBody s_block] (rho n_block ds) (.ro d) := by
  have nd := sc_block.nd
  obtain ⟨cells, block, many, names, rfl, hn, hcl, hbm, rfl⟩ := h
  have lenL : ∀ ps : List (FrA × RFr), (frL ps).length = ps.length := fun ps => by unfold frL; rw [List.length_reverse, List.length_map]
  have hF := fun i => rFrames_ok (cs := fun _ => True) block many names cells (fun _ _ => trivial) i
  refine (sd_consE (s1_setE 4 (ee_lst (P := fun ds ρ' => ∃ t : FrA, ds = [.ref t.x] ∧ ρ' = ⟨(rho n_block [.lst (cells.map .int), .int block, .int many, .lst (names.map .str)]).s, [(t.a, .lst []), (t.b, .lst []), (t.x, frD t (⟨"", 0, [], [], 0⟩ : RFr))]⟩) (eae_cons (ee_frame (w := []) ed_str (fun w2 => ed_int)) (by rintro d ρ1 ⟨t, rfl, rfl⟩; exact eae_end ⟨t, rfl, rfl⟩)) (by rintro ds ρ' ⟨t, rfl, rfl⟩; simp)) nd) ?_)
  rintro ρ1 ⟨d, ρ', ⟨fl, ds, ρ2, ⟨t, rfl, rfl⟩, rfl, rfl⟩, rfl⟩
  refine sd_permW (w := frsW Row.d fl [(t, (⟨"", 0, [], [], 0⟩ : RFr))]) (perm4 _ _ _ _) ?_
  refine (sd_consE (s1_forE 5 (fun i ρ => ∃ (fl : Addr) (ps : List (FrA × RFr)) (s5 s6 s7 s8 s9 : Sl), ps.map (·.2) = rFrames block many names cells i ∧ ρ = ⟨[.va (.lst (cells.map .int)), .va (.int block), .va (.int many), .va (.lst (names.map .str)), .va (.ref fl), s5, s6, s7, s8, s9], frsW Row.d fl ps⟩) (id_range1 T.range (ea_cons (ed_len (.lst _) T.len (ea_cons (ed_var 0 rfl) ea_nil)) ea_nil) (by rw [List.length_map]; omega)) nd ⟨fl, [(t, ⟨"", 0, [], [], 0⟩)], .no, .no, .no, .no, .no, rfl, rfl⟩ (by rintro i ρ' ⟨_, _, _, _, _, _, _, _, rfl⟩; simp) ?_) ?_)
  · rintro i d ρ' hd ⟨fl, ps, s5, s6, s7, s8, s9, hps, rfl⟩
    obtain ⟨hi, rfl⟩ := rangeD_inv hd
    have hi : i < cells.length := by rw [List.length_map] at hi; omega
    obtain ⟨hI, hne⟩ := hF i (by omega)
    have hps2 : rFrames block many names cells (i + 1) = rStep block many names (mixed (cells.getD i 0) i) (rFrames block many names cells i) := by rw [rFrames]
    rw [← hps] at hI hne hps2
    have e0 : mixed (cells.getD (0 + (i : Int)).toNat 0) (0 + (i : Int)) = mixed (cells.getD i 0) i := by rw [Int.zero_add, Int.toNat_natCast]
    generalize hnn : mixed (cells.getD i 0) i = n at hps2 e0
    match ps, hI, hne, hps2 with
    | [], _, hne, _ => exact absurd rfl hne
    | (t, f) :: r, hI, _, hps2 =>
      have hI2 : RInv (fun _ => True) (3 * i) (f :: r.map (·.2)) := hI
      obtain ⟨i1, i2, i3, i4, i5, i6, i7⟩ := hI2
      have hcur : f.cur.length ≤ 3 * i := by unfold Fr.cur; split <;> omega
      have hps2 : rFrames block many names cells (i + 1) = rStep block many names n (f :: r.map (·.2)) := hps2
      rw [rStep_cons, List.length_map] at hps2
      have lenF : ((frL ((t, f) :: r)).length : Int) = (r.length + 1 : Nat) := by rw [lenL, List.length_cons]
      have hsl := lawSimple_len (n / 16) names
      refine (sd_cons (s1_set 6 (ED.is (ed_call C__law_mixed (by omega) ⟨_, _, rfl, rfl⟩ (ea_cons (ed_ixi (ed_var 0 rfl) (ed_var 5 rfl) (by constructor <;> omega)) (ea_cons (ed_var 5 rfl) ea_nil))) (congrArg D.int e0)) nd) (sd_cons (s1_set 7 (ed_fdiv ⟨by decide, by decide⟩ (ed_var 6 rfl) ed_int) nd) (sd_cons (s1_set 8 (fr_top (ed_var 4 rfl)) nd)
        (sd_if (et_lt (ed_mod (by decide) (ed_var 6 rfl) ed_int) ed_int) (fun h => ?_) (fun h => ?_)))))
      · rw [if_pos (of_decide_eq_true h)] at hps2
        exact (sd_cons (fr_ext (rs := lawSimple (n / 16) names) i1 (fr_cur i1 (ed_var 8 rfl) (ed_var 8 rfl)) (EO.ed (EO.is (eo_call C__law_simple (by omega) ⟨n / 16, names, rfl, hn, rfl⟩ (ea_cons (ed_var 7 rfl) (ea_cons (ed_var 3 rfl) ea_nil))) (by rw [rowsD_map]))) (by omega)) (sd_nil (sd_nil (sd_endE ⟨fl, (t, f.app (lawSimple (n / 16) names)) :: r, _, _, _, _, _, hps2.symm, rfl⟩))))
      · rw [if_neg (of_decide_eq_false h)] at hps2
        refine (sd_if (EP'.et (ep_and (et_eq rfl (ed_mod (by decide) (ed_var 6 rfl) ed_int) ed_int) fun _ => (ep_and1 (et_lt (ed_add (ed_var 1 rfl) ed_int) (ed_var 2 rfl))))) (fun h2 => ?_) (fun h2 => ?_))
        · rw [Bool.and_eq_true, eqS_int, decide_eq_true_eq, decide_eq_true_eq] at h2
          rw [if_pos h2] at hps2
          have hg := h2.2
          have hgm : 0 ≤ n / 16 % (many - block - 1) ∧ n / 16 % (many - block - 1) < many - block - 1 := ⟨Int.emod_nonneg _ (by omega), Int.emod_lt_of_pos _ (by omega)⟩
          exact (sd_cons (s1_set 9 (ed_ixs (ed_var 3 rfl) (ed_add (ed_add (ed_add ed_int (ed_var 1 rfl)) ed_int) (ed_mod (by omega) (ed_var 7 rfl) (ed_sub (ed_sub (ed_var 2 rfl) (ed_var 1 rfl)) ed_int))) (by constructor <;> omega)) nd)
            (sd_cons (fr_app1 (q := rCall block many n names) i1 (fr_cur i1 (ed_var 8 rfl) (ed_var 8 rfl)) (ED.is (ed_tup (ea_cons (ed_ixs (EO.ed (eo_lst (ea_cons ed_str (ea_cons ed_str ea_nil)))) (ed_mod (by decide) (ed_fdiv ⟨by decide, by decide⟩ (ed_var 7 rfl) ed_int) ed_int) ⟨by omega, by show n / 16 / 8 % 2 < (2 : Int); omega⟩) (ea_cons (ed_var 9 rfl) ea_nil))) (rcall_d block many n names)) (by omega)) (sd_nil (sd_nil (sd_nil (sd_endE ⟨fl, (t, f.app [rCall block many n names]) :: r, _, _, _, _, _, hps2.symm, rfl⟩))))))
        · have hc1 : ¬ (n % 16 = 8 ∧ block + 1 < many) := fun z => by
            rw [Bool.and_eq_false_iff, eqS_int, decide_eq_false_iff_not, decide_eq_false_iff_not] at h2
            rcases h2 with h2 | h2
            · exact h2 z.1
            · exact h2 z.2
          rw [if_neg hc1] at hps2
          refine (sd_if (EP'.et (ep_and (et_lt (ed_mod (by decide) (ed_var 6 rfl) ed_int) ed_int) fun _ => (ep_and1 (et_lt (ed_lenW 0 rfl T.len (ed_var 4 rfl)) ed_int)))) (fun h3 => ?_) (fun h3 => ?_))
          · rw [Bool.and_eq_true, decide_eq_true_eq, decide_eq_true_eq, lenF] at h3
            rw [if_pos ⟨h3.1, by omega⟩] at hps2
            refine (sd_consE (s1_appWE (P := fun d ρ' => ∃ t2 : FrA, d = .ref t2.x ∧ ρ' = ⟨[.va (.lst (cells.map .int)), .va (.int block), .va (.int many), .va (.lst (names.map .str)), .va (.ref fl), .va (.int (0 + (i : Int))), .va (.int n), .va (.int (n / 16)), .va (.ref t.x), s9], frsW Row.d fl ((t, f) :: r) ++ [(t2.a, .lst []), (t2.b, .lst []), (t2.x, frD t2 (rNew (n / 16)))]⟩) 0 (ds := frL ((t, f) :: r)) (x := fl) (fun ρ' hs => ed_var 4 (by show ρ'.s[4]? = _; rw [hs]; rfl)) (ee_frame (α := Row) (k0 := (rNew (n / 16)).k) (n0 := n / 16 / 3) (ED.is (ed_ixs (EO.ed (eo_lst (ea_cons ed_str (ea_cons ed_str (ea_cons ed_str ea_nil))))) (ed_mod (by decide) (ed_var 7 rfl) ed_int) ⟨by omega, by show n / 16 % 3 < (3 : Int); omega⟩) (congrArg D.str (rnew_k (n / 16)))) (fun w2 => ed_fdiv ⟨by decide, by decide⟩ (ed_var 7 rfl) ed_int)) (by rintro d ρ' ⟨t2, rfl, rfl⟩; exact ⟨rfl, rfl⟩) rfl (by rw [lenL, List.length_cons]; omega)) ?_)
            rintro ρ2 ⟨d, ρ', ⟨t2, rfl, rfl⟩, rfl⟩
            refine sd_permW (w := frsW Row.d fl ((t2, rNew (n / 16)) :: (t, f) :: r)) ?_ (by repeat (first | exact sd_endE ⟨fl, (t2, rNew (n / 16)) :: (t, f) :: r, _, _, _, _, _, hps2.symm, rfl⟩ | refine sd_nil ?_))
            have e2 : frL ((t2, rNew (n / 16)) :: (t, f) :: r) = frL ((t, f) :: r) ++ [.ref t2.x] := by
              unfold frL
              rw [List.map_cons, List.reverse_cons]
            have := perm_new (rd := Row.d) fl t2 (rNew (n / 16)).k (rNew (n / 16)).n (.lst (frL ((t, f) :: r) ++ [.ref t2.x])) ((t, f) :: r)
            unfold frsW
            rw [e2]
            exact this
          · have hc : ¬ (n % 16 < 13 ∧ r.length + 1 < 4) := fun z => by
              rw [Bool.and_eq_false_iff, decide_eq_false_iff_not, decide_eq_false_iff_not, lenF] at h3
              rcases h3 with h3 | h3 <;> omega
            rw [if_neg hc] at hps2
            refine (sd_if (et_gt (ed_lenW 0 rfl T.len (ed_var 4 rfl)) ed_int) (fun h4 => ?_) (fun h4 => ?_))
            · have h4 : 1 < r.length + 1 := by have := of_decide_eq_true h4; rw [lenF] at this; omega
              rw [if_pos h4] at hps2
              refine (sd_consE (s1_exprE (ee_call (w2 := []) C__law_close (by omega) ⟨fl, (t, f) :: r, block, names, fun _ => True, 3 * i, rfl, rfl, hn, ⟨by omega, by omega⟩, by simpa using h4, hI, by omega, rfl⟩ (List.append_nil _).symm (ea_cons (ed_var 4 rfl) (ea_cons (ed_var 1 rfl) (ea_cons (ed_var 3 rfl) ea_nil))))) ?_)
              rintro ρ2 ⟨d, w', ⟨rfl, ps', rfl, hp'⟩, rfl⟩
              exact (by repeat (first | exact sd_endE ⟨fl, ps', _, _, _, _, _, hp'.trans hps2.symm, by rw [List.append_nil]; rfl⟩ | refine sd_nil ?_))
            · have h4 : ¬ 1 < r.length + 1 := by have := of_decide_eq_false h4; rw [lenF] at this; omega
              rw [if_neg h4] at hps2
              exact (by repeat (first | exact sd_endE ⟨fl, (t, f) :: r, _, _, _, _, _, hps2.symm, rfl⟩ | refine sd_nil ?_))
  · rintro ρ1 ⟨fl, ps, s5, s6, s7, s8, s9, hps, rfl⟩
    rw [rangeD_len, List.length_map, show ((cells.length : Int)).toNat = cells.length from Int.toNat_natCast _] at hps
    obtain ⟨hI, hne⟩ := hF cells.length (by omega)
    have hm := rMeas_le hI
    refine (sd_consE (s1_whileE (n := rMeas (rFrames block many names cells cells.length)) (fun m ρ => ∃ (ps : List (FrA × RFr)) (B : Nat), rMeas (ps.map (·.2)) = m ∧ RInv (fun _ => True) B (ps.map (·.2)) ∧ B + 2 * m ≤ 270 ∧ ps ≠ [] ∧ rFinal block names (ps.map (·.2)) = rFinal block names (rFrames block many names cells cells.length) ∧ ρ = ⟨[.va (.lst (cells.map .int)), .va (.int block), .va (.int many), .va (.lst (names.map .str)), .va (.ref fl), s5, s6, s7, s8, s9], frsW Row.d fl ps⟩) (fun ρ => ∃ t f, rFinal block names (rFrames block many names cells cells.length) = [f] ∧ ρ = ⟨[.va (.lst (cells.map .int)), .va (.int block), .va (.int many), .va (.lst (names.map .str)), .va (.ref fl), s5, s6, s7, s8, s9], frsW Row.d fl [(t, f)]⟩) ?_ ⟨ps, 3 * cells.length, by rw [hps], by rw [hps]; exact hI, by omega, fun z => hne (by rw [← hps, z]; rfl), by rw [hps], rfl⟩) ?_)
    · rintro m ρ ⟨ps, B, h1, h2, h3, h4, h5, rfl⟩
      by_cases hl : 1 < ps.length
      · refine .inr ⟨ET.is (et_gt (ed_lenW 0 rfl T.len (ed_var 4 rfl)) ed_int) (decide_eq_true (by rw [lenL]; omega)), ?_⟩
        refine (sd_consE (s1_exprE (ee_call (w2 := []) C__law_close (by omega) ⟨fl, ps, block, names, fun _ => True, B, rfl, rfl, hn, ⟨by omega, by omega⟩, hl, h2, by omega, rfl⟩ (List.append_nil _).symm (ea_cons (ed_var 4 rfl) (ea_cons (ed_var 1 rfl) (ea_cons (ed_var 3 rfl) ea_nil))))) ?_)
        rintro ρ2 ⟨d, w', ⟨rfl, ps', rfl, hp'⟩, rfl⟩
        have hl2 : 1 < (ps.map (·.2)).length := by rw [List.length_map]; exact hl
        have hm2 := rClose_meas block names hl2
        refine (sd_nil (sd_endE ⟨rMeas (ps'.map (·.2)), by rw [hp']; omega, ps', B + 2, rfl, by rw [hp']; exact RInv.close (by omega) h2, by rw [hp']; omega, fun z => ?_, by rw [hp', ← rFinal_more hl2, h5], by rw [List.append_nil]⟩))
        subst z
        exact rClose_ne block names (fun q => h4 (by simpa using q)) hp'.symm
      · match ps, h4, hl, h5 with
        | [(t, f)], _, _, h5 =>
          refine .inl ⟨ET.is (et_gt (ed_lenW 0 rfl T.len (ed_var 4 rfl)) ed_int) rfl, t, f, ?_, rfl⟩
          rw [← h5]
          exact rFinal_one (fs := [f]) (by simp)
        | _ :: _ :: _, _, hl, _ => simp at hl
    · rintro ρ1 ⟨t, f, hf, rfl⟩
      have he : (D.lst (f.a.map Row.d)) = .lst (rowsD (lawBlock block many names cells)) := by unfold lawBlock; rw [hf, rowsD_map]; rfl
      rw [← he]
      exact (sd_ro (s1_retR 2 (fr_fld (ed_ixW 0 (ds := [.ref t.x]) rfl (atI_zero _ _) (ed_var 4 rfl) ed_int) ed_int rfl)))
abbrev s_program : Stmt := topS 46
abbrev n_program : List Str := ["_law_cells", "_law_names_here", "_law_way", "_law_many", "_law_program_here", "_law_block", "_law_last", "_law_sure"]
abbrev e_program : Nm := ⟨n_program, defScope s_program, fun _ => true⟩
omit T in
theorem sc_program : FnScope n_program ["_law_cells", "_law_names_here", "_law_way"] (defScope s_program) := ⟨rfl, rfl, rfl, by decide +kernel, rfl, by decide +kernel, by decide +kernel⟩
theorem b_program (hk : 6 ≤ c.k) (C__law_block_rows : Call c 6 "_law_block_rows" (spO c.K R_block)) {ds w P} (h : R_programW ds w P) : BodyW c e_program s_program ⟨(rho n_program ds).s, w⟩ P := by
  have nd := sc_program.nd
  obtain ⟨cells, names, way, rfl, hn, hcl, rfl, rfl⟩ := h
  left
  have hmany : 1 ≤ lawMany way ∧ lawMany way ≤ 3 := by unfold lawMany; omega
  have hm0 : lawMany way = 1 + way % 3 := rfl
  have hblk : ∀ j : Nat, (j : Int) < lawMany way → (stepL cells j (lawMany way)).length ≤ 63 ∧ (lawBlock j (lawMany way) names (stepL cells j (lawMany way))).length ≤ 250 := fun j hj => by
    have h1 := stepL_len cells (i := (j : Int)) (j := lawMany way) (by omega) (by omega)
    exact ⟨by omega, (lawBlock_ok (cs := fun _ => True) j (lawMany way) names _ (by omega) (fun _ _ => trivial)).2.2⟩
  refine (sd_cons (s1_set 3 (ed_add ed_int (ed_mod (by decide) (ed_var 2 rfl) ed_int)) nd) (sd_cons (s1_setO 4 (eo_lst ea_nil) nd) (sd_toW 4 rfl fun p => ?_)))
  show SD c e_program _ ⟨[.va (.lst (cells.map .int)), .va (.lst (names.map .str)), .va (.int way), .va (.int (lawMany way)), .va (.ref p), .no, .no, .no], [(p, .lst [])]⟩ _
  refine (sd_consE (s1_forE 5 (fun i ρ => ∃ (bs : List PB) (s5 : Sl), bs.map (·.2) = (List.range i).map (blockAt cells names (lawMany way)) ∧ ρ = ⟨[.va (.lst (cells.map .int)), .va (.lst (names.map .str)), .va (.int way), .va (.int (lawMany way)), .va (.ref p), s5, .no, .no], (p, .lst (pbT bs)) :: pbW bs⟩) (id_range1 T.range (ea_cons (ed_var 3 rfl) ea_nil) (by omega)) nd ⟨[], .no, rfl, rfl⟩ (by rintro i ρ' ⟨_, _, _, rfl⟩; simp) ?_) ?_)
  · rintro i d ρ' hd ⟨bs, s5, hbs, rfl⟩
    obtain ⟨hi, rfl⟩ := rangeD_inv hd
    have hi2 : (i : Int) < lawMany way := by omega
    obtain ⟨hc1, hc2⟩ := hblk i hi2
    have hlen : bs.length = i := by have := congrArg List.length hbs; rw [List.length_map, List.length_map, List.length_range] at this; exact this
    refine (sd_consE (s1_appWE (P := fun d ρ' => ∃ a : Addr, d = .tup [.str (nmAt names (8 + (i : Nat))), .ref a] ∧ ρ' = ⟨[.va (.lst (cells.map .int)), .va (.lst (names.map .str)), .va (.int way), .va (.int (lawMany way)), .va (.ref p), .va (.int (0 + (i : Int))), .no, .no], ((p, .lst (pbT bs)) :: pbW bs) ++ [(a, .lst (rowsD (lawBlock i (lawMany way) names (stepL cells i (lawMany way)))))]⟩) 0 (ds := pbT bs) (x := p) (fun ρ' hs => ed_var 4 (by show ρ'.s[4]? = _; rw [hs]; rfl)) (ee_mono (ee_tup (P := fun ds ρ' => ∃ a : Addr, ds = [.str (nmAt names (8 + (i : Nat))), .ref a] ∧ ρ' = ⟨[.va (.lst (cells.map .int)), .va (.lst (names.map .str)), .va (.int way), .va (.int (lawMany way)), .va (.ref p), .va (.int (0 + (i : Int))), .no, .no], ((p, .lst (pbT bs)) :: pbW bs) ++ [(a, .lst (rowsD (lawBlock i (lawMany way) names (stepL cells i (lawMany way)))))]⟩) (eae_d (ED.is (ed_ixs (ed_var 1 rfl) (ed_add ed_int (ed_var 5 rfl)) (by constructor <;> omega)) ?_) (eae_o (EO.is (eo_call C__law_block_rows (by omega) ⟨stepL cells i (lawMany way), (i : Int), lawMany way, names, rfl, hn, hc1, ⟨by omega, hi2, hmany.2⟩, rfl⟩ (ea_cons (EO.ed (EO.is (eo_slStep (i := (i : Int)) (by omega) (by omega) (by rw [List.length_map]; omega) (ed_var 0 rfl) (ED.is (ed_var 5 rfl) ?_) (ed_var 3 rfl)) ?_)) (ea_cons (ED.is (ed_var 5 rfl) ?_) (ea_cons (ed_var 3 rfl) (ea_cons (ed_var 1 rfl) ea_nil))))) rfl) fun a => (eae_end ⟨a, rfl, rfl⟩))) (by rintro ds ρ' ⟨a, rfl, rfl⟩; simp)) (by rintro d ρ' ⟨ds, ⟨a, rfl, rfl⟩, rfl⟩; exact ⟨a, rfl, rfl⟩)) (by rintro d ρ' ⟨a, rfl, rfl⟩; exact ⟨rfl, rfl⟩) rfl (by rw [pbT_len]; omega)) ?_)
    · rw [Int.zero_add]; rfl
    · rw [Int.zero_add]
    · rw [stepL_map]
    · rw [Int.zero_add]
    · rintro ρ2 ⟨d, ρ', ⟨a, rfl, rfl⟩, rfl⟩
      refine (sd_nil (sd_endE ⟨bs ++ [(a, blockAt cells names (lawMany way) i)], .va (.int (0 + (i : Int))), ?_, ?_⟩))
      · rw [List.map_append, hbs, List.range_succ, List.map_append]; rfl
      · rw [pbT_snoc, pbW_snoc]
        rfl
  · rintro ρ1 ⟨bs, s5, hbs, rfl⟩
    rw [rangeD_len] at hbs
    have hbs : bs.map (·.2) = lawProg0 cells names (lawMany way) := hbs
    have hlen : bs.length = (lawMany way).toNat := by have := congrArg List.length hbs; unfold lawProg0 at this; rw [List.length_map, List.length_map, List.length_range] at this; exact this
    have fin : ∀ {RETP RETQ : Pos} (bs2 : List PB) (x6 x7 : Sl), bs2.map (·.2) = lawProg cells names way → SD c e_program [[.Return (some (.Name "_law_program_here" RETP)) RETQ]] ⟨[.va (.lst (cells.map .int)), .va (.lst (names.map .str)), .va (.int way), .va (.int (lawMany way)), .va (.ref p), s5, x6, x7], (p, .lst (pbT bs2)) :: pbW bs2⟩ (.rw fun d w' => ∃ p bs, d = .ref p ∧ bs.map (·.2) = lawProg cells names way ∧ w' = (p, .lst (pbT bs)) :: pbW bs) := fun bs2 x6 x7 h => by
      exact (sd_rwm (sd_rw (s1_retS (ed_var 4 rfl) (List.Sublist.refl _) (List.Perm.refl _))) (by rintro d w ⟨rfl, rfl⟩; exact ⟨p, bs2, rfl, h, rfl⟩))
    refine (sd_if (et_eq rfl (ed_mod (by decide) (ed_fdiv ⟨by decide, by decide⟩ (ed_var 2 rfl) ed_int) ed_int) ed_int) (fun h => ?_) (fun h => ?_))
    · have hw : way / 3 % 8 = 5 := by simpa using h
      obtain ⟨bs1, b, rfl⟩ : ∃ bs1 b, bs = bs1 ++ [b] := ⟨bs.dropLast, bs.getLast (by intro z; rw [z] at hlen; simp at hlen; omega), (List.dropLast_concat_getLast _).symm⟩
      rw [List.length_append, List.length_singleton] at hlen
      have hbl : b.2.2.length ≤ 250 := by
        have hm : b.2 ∈ lawProg0 cells names (lawMany way) := by rw [← hbs, List.map_append]; exact List.mem_append_right _ List.mem_cons_self
        unfold lawProg0 at hm
        rw [List.mem_map] at hm
        obtain ⟨j, hj, e⟩ := hm
        rw [← e]
        exact (hblk j (by have := List.mem_range.mp hj; omega)).2
      have hfin : ((bs1 ++ [(b.1, (b.2.1, b.2.2 ++ [lawLast names way (lawMany way)]))] : List PB)).map (·.2) = lawProg cells names way := by
        unfold lawProg
        rw [if_pos hw, ← hbs, List.map_append, List.map_append, List.map_singleton, List.map_singleton, addLast_app]
      have hmod : 0 ≤ way / 24 % lawMany way ∧ way / 24 % lawMany way < lawMany way := ⟨Int.emod_nonneg _ (by omega), Int.emod_lt_of_pos _ (by omega)⟩
      have hwl : ∀ (S : List Sl), (Rho.mk S ((p, .lst (pbT (bs1 ++ [b]))) :: pbW (bs1 ++ [b]))).w[1 + bs1.length]? = some (b.1, .lst (rowsD b.2.2)) := fun S => by
        show ((p, D.lst (pbT (bs1 ++ [b]))) :: pbW (bs1 ++ [b]))[1 + bs1.length]? = _
        rw [Nat.add_comm, List.getElem?_cons_succ, pbW_snoc, List.getElem?_append_right (by rw [pbW_len]; exact Nat.le_refl _), pbW_len, Nat.sub_self]
        rfl
      have app : ∀ (S : List Sl) (x : D), x = (lawLast names way (lawMany way)).d → (Rho.mk S ((p, .lst (pbT (bs1 ++ [b]))) :: pbW (bs1 ++ [b]))).putW (1 + bs1.length) b.1 (.lst (rowsD b.2.2 ++ [x])) = ⟨S, (p, .lst (pbT (bs1 ++ [(b.1, (b.2.1, b.2.2 ++ [lawLast names way (lawMany way)]))]))) :: pbW (bs1 ++ [(b.1, (b.2.1, b.2.2 ++ [lawLast names way (lawMany way)]))])⟩ := fun S x e => by
        subst e
        unfold Rho.putW
        congr 1
        show ((p, D.lst (pbT (bs1 ++ [b]))) :: pbW (bs1 ++ [b])).set (1 + bs1.length) _ = _
        rw [Nat.add_comm, List.set_cons_succ, pbT_snoc, pbT_snoc, pbW_snoc, pbW_snoc, List.set_append_right _ _ (by rw [pbW_len]; exact Nat.le_refl _), pbW_len, Nat.sub_self, rowsD_app]
        rfl
      have obj : ∀ {S : List Sl} {p1 p2 p3 p4 p5 p6 : Pos} {j1 j2 : Nat}, S[4]? = some (.va (.ref p)) → ED c e_program (.Subscript (.Subscript (.Name "_law_program_here" p1) (.UnaryOp .USub (.Constant (.int 1) j1 p2) p3) p4) (.Constant (.int 1) j2 p5) p6) ⟨S, (p, .lst (pbT (bs1 ++ [b]))) :: pbW (bs1 ++ [b])⟩ (.ref b.1) := fun h4 =>
        ed_ixT (ds := [.str b.2.1, .ref b.1]) rfl (ed_ixW 0 (ds := pbT (bs1 ++ [b])) rfl (by rw [pbT_snoc]; exact atI_last _ _) (ed_var 4 h4) (ed_neg ed_int)) ed_int
      refine (sd_cons (s1_set 6 (ED.is (ed_tup (ea_cons (ed_ixs (EO.ed (eo_lst (ea_cons ed_str (ea_cons ed_str ea_nil)))) (ed_mod (by decide) (ed_fdiv ⟨by decide, by decide⟩ (ed_var 2 rfl) ed_int) ed_int) ⟨by omega, by show way / 72 % 2 < (2 : Int); omega⟩) (ea_cons (ed_ixs (ed_var 1 rfl) (ed_add ed_int (ed_mod (by omega) (ed_fdiv ⟨by decide, by decide⟩ (ed_var 2 rfl) ed_int) (ed_var 3 rfl))) (by constructor <;> omega)) ea_nil))) (lawLast0_d names way (lawMany way))) nd)
        (sd_cons (s1_set 7 (ED.is (ed_tup (ea_cons ed_str (ea_cons (ed_ixs (ed_var 1 rfl) ed_int (by constructor <;> omega)) (ea_cons ed_int ea_nil)))) (d2 := (sureQ names).d) rfl) nd)
          (sd_if (et_gt (ed_mod (by decide) (ed_fdiv ⟨by decide, by decide⟩ (ed_var 2 rfl) ed_int) ed_int) ed_int) (fun h2 => ?_) (fun h2 => ?_))))
      · have h3 : 0 < way / 144 % 3 := of_decide_eq_true h2
        refine (sd_cons (s1_set 6 (ED.is (ed_tup (ea_cons (ed_ixs (EO.ed (eo_lst (ea_cons ed_str (ea_cons ed_str ea_nil)))) (ed_sub (ed_mod (by decide) (ed_fdiv ⟨by decide, by decide⟩ (ed_var 2 rfl) ed_int) ed_int) ed_int) ⟨by omega, by show way / 144 % 3 - 1 < (2 : Int); omega⟩) (ea_cons (ed_var 7 rfl) (ea_cons (EO.ed (eo_lst (ea_cons (ed_var 6 rfl) ea_nil))) (ea_cons (EO.ed (eo_lst ea_nil)) (ea_cons (ed_var 7 rfl) ea_nil)))))) (lawLast_d names way (lawMany way) h3)) nd) (sd_nil ?_))
        refine (sd_cons (s1_appW (ds := rowsD b.2.2) (1 + bs1.length) (obj rfl) (ed_var 6 rfl) (by rw [rowsD_len]; omega) (hwl _)) ?_)
        have this := fun {p0 p1 : Pos} => fin (RETP := p0) (RETQ := p1) _ (.va (lawLast names way (lawMany way)).d) (.va (sureQ names).d) hfin
        refine sd_nil ?_
        have e := app [.va (.lst (cells.map .int)), .va (.lst (names.map .str)), .va (.int way), .va (.int (lawMany way)), .va (.ref p), s5, .va (lawLast names way (lawMany way)).d, .va (sureQ names).d] _ rfl
        rw [← e] at this
        exact this
      · have h3 : ¬ 0 < way / 144 % 3 := of_decide_eq_false h2
        have e0 : lawLast names way (lawMany way) = lawLast0 names way (lawMany way) := by unfold lawLast; rw [if_neg h3]
        refine (sd_nil (sd_cons (s1_appW (ds := rowsD b.2.2) (1 + bs1.length) (obj rfl) (ed_var 6 rfl) (by rw [rowsD_len]; omega) (hwl _)) ?_))
        have this := fun {p0 p1 : Pos} => fin (RETP := p0) (RETQ := p1) _ (.va (lawLast0 names way (lawMany way)).d) (.va (sureQ names).d) hfin
        refine sd_nil ?_
        have e := app [.va (.lst (cells.map .int)), .va (.lst (names.map .str)), .va (.int way), .va (.int (lawMany way)), .va (.ref p), s5, .va (lawLast0 names way (lawMany way)).d, .va (sureQ names).d] _ (by rw [e0])
        rw [← e] at this
        exact this
    · have hw : ¬ way / 3 % 8 = 5 := by simpa using h
      refine (sd_nil (fin bs .no .no ?_))
      unfold lawProg
      rw [if_neg hw]
      exact hbs
abbrev s_brows : Stmt := topS 49
abbrev n_brows : List Str := ["_law_ask", "_law_some"]
abbrev e_brows : Nm := ⟨n_brows, defScope s_brows, fun _ => true⟩
omit T in
theorem sc_brows : FnScope n_brows [] (defScope s_brows) := ⟨rfl, rfl, rfl, by decide +kernel, rfl, by decide +kernel, by decide +kernel⟩
def R_brows (ds : List D) (d : D) : Prop := ds = [] ∧ d = .lst badRows
theorem b_brows {ds : List D} {d : D} (h : R_brows ds d) : BodyD c e_brows s_brows (rho n_brows ds) d := by
  have nd := sc_brows.nd
  obtain ⟨rfl, rfl⟩ := h
  left
  refine (sd_cons (s1_set 0 (ED.is (ed_tup (ea_cons ed_str (ea_cons ed_int (ea_cons ed_int ea_nil)))) (d2 := askD) rfl) nd) ?_)
  show SD c e_brows _ ⟨[.va askD, .no], []⟩ _
  refine (sd_cons (s1_set 1 (ED.is (EO.ed (eo_lst (ea_cons ed_non (ea_cons ed_int (ea_cons ed_str (ea_cons (EO.ed (eo_lst ea_nil (by decide))) (ea_cons (ed_tup ea_nil) (ea_cons (ed_tup (ea_cons ed_str ea_nil)) (ea_cons (ed_tup (ea_cons ed_str (ea_cons ed_str ea_nil))) (ea_cons (ed_tup (ea_cons ed_str (ea_cons ed_str (ea_cons ed_str (ea_cons ed_str ea_nil))))) (ea_cons (EO.ed (eo_lst (ea_cons ed_str (ea_cons ed_str (ea_cons ed_str ea_nil))) (by decide))) ea_nil))))))))) (by decide))) (d2 := .lst badRowsA_0) rfl) nd) ?_)
  show SD c e_brows _ ⟨[.va askD, .va (.lst badRowsA_0)], []⟩ _
  refine (sd_cons (s1_set 1 (ED.is (EO.ed (eo_cat (xs := badRowsA_0) (ys := badRows_1) (by decide) (ed_var 1 rfl) (EO.ed (eo_lst (ea_cons (ed_tup (ea_cons ed_str (ea_cons ed_str ea_nil))) ea_nil) (by decide))))) (d2 := .lst badRowsA_1) rfl) nd) ?_)
  show SD c e_brows _ ⟨[.va askD, .va (.lst badRowsA_1)], []⟩ _
  refine (sd_cons (s1_set 1 (ED.is (EO.ed (eo_cat (xs := badRowsA_1) (ys := badRows_2) (by decide) (ed_var 1 rfl) (EO.ed (eo_lst (ea_cons (ed_tup (ea_cons ed_str (ea_cons ed_str (ea_cons ed_str (ea_cons (ed_tup (ea_cons ed_int ea_nil)) ea_nil))))) (ea_cons (ed_tup (ea_cons ed_str (ea_cons ed_str (ea_cons ed_str ea_nil)))) (ea_cons (ed_tup (ea_cons ed_str (ea_cons ed_str (ea_cons ed_str (ea_cons (ed_tup (ea_cons ed_int ea_nil)) ea_nil))))) (ea_cons (ed_tup (ea_cons ed_str (ea_cons ed_str (ea_cons ed_int (ea_cons (ed_tup (ea_cons ed_int ea_nil)) ea_nil))))) ea_nil)))) (by decide))))) (d2 := .lst badRowsA_2) rfl) nd) ?_)
  show SD c e_brows _ ⟨[.va askD, .va (.lst badRowsA_2)], []⟩ _
  refine (sd_cons (s1_set 1 (ED.is (EO.ed (eo_cat (xs := badRowsA_2) (ys := badRows_3) (by decide) (ed_var 1 rfl) (EO.ed (eo_lst (ea_cons (ed_tup (ea_cons ed_str (ea_cons ed_str (ea_cons ed_str (ea_cons ed_int ea_nil))))) (ea_cons (ed_tup (ea_cons ed_str (ea_cons ed_str (ea_cons ed_str (ea_cons (ed_tup ea_nil) ea_nil))))) (ea_cons (ed_tup (ea_cons ed_str (ea_cons ed_str (ea_cons ed_str (ea_cons (EO.ed (eo_lst (ea_cons ed_int ea_nil) (by decide))) ea_nil))))) (ea_cons (ed_tup (ea_cons ed_str (ea_cons ed_str (ea_cons ed_str (ea_cons (ed_tup (ea_cons ed_str (ea_cons ed_int ea_nil))) ea_nil))))) ea_nil)))) (by decide))))) (d2 := .lst badRowsA_3) rfl) nd) ?_)
  show SD c e_brows _ ⟨[.va askD, .va (.lst badRowsA_3)], []⟩ _
  refine (sd_cons (s1_set 1 (ED.is (EO.ed (eo_cat (xs := badRowsA_3) (ys := badRows_4) (by decide) (ed_var 1 rfl) (EO.ed (eo_lst (ea_cons (ed_tup (ea_cons ed_str (ea_cons ed_str (ea_cons ed_str (ea_cons (ed_tup (ea_cons ed_str (ea_cons ed_str (ea_cons ed_int ea_nil)))) ea_nil))))) (ea_cons (ed_tup (ea_cons ed_str (ea_cons ed_str (ea_cons ed_str (ea_cons (ed_tup (ea_cons ed_non (ea_cons ed_str (ea_cons ed_int ea_nil)))) ea_nil))))) (ea_cons (ed_tup (ea_cons ed_str (ea_cons ed_str (ea_cons (EO.ed (eo_lst (ea_cons ed_str ea_nil) (by decide))) (ea_cons (ed_tup (ea_cons ed_int ea_nil)) ea_nil))))) ea_nil))) (by decide))))) (d2 := .lst badRowsA_4) rfl) nd) ?_)
  show SD c e_brows _ ⟨[.va askD, .va (.lst badRowsA_4)], []⟩ _
  refine (sd_cons (s1_set 1 (ED.is (EO.ed (eo_cat (xs := badRowsA_4) (ys := badRows_5) (by decide) (ed_var 1 rfl) (EO.ed (eo_lst (ea_cons (ed_tup (ea_cons ed_str (ea_cons ed_str (ea_cons ed_str (ea_cons (ed_tup (ea_cons (EO.ed (eo_lst (ea_cons ed_str ea_nil) (by decide))) (ea_cons ed_str (ea_cons ed_int ea_nil)))) ea_nil))))) (ea_cons (ed_tup (ea_cons ed_str (ea_cons (ed_var 0 rfl) (ea_cons (EO.ed (eo_lst ea_nil (by decide))) (ea_cons (EO.ed (eo_lst ea_nil (by decide))) ea_nil))))) (ea_cons (ed_tup (ea_cons ed_str (ea_cons (ed_tup (ea_cons ed_str (ea_cons ed_int ea_nil))) (ea_cons (EO.ed (eo_lst ea_nil (by decide))) (ea_cons (EO.ed (eo_lst ea_nil (by decide))) (ea_cons (ed_var 0 rfl) ea_nil)))))) ea_nil))) (by decide))))) (d2 := .lst badRowsA_5) rfl) nd) ?_)
  show SD c e_brows _ ⟨[.va askD, .va (.lst badRowsA_5)], []⟩ _
  refine (sd_cons (s1_set 1 (ED.is (EO.ed (eo_cat (xs := badRowsA_5) (ys := badRows_6) (by decide) (ed_var 1 rfl) (EO.ed (eo_lst (ea_cons (ed_tup (ea_cons ed_str (ea_cons (ed_tup (ea_cons ed_str (ea_cons ed_int (ea_cons ed_int ea_nil)))) (ea_cons (EO.ed (eo_lst ea_nil (by decide))) (ea_cons (EO.ed (eo_lst ea_nil (by decide))) (ea_cons (ed_var 0 rfl) ea_nil)))))) (ea_cons (ed_tup (ea_cons ed_str (ea_cons (ed_var 0 rfl) (ea_cons (ed_tup ea_nil) (ea_cons (EO.ed (eo_lst ea_nil (by decide))) (ea_cons (ed_var 0 rfl) ea_nil)))))) (ea_cons (ed_tup (ea_cons ed_str (ea_cons (ed_var 0 rfl) (ea_cons (EO.ed (eo_lst ea_nil (by decide))) (ea_cons ed_non (ea_cons (ed_var 0 rfl) ea_nil)))))) ea_nil))) (by decide))))) (d2 := .lst badRowsA_6) rfl) nd) ?_)
  show SD c e_brows _ ⟨[.va askD, .va (.lst badRowsA_6)], []⟩ _
  refine (sd_cons (s1_set 1 (ED.is (EO.ed (eo_cat (xs := badRowsA_6) (ys := badRows_7) (by decide) (ed_var 1 rfl) (EO.ed (eo_lst (ea_cons (ed_tup (ea_cons ed_str (ea_cons (ed_var 0 rfl) (ea_cons (EO.ed (eo_lst ea_nil (by decide))) (ea_cons (EO.ed (eo_lst ea_nil (by decide))) (ea_cons ed_str ea_nil)))))) (ea_cons (ed_tup (ea_cons (EO.ed (eo_lst ea_nil (by decide))) (ea_cons ed_str (ea_cons ed_str ea_nil)))) (ea_cons (ed_tup (ea_cons (EO.ed eo_dic) (ea_cons ed_str ea_nil))) (ea_cons (ed_tup (ea_cons ed_non (ea_cons ed_str (ea_cons ed_str ea_nil)))) (ea_cons (ed_tup (ea_cons (EO.ed (eo_lst (ea_cons ed_str ea_nil) (by decide))) (ea_cons ed_str ea_nil))) ea_nil))))) (by decide))))) (d2 := .lst badRowsA_7) rfl) nd) ?_)
  show SD c e_brows _ ⟨[.va askD, .va (.lst badRowsA_7)], []⟩ _
  refine (sd_cons (s1_set 1 (ED.is (EO.ed (eo_cat (xs := badRowsA_7) (ys := badRows_8) (by decide) (ed_var 1 rfl) (EO.ed (eo_lst (ea_cons (ed_tup (ea_cons ed_str (ea_cons (ed_var 0 rfl) (ea_cons (EO.ed (eo_lst ea_nil (by decide))) (ea_cons (EO.ed (eo_lst ea_nil (by decide))) (ea_cons (ed_tup (ea_cons ed_str (ea_cons ed_int (ea_cons ed_int (ea_cons ed_int ea_nil))))) ea_nil)))))) (ea_cons (ed_tup (ea_cons ed_str (ea_cons ed_str (ea_cons ed_str ea_nil)))) (ea_cons (ed_tup (ea_cons ed_str (ea_cons ed_str (ea_cons ed_str ea_nil)))) ea_nil))) (by decide))))) (d2 := .lst badRowsA_8) rfl) nd) ?_)
  show SD c e_brows _ ⟨[.va askD, .va (.lst badRowsA_8)], []⟩ _
  exact (sd_rt (s1_ret (ed_var 1 rfl)))
abbrev s_bnames : Stmt := topS 50
abbrev n_bnames : List Str := ["_law_ask", "_law_some"]
abbrev e_bnames : Nm := ⟨n_bnames, defScope s_bnames, fun _ => true⟩
omit T in
theorem sc_bnames : FnScope n_bnames [] (defScope s_bnames) := ⟨rfl, rfl, rfl, by decide +kernel, rfl, by decide +kernel, by decide +kernel⟩
def R_bnames (ds : List D) (d : D) : Prop := ds = [] ∧ d = .lst badNames
theorem b_bnames {ds : List D} {d : D} (h : R_bnames ds d) : BodyD c e_bnames s_bnames (rho n_bnames ds) d := by
  have nd := sc_bnames.nd
  obtain ⟨rfl, rfl⟩ := h
  left
  refine (sd_cons (s1_set 0 (ED.is (ed_tup (ea_cons ed_str (ea_cons ed_int (ea_cons ed_int ea_nil)))) (d2 := askD) rfl) nd) ?_)
  show SD c e_bnames _ ⟨[.va askD, .no], []⟩ _
  refine (sd_cons (s1_set 1 (ED.is (EO.ed (eo_lst (ea_cons (ed_tup (ea_cons ed_str (ea_cons ed_str (ea_cons ed_str ea_nil)))) (ea_cons (ed_tup (ea_cons ed_str (ea_cons ed_str (ea_cons ed_str ea_nil)))) (ea_cons (ed_tup (ea_cons ed_str (ea_cons ed_str ea_nil))) (ea_cons (ed_tup (ea_cons ed_str (ea_cons ed_str ea_nil))) (ea_cons (ed_tup (ea_cons ed_str (ea_cons ed_str (ea_cons ed_str (ea_cons (ed_tup (ea_cons ed_int ea_nil)) ea_nil))))) ea_nil))))) (by decide))) (d2 := .lst badNamesA_0) rfl) nd) ?_)
  show SD c e_bnames _ ⟨[.va askD, .va (.lst badNamesA_0)], []⟩ _
  refine (sd_cons (s1_set 1 (ED.is (EO.ed (eo_cat (xs := badNamesA_0) (ys := badNames_1) (by decide) (ed_var 1 rfl) (EO.ed (eo_lst (ea_cons (ed_tup (ea_cons ed_str (ea_cons ed_str (ea_cons ed_str (ea_cons (ed_tup (ea_cons ed_str ea_nil)) ea_nil))))) (ea_cons (ed_tup (ea_cons ed_str (ea_cons ed_str (ea_cons ed_str (ea_cons (ed_tup (ea_cons ed_str (ea_cons ed_str (ea_cons ed_str ea_nil)))) ea_nil))))) (ea_cons (ed_tup (ea_cons ed_str (ea_cons ed_str ea_nil))) (ea_cons (ed_tup (ea_cons ed_str (ea_cons ed_int ea_nil))) ea_nil)))) (by decide))))) (d2 := .lst badNamesA_1) rfl) nd) ?_)
  show SD c e_bnames _ ⟨[.va askD, .va (.lst badNamesA_1)], []⟩ _
  refine (sd_cons (s1_set 1 (ED.is (EO.ed (eo_cat (xs := badNamesA_1) (ys := badNames_2) (by decide) (ed_var 1 rfl) (EO.ed (eo_lst (ea_cons (ed_tup (ea_cons ed_str (ea_cons (EO.ed (eo_lst (ea_cons ed_str ea_nil) (by decide))) ea_nil))) (ea_cons (ed_tup (ea_cons ed_str (ea_cons (ed_tup (ea_cons ed_str (ea_cons ed_str (ea_cons ed_int ea_nil)))) (ea_cons (EO.ed (eo_lst ea_nil (by decide))) (ea_cons (EO.ed (eo_lst ea_nil (by decide))) (ea_cons (ed_var 0 rfl) ea_nil)))))) (ea_cons (ed_tup (ea_cons ed_str (ea_cons (ed_var 0 rfl) (ea_cons (EO.ed (eo_lst ea_nil (by decide))) (ea_cons (EO.ed (eo_lst ea_nil (by decide))) (ea_cons (ed_tup (ea_cons ed_str (ea_cons ed_int (ea_cons ed_str ea_nil)))) ea_nil)))))) ea_nil))) (by decide))))) (d2 := .lst badNamesA_2) rfl) nd) ?_)
  show SD c e_bnames _ ⟨[.va askD, .va (.lst badNamesA_2)], []⟩ _
  refine (sd_cons (s1_set 1 (ED.is (EO.ed (eo_cat (xs := badNamesA_2) (ys := badNames_3) (by decide) (ed_var 1 rfl) (EO.ed (eo_lst (ea_cons (ed_tup (ea_cons ed_str (ea_cons ed_non ea_nil))) (ea_cons (ed_tup (ea_cons ed_str (ea_cons ed_int (ea_cons ed_str (ea_cons (ed_tup (ea_cons ed_int ea_nil)) ea_nil))))) (ea_cons (ed_tup (ea_cons ed_str (ea_cons ed_str (ea_cons ed_bl ea_nil)))) (ea_cons (ed_tup (ea_cons ed_str (ea_cons (EO.ed eo_dic) ea_nil))) (ea_cons (ed_tup (ea_cons ed_str (ea_cons (EO.ed (eo_lst (ea_cons ed_str ea_nil) (by decide))) ea_nil))) ea_nil))))) (by decide))))) (d2 := .lst badNamesA_3) rfl) nd) ?_)
  show SD c e_bnames _ ⟨[.va askD, .va (.lst badNamesA_3)], []⟩ _
  exact (sd_rt (s1_ret (ed_var 1 rfl)))
abbrev s_btwice : Stmt := topS 51
abbrev n_btwice : List Str := ["_law_ask", "_law_some"]
abbrev e_btwice : Nm := ⟨n_btwice, defScope s_btwice, fun _ => true⟩
omit T in
theorem sc_btwice : FnScope n_btwice [] (defScope s_btwice) := ⟨rfl, rfl, rfl, by decide +kernel, rfl, by decide +kernel, by decide +kernel⟩
def R_btwice (ds : List D) (d : D) : Prop := ds = [] ∧ d = .lst badTwice
theorem b_btwice {ds : List D} {d : D} (h : R_btwice ds d) : BodyD c e_btwice s_btwice (rho n_btwice ds) d := by
  have nd := sc_btwice.nd
  obtain ⟨rfl, rfl⟩ := h
  left
  refine (sd_cons (s1_set 0 (ED.is (ed_tup (ea_cons ed_str (ea_cons ed_int (ea_cons ed_int ea_nil)))) (d2 := askD) rfl) nd) ?_)
  show SD c e_btwice _ ⟨[.va askD, .no], []⟩ _
  refine (sd_cons (s1_set 1 (ED.is (EO.ed (eo_lst (ea_cons (ed_tup (ea_cons (ed_tup (ea_cons ed_str (ea_cons ed_str (ea_cons ed_str (ea_cons (ed_tup (ea_cons (ed_neg ed_int) ea_nil)) ea_nil))))) (ea_cons ed_str ea_nil))) (ea_cons (ed_tup (ea_cons (ed_tup (ea_cons ed_str (ea_cons ed_str (ea_cons ed_str (ea_cons (ed_tup (ea_cons ed_str ea_nil)) ea_nil))))) (ea_cons ed_str ea_nil))) (ea_cons (ed_tup (ea_cons (ed_tup (ea_cons ed_str (ea_cons ed_str (ea_cons ed_int ea_nil)))) (ea_cons ed_str ea_nil))) ea_nil))) (by decide))) (d2 := .lst badTwiceA_0) rfl) nd) ?_)
  show SD c e_btwice _ ⟨[.va askD, .va (.lst badTwiceA_0)], []⟩ _
  refine (sd_cons (s1_set 1 (ED.is (EO.ed (eo_cat (xs := badTwiceA_0) (ys := badTwice_1) (by decide) (ed_var 1 rfl) (EO.ed (eo_lst (ea_cons (ed_tup (ea_cons (ed_tup (ea_cons ed_str (ea_cons ed_str (ea_cons ed_str (ea_cons (ed_tup (ea_cons ed_str (ea_cons (ed_neg ed_int) (ea_cons ed_str ea_nil)))) ea_nil))))) (ea_cons ed_str ea_nil))) (ea_cons (ed_tup (ea_cons (ed_tup (ea_cons ed_str (ea_cons ed_str (ea_cons ed_str (ea_cons (ed_tup (ea_cons ed_str (ea_cons ed_str (ea_cons ed_non ea_nil)))) ea_nil))))) (ea_cons ed_str ea_nil))) ea_nil)) (by decide))))) (d2 := .lst badTwiceA_1) rfl) nd) ?_)
  show SD c e_btwice _ ⟨[.va askD, .va (.lst badTwiceA_1)], []⟩ _
  refine (sd_cons (s1_set 1 (ED.is (EO.ed (eo_cat (xs := badTwiceA_1) (ys := badTwice_2) (by decide) (ed_var 1 rfl) (EO.ed (eo_lst (ea_cons (ed_tup (ea_cons (ed_tup (ea_cons ed_str (ea_cons (ed_tup (ea_cons ed_str (ea_cons ed_str (ea_cons ed_int ea_nil)))) (ea_cons (ed_tup ea_nil) (ea_cons (EO.ed (eo_lst ea_nil (by decide))) (ea_cons (ed_var 0 rfl) ea_nil)))))) (ea_cons ed_str ea_nil))) (ea_cons (ed_tup (ea_cons (ed_tup (ea_cons ed_str (ea_cons (ed_var 0 rfl) (ea_cons (ed_tup ea_nil) (ea_cons (EO.ed (eo_lst ea_nil (by decide))) (ea_cons (ed_tup (ea_cons ed_str (ea_cons ed_int (ea_cons ed_int ea_nil)))) ea_nil)))))) (ea_cons ed_str ea_nil))) ea_nil)) (by decide))))) (d2 := .lst badTwiceA_2) rfl) nd) ?_)
  show SD c e_btwice _ ⟨[.va askD, .va (.lst badTwiceA_2)], []⟩ _
  refine (sd_cons (s1_set 1 (ED.is (EO.ed (eo_cat (xs := badTwiceA_2) (ys := badTwice_3) (by decide) (ed_var 1 rfl) (EO.ed (eo_lst (ea_cons (ed_tup (ea_cons (ed_tup (ea_cons ed_str (ea_cons (ed_var 0 rfl) (ea_cons (EO.ed (eo_lst (ea_cons ed_int ea_nil) (by decide))) (ea_cons ed_non (ea_cons (ed_tup (ea_cons ed_str (ea_cons ed_int (ea_cons ed_bl ea_nil)))) ea_nil)))))) (ea_cons ed_str ea_nil))) (ea_cons (ed_tup (ea_cons (ed_tup (ea_cons ed_str (ea_cons (ed_var 0 rfl) (ea_cons (EO.ed (eo_lst (ea_cons ed_int ea_nil) (by decide))) (ea_cons (EO.ed (eo_lst ea_nil (by decide))) (ea_cons (ed_tup (ea_cons ed_str (ea_cons ed_int (ea_cons ed_bl ea_nil)))) ea_nil)))))) (ea_cons ed_str ea_nil))) ea_nil)) (by decide))))) (d2 := .lst badTwiceA_3) rfl) nd) ?_)
  show SD c e_btwice _ ⟨[.va askD, .va (.lst badTwiceA_3)], []⟩ _
  refine (sd_cons (s1_set 1 (ED.is (EO.ed (eo_cat (xs := badTwiceA_3) (ys := badTwice_4) (by decide) (ed_var 1 rfl) (EO.ed (eo_lst (ea_cons (ed_tup (ea_cons (ed_tup (ea_cons ed_str (ea_cons (ed_tup (ea_cons ed_str (ea_cons ed_non (ea_cons ed_str ea_nil)))) (ea_cons (EO.ed (eo_lst ea_nil (by decide))) (ea_cons (EO.ed (eo_lst ea_nil (by decide))) (ea_cons (ed_var 0 rfl) ea_nil)))))) (ea_cons ed_str ea_nil))) (ea_cons (ed_tup (ea_cons (ed_tup (ea_cons ed_str (ea_cons ed_str (ea_cons ed_str (ea_cons (ed_tup (ea_cons ed_str (ea_cons ed_str (ea_cons ed_int ea_nil)))) ea_nil))))) (ea_cons ed_str ea_nil))) ea_nil)) (by decide))))) (d2 := .lst badTwiceA_4) rfl) nd) ?_)
  show SD c e_btwice _ ⟨[.va askD, .va (.lst badTwiceA_4)], []⟩ _
  refine (sd_cons (s1_set 1 (ED.is (EO.ed (eo_cat (xs := badTwiceA_4) (ys := badTwice_5) (by decide) (ed_var 1 rfl) (EO.ed (eo_lst (ea_cons (ed_tup (ea_cons (ed_tup (ea_cons ed_str (ea_cons (ed_tup (ea_cons ed_str (ea_cons ed_str (ea_cons ed_non ea_nil)))) (ea_cons (EO.ed (eo_lst ea_nil (by decide))) (ea_cons (EO.ed (eo_lst ea_nil (by decide))) (ea_cons (ed_var 0 rfl) ea_nil)))))) (ea_cons ed_str ea_nil))) (ea_cons (ed_tup (ea_cons (ed_tup (ea_cons ed_str (ea_cons ed_str (ea_cons ed_str (ea_cons (ed_tup (ea_cons ed_str (ea_cons ed_str (ea_cons ed_str ea_nil)))) ea_nil))))) (ea_cons ed_str ea_nil))) ea_nil)) (by decide))))) (d2 := .lst badTwiceA_5) rfl) nd) ?_)
  show SD c e_btwice _ ⟨[.va askD, .va (.lst badTwiceA_5)], []⟩ _
  exact (sd_rt (s1_ret (ed_var 1 rfl)))
abbrev s_brow : Stmt := topS 52
abbrev n_brow : List Str := ["_law_number", "_law_ask", "_law_numbers", "_law_own", "_law_some", "_law_thing_here", "_law_row"]
abbrev e_brow : Nm := ⟨n_brow, defScope s_brow, fun _ => true⟩
omit T in
theorem sc_brow : FnScope n_brow ["_law_number"] (defScope s_brow) := ⟨rfl, rfl, rfl, by decide +kernel, rfl, by decide +kernel, by decide +kernel⟩
def R_brow (ds : List D) (d : D) : Prop := ∃ n : Int, ds = [.int n] ∧ d = badAt n
theorem b_brow {ds : List D} {d : D} (C__law_bad_rows : Call c 1 "_law_bad_rows" (spP c.K R_brows)) (C__law_bad_names : Call c 1 "_law_bad_names" (spP c.K R_bnames)) (C__law_bad_twice : Call c 1 "_law_bad_twice" (spP c.K R_btwice)) (hk : 1 ≤ c.k) (h : R_brow ds d) : BodyD c e_brow s_brow (rho n_brow ds) d := by
  have nd := sc_brow.nd
  obtain ⟨n, rfl, rfl⟩ := h
  left
  have h75 : badAll.length = 75 := by decide
  refine (sd_cons (s1_set 1 (ED.is (ed_tup (ea_cons ed_str (ea_cons ed_int (ea_cons ed_int ea_nil)))) (d2 := askD) rfl) nd) ?_)
  refine (sd_cons (s1_setLc 2 [("_law_thing_here", 5)] nd (id_list (ED.is (EO.ed (eo_lst (ea_cons (ed_neg ed_int) (ea_cons ed_int (ea_cons ed_bl (ea_cons ed_non (ea_cons (EO.ed (eo_lst ea_nil (by decide))) ea_nil))))) (by decide))) (d2 := .lst badNum0) rfl)) (comp_map 5 badNumF nd (Nat.lt_of_lt_of_eq (show 5 < 7 by decide) rfl) badNum0 (fun d hd => ED.is (ed_tup (ea_cons ed_str (ea_cons ed_str (ea_cons ed_str (ea_cons (ed_tup (ea_cons (ed_var 5 rfl) ea_nil)) ea_nil))))) rfl)) (by decide) (hsw := fun X hX => sw_true (by rw [hX.sc]; rfl) (by rw [hX.sc]; decide +kernel) rfl (by decide +kernel))) (sd_freeze 2 rfl ?_))
  show SD c e_brow _ ⟨[.va (.int n), .va askD, .va (.lst (badNum0.map badNumF)), .no, .no, .no, .no], []⟩ _
  refine (sd_cons (s1_set 2 (ED.is (EO.ed (eo_cat (xs := badNum0.map badNumF) (ys := badNum1) (by decide) (ed_var 2 rfl) (EO.ed (eo_lst (ea_cons (ed_tup (ea_cons ed_str (ea_cons (ed_tup (ea_cons ed_str (ea_cons ed_int (ea_cons ed_non ea_nil)))) (ea_cons (EO.ed (eo_lst ea_nil (by decide))) (ea_cons (EO.ed (eo_lst ea_nil (by decide))) (ea_cons (ed_var 1 rfl) ea_nil)))))) (ea_cons (ed_tup (ea_cons ed_str (ea_cons (ed_var 1 rfl) (ea_cons (EO.ed (eo_lst ea_nil (by decide))) (ea_cons (EO.ed (eo_lst ea_nil (by decide))) (ea_cons (ed_tup (ea_cons ed_str (ea_cons (EO.ed eo_dic) (ea_cons ed_int ea_nil)))) ea_nil)))))) ea_nil)) (by decide))))) (d2 := .lst badNum) rfl) nd) (sd_cons (s1_set 3 (ED.is (EO.ed (eo_lst (ea_cons (ed_tup (ea_cons ed_str (ea_cons ed_str (ea_cons ed_str (ea_cons (ed_tup (ea_cons ed_str ea_nil)) ea_nil))))) (ea_cons (ed_tup (ea_cons ed_str (ea_cons ed_str (ea_cons ed_str (ea_cons (ed_tup (ea_cons ed_str (ea_cons ed_int (ea_cons ed_str ea_nil)))) ea_nil))))) (ea_cons (ed_tup (ea_cons ed_str (ea_cons ed_str (ea_cons ed_str (ea_cons (ed_tup (ea_cons ed_str (ea_cons ed_str (ea_cons ed_str ea_nil)))) ea_nil))))) ea_nil))) (by decide))) (d2 := .lst badOwn) rfl) nd) ?_))
  show SD c e_brow _ ⟨[.va (.int n), .va askD, .va (.lst badNum), .va (.lst badOwn), .no, .no, .no], []⟩ _
  refine (sd_cons (s1_set 4 (ED.is (EO.ed (eo_cat (xs := badRows.map (tagD "row")) (ys := badNames.map (tagD "name")) (by decide) (EO.ed (eo_comp [("_law_row", 6)] nd (id_list (ed_call0 C__law_bad_rows (by omega) ⟨rfl, rfl⟩)) (comp_map 6 (tagD "row") nd (Nat.lt_of_lt_of_eq (show 6 < 7 by decide) rfl) badRows (fun d hd => ED.is (ed_tup (ea_cons (ed_var 6 rfl) (ea_cons ed_str ea_nil))) rfl)) (by decide))) (EO.ed (eo_comp [("_law_row", 6)] nd (id_list (ed_call0 C__law_bad_names (by omega) ⟨rfl, rfl⟩)) (comp_map 6 (tagD "name") nd (Nat.lt_of_lt_of_eq (show 6 < 7 by decide) rfl) badNames (fun d hd => ED.is (ed_tup (ea_cons (ed_var 6 rfl) (ea_cons ed_str ea_nil))) rfl)) (by decide))))) (d2 := .lst badAll0) rfl) nd) ?_)
  show SD c e_brow _ ⟨[.va (.int n), .va askD, .va (.lst badNum), .va (.lst badOwn), .va (.lst badAll0), .no, .no], []⟩ _
  refine (sd_cons (s1_set 4 (ED.is (EO.ed (eo_cat (xs := badAll1) (ys := badTwice) (by decide) (EO.ed (eo_cat (xs := badAll0 ++ badNum.map (tagD "number")) (ys := badOwn.map (tagD "own")) (by decide) (EO.ed (eo_cat (xs := badAll0) (ys := badNum.map (tagD "number")) (by decide) (ed_var 4 rfl) (EO.ed (eo_comp [("_law_row", 6)] nd (id_list (ed_var 2 rfl)) (comp_map 6 (tagD "number") nd (Nat.lt_of_lt_of_eq (show 6 < 7 by decide) rfl) badNum (fun d hd => ED.is (ed_tup (ea_cons (ed_var 6 rfl) (ea_cons ed_str ea_nil))) rfl)) (by decide))))) (EO.ed (eo_comp [("_law_row", 6)] nd (id_list (ed_var 3 rfl)) (comp_map 6 (tagD "own") nd (Nat.lt_of_lt_of_eq (show 6 < 7 by decide) rfl) badOwn (fun d hd => ED.is (ed_tup (ea_cons (ed_var 6 rfl) (ea_cons ed_str ea_nil))) rfl)) (by decide))))) (ed_call0 C__law_bad_twice (by omega) ⟨rfl, rfl⟩))) (d2 := .lst badAll) rfl) nd) ?_)
  show SD c e_brow _ ⟨[.va (.int n), .va askD, .va (.lst badNum), .va (.lst badOwn), .va (.lst badAll), .no, .no], []⟩ _
  exact (sd_rt (s1_ret (ED.is (ed_ixd (ds := badAll) (ed_var 4 rfl) (ED.is (ed_mod (by rw [h75]; decide) (ed_var 0 rfl) (ed_len (.lst _) T.len (ea_cons (ed_var 4 rfl) ea_nil))) (d2 := .int (n % 75)) (by rw [h75]; rfl)) ⟨by omega, by rw [h75]; omega⟩) rfl)))
abbrev s_bprog : Stmt := topS 53
abbrev n_bprog : List Str := ["_law_number", "_law_block", "_law_some", "_law_k"]
abbrev e_bprog : Nm := ⟨n_bprog, defScope s_bprog, fun _ => true⟩
omit T in
theorem sc_bprog : FnScope n_bprog ["_law_number"] (defScope s_bprog) := ⟨rfl, rfl, rfl, by decide +kernel, rfl, by decide +kernel, by decide +kernel⟩
def R_bprog (ds : List D) (d : D) : Prop := ∃ n : Int, ds = [.int n] ∧ d = badProgAt n
theorem b_bprog {ds : List D} {d : D} (h : R_bprog ds d) : BodyD c e_bprog s_bprog (rho n_bprog ds) d := by
  have nd := sc_bprog.nd
  obtain ⟨n, rfl, rfl⟩ := h
  left
  have h15 : badProg.length = 15 := by decide
  refine (sd_cons (s1_set 1 (ED.is (ed_tup (ea_cons ed_str (ea_cons (EO.ed (eo_lst (ea_cons (ed_tup (ea_cons ed_str (ea_cons ed_str ea_nil))) ea_nil) (by decide))) ea_nil))) (d2 := blkA) rfl) nd) ?_)
  show SD c e_bprog _ ⟨[.va (.int n), .va blkA, .no, .no], []⟩ _
  refine (sd_cons (s1_set 2 (ED.is (EO.ed (eo_lst (ea_cons ed_non (ea_cons (ed_tup (ea_cons (ed_var 1 rfl) ea_nil)) (ea_cons (EO.ed (eo_lst ea_nil (by decide))) (ea_cons (EO.ed eo_dic) (ea_cons ed_str (ea_cons (EO.ed (eo_comp [("_law_k", 3)] nd (id_range1 T.range (ea_cons ed_int ea_nil)) (comp_range 3 b13F nd (h := fun k hk => (ED.is (ed_tup (ea_cons (ed_addS (b13_len k hk) ed_str (ed_strI (b13_log k hk) T.str (ea_cons (ed_var 3 rfl) ea_nil))) (ea_cons (EO.ed (eo_lst ea_nil)) ea_nil))) (by unfold b13F; rw [Int.zero_add])))) (by decide))) (ea_cons (EO.ed (eo_lst (ea_cons ed_non ea_nil) (by decide))) (ea_cons (EO.ed (eo_lst (ea_cons (EO.ed (eo_lst (ea_cons ed_str (ea_cons (EO.ed (eo_lst ea_nil (by decide))) ea_nil)) (by decide))) ea_nil) (by decide))) (ea_cons (EO.ed (eo_lst (ea_cons (ed_tup (ea_cons ed_str ea_nil)) ea_nil) (by decide))) ea_nil))))))))) (by decide))) (d2 := .lst badProg0) rfl) nd) ?_)
  show SD c e_bprog _ ⟨[.va (.int n), .va blkA, .va (.lst badProg0), .no], []⟩ _
  refine (sd_cons (s1_set 2 (ED.is (EO.ed (eo_cat (xs := badProg0) (ys := badProg1) (by decide) (ed_var 2 rfl) (EO.ed (eo_lst (ea_cons (EO.ed (eo_lst (ea_cons (ed_tup (ea_cons ed_str (ea_cons (EO.ed (eo_lst ea_nil (by decide))) (ea_cons (EO.ed (eo_lst ea_nil (by decide))) ea_nil)))) ea_nil) (by decide))) (ea_cons (EO.ed (eo_lst (ea_cons (ed_tup (ea_cons ed_str (ea_cons (EO.ed (eo_lst ea_nil (by decide))) ea_nil))) ea_nil) (by decide))) (ea_cons (EO.ed (eo_lst (ea_cons (ed_tup (ea_cons ed_str (ea_cons (ed_tup ea_nil) ea_nil))) ea_nil) (by decide))) (ea_cons (EO.ed (eo_lst (ea_cons (ed_tup (ea_cons ed_int (ea_cons (EO.ed (eo_lst ea_nil (by decide))) ea_nil))) ea_nil) (by decide))) (ea_cons (EO.ed (eo_lst (ea_cons (ed_var 1 rfl) (ea_cons (ed_tup (ea_cons ed_str (ea_cons (EO.ed (eo_lst ea_nil (by decide))) ea_nil))) ea_nil)) (by decide))) (ea_cons (EO.ed (eo_lst (ea_cons (ed_tup (ea_cons ed_str (ea_cons ed_non ea_nil))) (ea_cons (ed_var 1 rfl) ea_nil)) (by decide))) ea_nil)))))) (by decide))))) (d2 := .lst badProg) rfl) nd) ?_)
  show SD c e_bprog _ ⟨[.va (.int n), .va blkA, .va (.lst badProg), .no], []⟩ _
  refine (sd_if (et_eq rfl (ed_mod (by decide) (ed_var 0 rfl) ed_int) ed_int) (fun h => ?_) (fun h => ?_))
  · have hm : n % 8 = 0 := by simpa using h
    exact (sd_rt (s1_ret (ED.is (ed_tup (ea_cons (EO.ed (eo_lst (ea_cons (ed_var 1 rfl) (ea_cons (ed_tup (ea_cons ed_str (ea_cons (EO.ed (eo_lst ea_nil (by decide))) ea_nil))) (ea_cons (ed_tup (ea_cons ed_str (ea_cons (EO.ed (eo_lst ea_nil (by decide))) ea_nil))) ea_nil))) (by decide))) (ea_cons ed_str ea_nil))) (by unfold badProgAt; rw [if_pos hm]; rfl))))
  · have hm : ¬ n % 8 = 0 := by simpa using h
    exact (sd_nil (sd_rt (s1_ret (ED.is (ed_tup (ea_cons (ed_ixd (ds := badProg) (ed_var 2 rfl) (ED.is (ed_mod (by rw [h15]; decide) (ed_fdiv ⟨by decide, by decide⟩ (ed_var 0 rfl) ed_int) (ed_len (.lst _) T.len (ea_cons (ed_var 2 rfl) ea_nil))) (d2 := .int (n / 8 % 15)) (by rw [h15]; rfl)) ⟨by omega, by rw [h15]; omega⟩) (ea_cons ed_str ea_nil))) (by unfold badProgAt; rw [if_neg hm])))))
abbrev s_hform : Stmt := topS 54
abbrev n_hform : List Str := ["_law_row", "_law_sizes"]
abbrev e_hform : Nm := ⟨n_hform, defScope s_hform, fun _ => true⟩
omit T in
theorem sc_hform : FnScope n_hform ["_law_row"] (defScope s_hform) := ⟨rfl, rfl, rfl, by decide +kernel, rfl, by decide +kernel, by decide +kernel⟩
def R_hform (ds : List D) (d : D) : Prop := ∃ row : D, ds = [row] ∧ row.fine ∧ d = .bl (formOf row).isSome
theorem b_hform {ds : List D} {d : D} (h : R_hform ds d) : BodyD c e_hform s_hform (rho n_hform ds) d := by
  have nd := sc_hform.nd
  obtain ⟨row, rfl, hf, rfl⟩ := h
  left
  have hs := fine_small hf
  refine (sd_cons (s1_set 1 (EO.ed (eo_disp (l := sizesL) (.cons (.cons (.cons (.cons (.cons (.cons (.cons (.cons .nil)))))))) rfl (by decide) (by decide))) nd) ?_)
  show SD c e_hform _ ⟨[.va row, .va (.dic (cpD sizesL))], []⟩ _
  by_cases ht : isTupB row = true
  · cases row with
    | tup xs =>
      rw [D.fine] at hf
      cases xs with
      | nil =>
        refine (sd_if (EP'.et (ep_or (et_not (et_val (ed_isi hs.ty (by exact kit_tuple_tuple) T.isinstance (ea_cons (ed_var 0 rfl) (ea_cons (ed_type T.tuple (by decide +kernel)) ea_nil))))) fun _ => (ep_or (kb := true) (et_tup0 (xs := []) (ed_var 0 rfl) (ed_tup ea_nil)) fun h => absurd h (by decide)))) (fun _ => ?_) (fun h => absurd h (by decide)))
        exact (sd_rt (s1_ret ed_bl))
      | cons x rest =>
        have fx := fines_at hf.2 (i := 0) rfl
        have hx := fine_small fx
        by_cases hstr : isStrB x = true
        · cases x with
          | str w =>
            refine (sd_if (EP'.et (ep_or (et_not (et_val (ed_isi hs.ty (by exact kit_tuple_tuple) T.isinstance (ea_cons (ed_var 0 rfl) (ea_cons (ed_type T.tuple (by decide +kernel)) ea_nil))))) fun _ => (ep_or (et_tup0 (ed_var 0 rfl) (ed_tup ea_nil)) fun _ => (ep_or1 (et_not (et_val (ed_isi hx.ty (by exact kit_str_str) T.isinstance (ea_cons (ed_ixT (atI_zero _ _) (ed_var 0 rfl) ed_int) (ea_cons (ed_type T.str (by decide +kernel)) ea_nil))))))))) (fun h => absurd h (by rw [decide_eq_false (by simp)]; decide)) (fun _ => sd_nil ?_))
            have e : (lookD (cpD sizesL) w).getD (.int 0) = .int (sizeW w : Nat) := by
              rcases sizes_look w with h | ⟨h, h0⟩
              · rw [h]; rfl
              · rw [h, h0]; rfl
            have ef : (formOf (.tup (.str w :: rest))).isSome = decide (sizeW w = rest.length + 1) := by
              by_cases h : sizeW w = rest.length + 1
              · rw [formOf_yes h, decide_eq_true h]; rfl
              · rw [formOf_no h, decide_eq_false h]; rfl
            rw [ef]
            exact (sd_rt (s1_ret (ED.is (ed_eq rfl (ED.is (ed_get (ed_var 1 rfl) (ed_ixT (d := .str w) (atI_zero _ _) (ed_var 0 rfl) ed_int) ed_int) e) (ed_len (.tup _) T.len (ea_cons (ed_var 0 rfl) ea_nil))) (by
              rw [eqS_int]
              congr 1
              rw [List.length_cons]
              by_cases h : sizeW w = rest.length + 1
              · rw [decide_eq_true h, decide_eq_true (by omega)]
              · rw [decide_eq_false h, decide_eq_false (by omega)]))))
          | _ => cases hstr
        · have hstr : isStrB x = false := by simpa using hstr
          have e : formOf (.tup (x :: rest)) = none := formOf_nstr hstr
          rw [e]
          refine (sd_if (EP'.et (ep_or (et_not (et_val (ed_isi hs.ty (by exact kit_tuple_tuple) T.isinstance (ea_cons (ed_var 0 rfl) (ea_cons (ed_type T.tuple (by decide +kernel)) ea_nil))))) fun _ => (ep_or (et_tup0 (ed_var 0 rfl) (ed_tup ea_nil)) fun _ => (ep_or1 (et_not (et_val (ed_isi hx.ty (by exact kit_strB hx) T.isinstance (ea_cons (ed_ixT (atI_zero _ _) (ed_var 0 rfl) ed_int) (ea_cons (ed_type T.str (by decide +kernel)) ea_nil))))))))) (fun _ => ?_) (fun h => absurd h (by rw [hstr]; simp)))
          exact (sd_rt (s1_ret ed_bl))
    | _ => cases ht
  · have ht : isTupB row = false := by simpa using ht
    have e : formOf row = none := formOf_ntup ht
    rw [e]
    refine (sd_if (EP'.et (ep_or (kb := true) (et_not (et_val (ed_isi hs.ty (kit_tupB hs) T.isinstance (ea_cons (ed_var 0 rfl) (ea_cons (ed_type T.tuple (by decide +kernel)) ea_nil))))) fun h => absurd h (by rw [ht]; decide))) (fun _ => ?_) (fun h => absurd h (by simp)))
    exact (sd_rt (s1_ret ed_bl))
abbrev s_spoil : Stmt := topS 55
abbrev n_spoil : List Str := ["_law_program_here", "_law_first", "_law_more", "_law_names_here", "_law_block", "_law_rows", "_law_place", "_law_ask", "_law_levels", "_law_k", "_law_part", "_law_sides", "_law_bad"]
abbrev e_spoil : Nm := ⟨n_spoil, defScope s_spoil, fun _ => true⟩
omit T in
theorem sc_spoil : FnScope n_spoil ["_law_program_here", "_law_first", "_law_more", "_law_names_here"] (defScope s_spoil) := ⟨rfl, rfl, rfl, by decide +kernel, rfl, by decide +kernel, by decide +kernel⟩
theorem b_spoil (hk : 2 ≤ c.k) (C__law_bad_row : Call c 2 "_law_bad_row" (spP c.K R_brow)) (C__law_has_form : Call c 1 "_law_has_form" (spP c.K R_hform)) {ds w P} (h : R_spoil ds w P) : BodyW c e_spoil s_spoil ⟨(rho n_spoil ds).s, w⟩ P := by
  have nd := sc_spoil.nd
  obtain ⟨p, bs, first, more, names, rfl, hn, hb1, hb2, hbl, hbn, rfl, rfl⟩ := h
  left
  have hj0 : 0 ≤ more / 31 % (bs.length : Int) := Int.emod_nonneg _ (by omega)
  have hj1 : more / 31 % (bs.length : Int) < (bs.length : Int) := Int.emod_lt_of_pos _ (by omega)
  obtain ⟨j, hj⟩ := Int.eq_ofNat_of_zero_le hj0
  rw [hj] at hj1
  have hjl : j < bs.length := by omega
  obtain ⟨bs1, b, bs2, rfl, hlen1⟩ : ∃ bs1 b bs2, bs = bs1 ++ b :: bs2 ∧ bs1.length = j := ⟨bs.take j, bs[j], bs.drop (j + 1), (List.take_append_drop j bs).symm.trans (by rw [List.drop_eq_getElem_cons hjl]), by rw [List.length_take]; omega⟩
  have hgj : (bs1 ++ b :: bs2)[j]? = some b := by
    rw [List.getElem?_append_right (by omega), hlen1, Nat.sub_self]
    rfl
  have hname := hbn j b hgj
  have hat : L2.atI (pbT (bs1 ++ b :: bs2)) ((j : Nat) : Int) = some (.tup [.str b.2.1, .ref b.1]) := by
    refine atI_nat ?_
    unfold pbT
    rw [List.map_append, List.getElem?_append_right (by rw [List.length_map]; omega), List.length_map, hlen1, Nat.sub_self]
    rfl
  obtain ⟨aL, w1, f0, nmL, hperm, hSP, hlast, hf0⟩ := sp_root p first more bs1 bs2 b hbl
  have hrl := hbl b (List.mem_append_right _ List.mem_cons_self)
  refine (sd_cons (s1_set 4 (ED.is (ed_mod (by rw [pbT_len]; omega) (ed_fdiv ⟨by decide, by decide⟩ (ed_var 2 rfl) ed_int) (ed_lenW 0 rfl T.len (ed_var 0 rfl))) (d2 := .int ((j : Nat) : Int)) (by rw [pbT_len, hj])) nd) ?_)
  refine (sd_cons (s1_set 5 (ed_ixT (ds := [.str b.2.1, .ref b.1]) (d := .ref b.1) rfl (ed_ixW 0 (j := ((j : Nat) : Int)) rfl hat (ed_var 0 rfl) (ed_var 4 rfl)) ed_int) nd) ?_)
  refine (sd_cons (s1_set 6 (ED.is (ed_tup (ea_cons (ed_ixs (ns := names) (q := ⟨rfl⟩) (ed_var 3 rfl) (ed_add ed_int (ed_var 4 rfl)) (by constructor <;> omega)) ea_nil)) (d2 := .tup [.str b.2.1]) (by rw [hname]; rfl)) nd) ?_)
  refine (sd_cons (s1_set 7 (ED.is (ed_tup (ea_cons ed_str (ea_cons (ed_ixs (ns := names) (q := ⟨rfl⟩) (ed_var 3 rfl) ed_int (by constructor <;> omega)) (ea_cons ed_int ea_nil)))) (d2 := (spQ names).d) rfl) nd) ?_)
  refine (sd_cons (s1_set 8 (ed_mod (by decide) (ed_var 2 rfl) ed_int) nd) ?_)
  show SD c e_spoil _ ⟨[.va (.ref p), .va (.int first), .va (.int more), .va (.lst (names.map .str)), .va (.int ((j : Nat) : Int)), .va (.ref b.1), .va (.tup [.str b.2.1]), .va (spQ names).d, .va (.int (more % 4)), .no, .no, .no, .no], (p, .lst (pbT (bs1 ++ b :: bs2))) :: pbW (bs1 ++ b :: bs2)⟩ _
  obtain ⟨n, hnv⟩ : ∃ n, n = spLv more := ⟨_, rfl⟩
  have hn8 : n ≤ 8 := by rw [hnv]; exact spLv_le more
  refine (sd_cons (ρ1 := ⟨[.va (.ref p), .va (.int first), .va (.int more), .va (.lst (names.map .str)), .va (.int ((j : Nat) : Int)), .va (.ref b.1), .va (.tup [.str b.2.1]), .va (spQ names).d, .va (.int ((n : Nat) : Int)), .no, .no, .no, .no], (p, .lst (pbT (bs1 ++ b :: bs2))) :: pbW (bs1 ++ b :: bs2)⟩) (s1_if (out := .nx ⟨[.va (.ref p), .va (.int first), .va (.int more), .va (.lst (names.map .str)), .va (.int ((j : Nat) : Int)), .va (.ref b.1), .va (.tup [.str b.2.1]), .va (spQ names).d, .va (.int ((n : Nat) : Int)), .no, .no, .no, .no], (p, .lst (pbT (bs1 ++ b :: bs2))) :: pbW (bs1 ++ b :: bs2)⟩) (et_eq rfl (ed_mod (by decide) (ed_fdiv ⟨by decide, by decide⟩ (ed_var 2 rfl) ed_int) ed_int) ed_int) (fun h => ?_) (fun h => ?_)) ?_)
  · have hm : more / 7 % 8 = 3 := by simpa using h
    have e : n = 8 := by rw [hnv]; unfold spLv; rw [if_pos hm]
    exact (sd_cons (s1_set 8 (ED.is ed_int (d2 := .int ((n : Nat) : Int)) (by rw [e]; rfl)) nd) (sd_nil (sd_endw (leR.refl _))))
  · have hm : ¬ more / 7 % 8 = 3 := by simpa using h
    have e : ((n : Nat) : Int) = more % 4 := by rw [hnv]; unfold spLv; rw [if_neg hm]; omega
    rw [e]
    exact (sd_nil (sd_endw (leR.refl _)))
  -- the block's rows first
  have perm0 : List.Perm ((b.1, D.lst (rowsD b.2.2)) :: w1) ((p, .lst (pbT (bs1 ++ b :: bs2))) :: pbW (bs1 ++ b :: bs2)) := by
    have e : pbW (bs1 ++ b :: bs2) = pbW bs1 ++ (b.1, .lst (rowsD b.2.2)) :: pbW bs2 := by unfold pbW; rw [List.map_append]; rfl
    rw [e]
    exact ((hperm.cons _).trans (List.Perm.swap _ _ _)).trans (List.Perm.cons _ List.perm_middle.symm)
  refine (sd_permW (w := (b.1, .lst (rowsD b.2.2)) :: w1) perm0 ?_)
  generalize hTT : (D.lst (pbT (bs1 ++ b :: bs2))) = TT at hSP
  have sdl := spSd_len more names
  refine (sd_consE (s1_forE 9 (fun k ρ => ∃ (s9 s10 s11 : Sl) (cur : Addr) (C : List D) (w : List (Addr × D)) (f : List D → List D → List D) (pl : List D), SPot p aL TT cur w f ∧ (∀ X, f X (C ++ spT more names (spTip first more names) k (n - k)) = f0 X (rowsD b.2.2 ++ spT more names (spTip first more names) 0 n)) ∧ C.length ≤ 300 ∧
      pl ++ spTl more names k (n - k) C.length = spTl more names 0 n b.2.2.length ∧ pl.length = 2 * k ∧
      ρ = ⟨[.va (.ref p), .va (.int first), .va (.int more), .va (.lst (names.map .str)), .va (.int ((j : Nat) : Int)), .va (.ref cur), .va (.tup (.str b.2.1 :: pl)), .va (spQ names).d, .va (.int ((n : Nat) : Int)), s9, s10, s11, .no], (cur, .lst C) :: w⟩) (id_range1 T.range (ea_cons (ed_var 8 rfl) ea_nil) (by omega)) nd ⟨.no, .no, .no, b.1, rowsD b.2.2, w1, f0, [], hSP, fun X => by rw [Nat.sub_zero], by rw [rowsD_len]; exact hrl, by rw [Nat.sub_zero, rowsD_len]; rfl, rfl, rfl⟩ (by rintro k ρ' ⟨_, _, _, _, _, _, _, _, _, _, _, _, _, rfl⟩; simp) ?_) ?_)
  · rintro k d ρ' hd ⟨s9, s10, s11, cur, C, w, f, pl, hSP, hf, hC, hpl, hpn, rfl⟩
    obtain ⟨hk', rfl⟩ := rangeD_inv hd
    rw [Int.toNat_natCast] at hk'
    have hk8 : k < 8 := by omega
    have hpos := pw3_pos k hk8
    have pwl := pw3l k hk8
    have hpt : spPart more k = 0 ∨ spPart more k = 1 := by unfold spPart; omega
    obtain ⟨m, hm⟩ : ∃ m, n - k = m + 1 := ⟨n - k - 1, by omega⟩
    have hm2 : n - (k + 1) = m := by omega
    refine (sd_cons (s1_set 10 (ED.is (ed_mod (by decide) (ed_fdiv ⟨hpos.1, by omega⟩ (ed_fdiv ⟨by decide, by decide⟩ (ed_var 2 rfl) ed_int) (ed_ixL (d := .int (pw3 k)) pwl (EO.ed (eo_lst (ea_cons ed_int (ea_cons ed_int (ea_cons ed_int ea_nil))))) (ed_mod (by decide) (ed_var 9 rfl) ed_int))) ed_int) (d2 := .int (spPart more k)) rfl) nd) ?_)
    refine (sd_consE (s1_setE 11 (ee_lst (P := fun ds ρ' => ∃ s0 s1 : Addr, ds = [.ref s0, .ref s1] ∧ ρ' = ⟨[.va (.ref p), .va (.int first), .va (.int more), .va (.lst (names.map .str)), .va (.int ((j : Nat) : Int)), .va (.ref cur), .va (.tup (.str b.2.1 :: pl)), .va (spQ names).d, .va (.int ((n : Nat) : Int)), .va (.int (0 + (k : Int))), .va (.int (spPart more k)), s11, .no], (((cur, .lst C) :: w) ++ [(s0, .lst [])]) ++ [(s1, .lst [])]⟩) (eae_o (eo_lst ea_nil) fun s0 => eae_o (eo_lst ea_nil) fun s1 => eae_end ⟨s0, s1, rfl, rfl⟩) (by rintro ds ρ' ⟨_, _, rfl, _⟩; simp)) nd) ?_)
    rintro ρ1 ⟨d, ρ', ⟨y, ds, ρ2, ⟨s0, s1, rfl, rfl⟩, rfl, rfl⟩, rfl⟩
    have toFront : ∀ (y s0 s1 : Addr) (A B : D) (w : List (Addr × D)), List.Perm ((cur, D.lst C) :: (y, .lst [.ref s0, .ref s1]) :: (s0, A) :: (s1, B) :: w) (((((cur, D.lst C) :: w) ++ [(s0, A)]) ++ [(s1, B)]) ++ [(y, .lst [.ref s0, .ref s1])]) := fun y s0 s1 A B w => by
      simp only [List.cons_append, List.append_assoc, List.nil_append]
      refine List.Perm.cons _ ?_
      have : List.Perm ((y, D.lst [.ref s0, .ref s1]) :: (s0, A) :: [(s1, B)]) [(s0, A), (s1, B), (y, D.lst [.ref s0, .ref s1])] := (List.Perm.swap _ _ _).trans (List.Perm.cons _ (List.Perm.swap _ _ _))
      exact (this.append_right w).trans List.perm_append_comm
    show SD c e_spoil _ ⟨[.va (.ref p), .va (.int first), .va (.int more), .va (.lst (names.map .str)), .va (.int ((j : Nat) : Int)), .va (.ref cur), .va (.tup (.str b.2.1 :: pl)), .va (spQ names).d, .va (.int ((n : Nat) : Int)), .va (.int (0 + (k : Int))), .va (.int (spPart more k)), .va (.ref y), .no], ((((cur, .lst C) :: w) ++ [(s0, .lst [])]) ++ [(s1, .lst [])]) ++ [(y, .lst [.ref s0, .ref s1])]⟩ _
    refine (sd_permW (w := (cur, .lst C) :: (y, .lst [.ref s0, .ref s1]) :: (s0, .lst []) :: (s1, .lst []) :: w) (toFront y s0 s1 _ _ w) ?_)
    refine (sd_consE (P := fun ρ' => ∃ y s0 s1 : Addr, ρ' = ⟨[.va (.ref p), .va (.int first), .va (.int more), .va (.lst (names.map .str)), .va (.int ((j : Nat) : Int)), .va (.ref cur), .va (.tup (.str b.2.1 :: pl)), .va (spQ names).d, .va (.int ((n : Nat) : Int)), .va (.int (0 + (k : Int))), .va (.int (spPart more k)), .va (.ref y), .no], (cur, .lst C) :: (y, .lst [.ref s0, .ref s1]) :: (s0, .lst (rowsD (spSd more names false))) :: (s1, .lst (rowsD (spSd more names true))) :: w⟩) (s1_if (et_lt (ed_var 8 rfl) ed_int) (fun h => ?_) (fun h => ?_)) ?_)
    · have h8 : spLv more < 8 := by rw [← hnv]; have := of_decide_eq_true h; omega
      have ea : (List.replicate (more / 32 % 3).toNat [(Row.swap (nmAt names 1) (nmAt names 2)).d]).flatten = rowsD (spSd more names false) := by
        unfold spSd
        rw [if_pos h8, if_neg (by decide)]
        have h3 : more / 32 % 3 = 0 ∨ more / 32 % 3 = 1 ∨ more / 32 % 3 = 2 := by omega
        rcases h3 with h | h | h <;> rw [h] <;> rfl
      have eb : (List.replicate (more / 96 % 3).toNat [(Row.push (nmAt names 3)).d]).flatten = rowsD (spSd more names true) := by
        unfold spSd
        rw [if_pos h8, if_pos rfl]
        have h3 : more / 96 % 3 = 0 ∨ more / 96 % 3 = 1 ∨ more / 96 % 3 = 2 := by omega
        rcases h3 with h | h | h <;> rw [h] <;> rfl
      refine (sd_consE (s1_setE 11 (ee_lst (P := fun ds ρ' => ∃ t0 t1 : Addr, ds = [.ref t0, .ref t1] ∧ ρ' = ⟨[.va (.ref p), .va (.int first), .va (.int more), .va (.lst (names.map .str)), .va (.int ((j : Nat) : Int)), .va (.ref cur), .va (.tup (.str b.2.1 :: pl)), .va (spQ names).d, .va (.int ((n : Nat) : Int)), .va (.int (0 + (k : Int))), .va (.int (spPart more k)), .va (.ref y), .no], (((cur, .lst C) :: (y, .lst [.ref s0, .ref s1]) :: (s0, .lst []) :: (s1, .lst []) :: w) ++ [(t0, .lst (rowsD (spSd more names false)))]) ++ [(t1, .lst (rowsD (spSd more names true)))]⟩) (eae_o (EO.is (eo_rep (xs := [(Row.swap (nmAt names 1) (nmAt names 2)).d]) (k := more / 32 % 3) ⟨by omega, by omega, by simp; omega⟩ (EO.ed (eo_lst (ea_cons (ED.is (ed_tup (ea_cons ed_str (ea_cons (ed_ixs (ns := names) (q := ⟨rfl⟩) (ed_var 3 rfl) ed_int (by constructor <;> omega)) (ea_cons (ed_ixs (ns := names) (q := ⟨rfl⟩) (ed_var 3 rfl) ed_int (by constructor <;> omega)) ea_nil)))) (d2 := (Row.swap (nmAt names 1) (nmAt names 2)).d) rfl) ea_nil))) (ed_mod (by decide) (ed_fdiv ⟨by decide, by decide⟩ (ed_var 2 rfl) ed_int) ed_int)) (by rw [ea])) fun t0 => eae_o (EO.is (eo_rep (xs := [(Row.push (nmAt names 3)).d]) (k := more / 96 % 3) ⟨by omega, by omega, by simp; omega⟩ (EO.ed (eo_lst (ea_cons (ED.is (ed_tup (ea_cons ed_str (ea_cons (ed_ixs (ns := names) (q := ⟨rfl⟩) (ed_var 3 rfl) ed_int (by constructor <;> omega)) ea_nil))) (d2 := (Row.push (nmAt names 3)).d) rfl) ea_nil))) (ed_mod (by decide) (ed_fdiv ⟨by decide, by decide⟩ (ed_var 2 rfl) ed_int) ed_int)) (by rw [eb])) fun t1 => eae_end ⟨t0, t1, rfl, rfl⟩) (by rintro ds ρ' ⟨_, _, rfl, _⟩; simp)) nd) ?_)
      rintro ρ1 ⟨d, ρ', ⟨y2, ds, ρ2, ⟨t0, t1, rfl, rfl⟩, rfl, rfl⟩, rfl⟩
      refine (sd_permW (w := (cur, .lst C) :: (y2, .lst [.ref t0, .ref t1]) :: (t0, .lst (rowsD (spSd more names false))) :: (t1, .lst (rowsD (spSd more names true))) :: ((y, .lst [.ref s0, .ref s1]) :: (s0, .lst []) :: (s1, .lst []) :: w)) (toFront y2 t0 t1 _ _ _) ?_)
      exact (sd_drop (w := (cur, .lst C) :: (y2, .lst [.ref t0, .ref t1]) :: (t0, .lst (rowsD (spSd more names false))) :: (t1, .lst (rowsD (spSd more names true))) :: w) (List.Sublist.cons₂ _ (List.Sublist.cons₂ _ (List.Sublist.cons₂ _ (List.Sublist.cons₂ _ (List.Sublist.cons _ (List.Sublist.cons _ (List.Sublist.cons _ (List.Sublist.refl _)))))))) (sd_nil (sd_endE ⟨y2, t0, t1, rfl⟩)))
    · have h8 : ¬ spLv more < 8 := by rw [← hnv]; have := of_decide_eq_false h; omega
      have e1 : ∀ part, spSd more names part = [] := fun part => by unfold spSd; rw [if_neg h8]
      exact (sd_nil (sd_endE ⟨y, s0, s1, by rw [e1, e1]; rfl⟩))
    rintro ρ1 ⟨y, s0, s1, rfl⟩
    refine (sd_cons (s1_appW (ds := C) (d := .tup [.str (spWd more k), (spQ names).d, .ref s0, .ref s1, (spQ names).d]) 0 (ed_var 5 rfl) (ed_tup (ea_cons (ED.is (ed_ixs (EO.ed (eo_lst (ea_cons ed_str (ea_cons ed_str ea_nil)))) (ed_mod (by decide) (ed_fdiv ⟨hpos.1, by omega⟩ (ed_fdiv ⟨by decide, by decide⟩ (ed_var 2 rfl) ed_int) (ed_ixL (d := .int (pw3 k)) pwl (EO.ed (eo_lst (ea_cons ed_int (ea_cons ed_int (ea_cons ed_int ea_nil))))) (ed_mod (by decide) (ed_var 9 rfl) ed_int))) ed_int) ⟨by omega, by show more / 288 / pw3 k % 2 < (2 : Nat); omega⟩) (d2 := .str (spWd more k)) (by
      show D.str (List.getD ["if", "round"] (more / 288 / pw3 k % 2).toNat default) = _
      unfold spWd
      have hz : more / 288 / pw3 k % 2 = 0 ∨ more / 288 / pw3 k % 2 = 1 := by omega
      rcases hz with h | h <;> rw [h] <;> rfl)) (ea_cons (ed_var 7 rfl) (ea_cons (ed_ixW 1 (j := 0) rfl rfl (ed_var 11 rfl) ed_int) (ea_cons (ed_ixW 1 (j := 1) rfl rfl (ed_var 11 rfl) ed_int) (ea_cons (ed_var 7 rfl) ea_nil)))))) (by omega) rfl) ?_)
    show SD c e_spoil _ ⟨[.va (.ref p), .va (.int first), .va (.int more), .va (.lst (names.map .str)), .va (.int ((j : Nat) : Int)), .va (.ref cur), .va (.tup (.str b.2.1 :: pl)), .va (spQ names).d, .va (.int ((n : Nat) : Int)), .va (.int (0 + (k : Int))), .va (.int (spPart more k)), .va (.ref y), .no], (cur, .lst (C ++ [.tup [.str (spWd more k), (spQ names).d, .ref s0, .ref s1, (spQ names).d]])) :: (y, .lst [.ref s0, .ref s1]) :: (s0, .lst (rowsD (spSd more names false))) :: (s1, .lst (rowsD (spSd more names true))) :: w⟩ _
    refine (sd_cons (s1_set 6 (ED.is (ed_catT (xs := .str b.2.1 :: pl) (ys := [.int ((C ++ [D.tup [.str (spWd more k), (spQ names).d, .ref s0, .ref s1, (spQ names).d]]).length - 1), .int (spPart more k)]) (by simp; omega) (ed_var 6 rfl) (ed_tup (ea_cons (ed_sub (ed_lenW 0 rfl T.len (ed_var 5 rfl)) ed_int) (ea_cons (ed_var 10 rfl) ea_nil)))) (d2 := .tup (.str b.2.1 :: (pl ++ [.int (C.length : Nat), .int (spPart more k)]))) (by
      rw [List.length_append, List.length_singleton]
      show D.tup (.str b.2.1 :: (pl ++ [.int (((C.length + 1 : Nat) : Int) - 1), .int (spPart more k)])) = _
      rw [show ((C.length + 1 : Nat) : Int) - 1 = (C.length : Int) by omega])) nd) ?_)
    have side : L2.atI ([.ref s0, .ref s1] : List D) (spPart more k) = some (.ref (if spB more k = true then s1 else s0)) := by
      unfold spB
      rcases hpt with h | h <;> rw [h] <;> rfl
    refine (sd_cons (s1_set 5 (ed_ixW 1 (j := spPart more k) rfl side (ed_var 11 rfl) (ed_var 10 rfl)) nd) ?_)
    show SD c e_spoil _ ⟨[.va (.ref p), .va (.int first), .va (.int more), .va (.lst (names.map .str)), .va (.int ((j : Nat) : Int)), .va (.ref (if spB more k = true then s1 else s0)), .va (.tup (.str b.2.1 :: (pl ++ [.int (C.length : Nat), .int (spPart more k)]))), .va (spQ names).d, .va (.int ((n : Nat) : Int)), .va (.int (0 + (k : Int))), .va (.int (spPart more k)), .va (.ref y), .no], (cur, .lst (C ++ [.tup [.str (spWd more k), (spQ names).d, .ref s0, .ref s1, (spQ names).d]])) :: (y, .lst [.ref s0, .ref s1]) :: (s0, .lst (rowsD (spSd more names false))) :: (s1, .lst (rowsD (spSd more names true))) :: w⟩ _
    obtain ⟨w', hpw, hSP2⟩ := hSP.step (s0 := s0) (s1 := s1) C (rowsD (spSd more names (!spB more k))) (by omega) (.str (spWd more k)) (spQ names).d (spB more k)
    have hf2 : ∀ X, f X (C ++ [.tup ([.str (spWd more k), (spQ names).d] ++ sideD (spB more k) (rowsD (spSd more names (spB more k)) ++ spT more names (spTip first more names) (k + 1) (n - (k + 1))) (rowsD (spSd more names (!spB more k))) ++ [(spQ names).d])]) = f0 X (rowsD b.2.2 ++ spT more names (spTip first more names) 0 n) := fun X => by
      rw [← hf X, hm, hm2, spT]
      rfl
    have hpl2 : (pl ++ [.int (C.length : Nat), .int (spPart more k)]) ++ spTl more names (k + 1) (n - (k + 1)) (rowsD (spSd more names (spB more k))).length = spTl more names 0 n b.2.2.length := by
      rw [← hpl, hm, hm2, spTl, rowsD_len, List.append_assoc]
      rfl
    refine (sd_drop (w := (cur, .lst (C ++ [.tup [.str (spWd more k), (spQ names).d, .ref s0, .ref s1, (spQ names).d]])) :: (s0, .lst (rowsD (spSd more names false))) :: (s1, .lst (rowsD (spSd more names true))) :: w) (List.Sublist.cons₂ _ (List.Sublist.cons _ (List.Sublist.refl _))) ?_)
    refine (sd_permW (w := (if spB more k = true then s1 else s0, .lst (rowsD (spSd more names (spB more k)))) :: w') ?_ (sd_nil (sd_endE ⟨.va (.int (0 + (k : Int))), .va (.int (spPart more k)), .va (.ref y), _, rowsD (spSd more names (spB more k)), w', _, pl ++ [.int (C.length : Nat), .int (spPart more k)], hSP2, hf2, by rw [rowsD_len]; have := sdl (spB more k); omega, hpl2, by rw [List.length_append, hpn]; simp; omega, rfl⟩)))
    refine (hpw.cons _).trans ?_
    cases hbb : spB more k
    · exact List.Perm.swap _ _ _
    · exact (List.Perm.swap _ _ _).trans (List.Perm.cons _ (List.Perm.swap _ _ _))
  · rintro ρ1 ⟨s9, s10, s11, cur, C, w, f, pl, hSP, hf, hC, hpl, hpn, rfl⟩
    rw [rangeD_len, Int.toNat_natCast] at hf hpl hpn
    rw [Nat.sub_self] at hf hpl
    have hf : ∀ X, f X (C ++ spTip first more names) = f0 X (rowsD b.2.2 ++ spT more names (spTip first more names) 0 n) := hf
    have hpl : pl ++ [.int (C.length : Nat)] = spTl more names 0 n b.2.2.length := hpl
    refine (sd_cons (s1_set 12 (ED.is (ed_call C__law_bad_row (by omega) ⟨first, rfl, rfl⟩ (ea_cons (ed_var 1 rfl) ea_nil)) (badAt_d first)) nd) ?_)
    show SD c e_spoil _ ⟨[.va (.ref p), .va (.int first), .va (.int more), .va (.lst (names.map .str)), .va (.int ((j : Nat) : Int)), .va (.ref cur), .va (.tup (.str b.2.1 :: pl)), .va (spQ names).d, .va (.int ((n : Nat) : Int)), s9, s10, s11, .va (.tup [bdRow first, .str (bdWord first)])], (cur, .lst C) :: w⟩ _
    refine (sd_cons (s1_appW (ds := C) (d := bdRow first) 0 (ed_var 5 rfl) (ed_ixT (ds := [bdRow first, .str (bdWord first)]) (d := bdRow first) rfl (ed_var 12 rfl) ed_int) (by omega) rfl) ?_)
    show SD c e_spoil _ ⟨[.va (.ref p), .va (.int first), .va (.int more), .va (.lst (names.map .str)), .va (.int ((j : Nat) : Int)), .va (.ref cur), .va (.tup (.str b.2.1 :: pl)), .va (spQ names).d, .va (.int ((n : Nat) : Int)), s9, s10, s11, .va (.tup [bdRow first, .str (bdWord first)])], (cur, .lst (C ++ [bdRow first])) :: w⟩ _
    refine (sd_cons (s1_set 6 (ED.is (ed_catT (xs := .str b.2.1 :: pl) (ys := [.int ((C ++ [bdRow first]).length - 1)]) (by simp; omega) (ed_var 6 rfl) (ed_tup (ea_cons (ed_sub (ed_lenW 0 rfl T.len (ed_var 5 rfl)) ed_int) ea_nil))) (d2 := .tup (.str b.2.1 :: spTl more names 0 n b.2.2.length)) (by
      rw [List.length_append, List.length_singleton, ← hpl]
      show D.tup (.str b.2.1 :: (pl ++ [.int (((C.length + 1 : Nat) : Int) - 1)])) = _
      rw [show ((C.length + 1 : Nat) : Int) - 1 = (C.length : Int) by omega])) nd) ?_)
    refine (sd_cons (s1_appW (ds := C ++ [bdRow first]) (d := (Row.push (nmAt names 1)).d) 0 (ed_var 5 rfl) (ED.is (ed_tup (ea_cons ed_str (ea_cons (ed_ixs (ns := names) (q := ⟨rfl⟩) (ed_var 3 rfl) ed_int (by constructor <;> omega)) ea_nil))) (d2 := (Row.push (nmAt names 1)).d) rfl) (by simp; omega) rfl) ?_)
    show SD c e_spoil _ ⟨[.va (.ref p), .va (.int first), .va (.int more), .va (.lst (names.map .str)), .va (.int ((j : Nat) : Int)), .va (.ref cur), .va (.tup (.str b.2.1 :: spTl more names 0 n b.2.2.length)), .va (spQ names).d, .va (.int ((n : Nat) : Int)), s9, s10, s11, .va (.tup [bdRow first, .str (bdWord first)])], (cur, .lst ((C ++ [bdRow first]) ++ [(Row.push (nmAt names 1)).d])) :: w⟩ _
    have htl : (spTip first more names).length ≤ 3 := by unfold spTip; split <;> simp
    refine (sd_cons (ρ1 := ⟨[.va (.ref p), .va (.int first), .va (.int more), .va (.lst (names.map .str)), .va (.int ((j : Nat) : Int)), .va (.ref cur), .va (.tup (.str b.2.1 :: spTl more names 0 n b.2.2.length)), .va (spQ names).d, .va (.int ((n : Nat) : Int)), s9, s10, s11, .va (.tup [bdRow first, .str (bdWord first)])], (cur, .lst (C ++ spTip first more names)) :: w⟩) (s1_if (out := .nx ⟨[.va (.ref p), .va (.int first), .va (.int more), .va (.lst (names.map .str)), .va (.int ((j : Nat) : Int)), .va (.ref cur), .va (.tup (.str b.2.1 :: spTl more names 0 n b.2.2.length)), .va (spQ names).d, .va (.int ((n : Nat) : Int)), s9, s10, s11, .va (.tup [bdRow first, .str (bdWord first)])], (cur, .lst (C ++ spTip first more names)) :: w⟩) (et_eq rfl (ed_mod (by decide) (ed_fdiv ⟨by decide, by decide⟩ (ed_var 2 rfl) ed_int) ed_int) ed_int) (fun h => ?_) (fun h => ?_)) ?_)
    · have hm : more / 2304 % 2 = 1 := by simpa using h
      have e : C ++ spTip first more names = ((C ++ [bdRow first]) ++ [(Row.push (nmAt names 1)).d]) ++ [bdRow (first / 63 + 5 * more)] := by unfold spTip; rw [if_pos hm]; simp
      rw [e]
      exact (sd_cons (s1_appW (ds := (C ++ [bdRow first]) ++ [(Row.push (nmAt names 1)).d]) (d := bdRow (first / 63 + 5 * more)) 0 (ed_var 5 rfl) (ed_ixT (ds := [bdRow (first / 63 + 5 * more), .str (bdWord (first / 63 + 5 * more))]) (d := bdRow (first / 63 + 5 * more)) rfl (ED.is (ed_call C__law_bad_row (by omega) ⟨first / 63 + 5 * more, rfl, rfl⟩ (ea_cons (ed_add (ed_fdiv ⟨by decide, by decide⟩ (ed_var 1 rfl) ed_int) (ed_mul (.inl ⟨by decide, by decide⟩) ed_int (ed_var 2 rfl))) ea_nil)) (badAt_d _)) ed_int) (by simp; omega) rfl) (sd_nil (sd_endw (leR.refl _))))
    · have hm : ¬ more / 2304 % 2 = 1 := by simpa using h
      have e : C ++ spTip first more names = (C ++ [bdRow first]) ++ [(Row.push (nmAt names 1)).d] := by unfold spTip; rw [if_neg hm]; simp
      rw [e]
      exact (sd_nil (sd_endw (leR.refl _)))
    refine (sd_consE (P := fun ρ' => ∃ (wf w0 : List (Addr × D)), Opn (.lst (f (spX first more) (C ++ spTip first more names))) (.ref p) w0 ∧ (∀ q ∈ w0, q ∈ wf) ∧ ρ' = ⟨[.va (.ref p), .va (.int first), .va (.int more), .va (.lst (names.map .str)), .va (.int ((j : Nat) : Int)), .va (.ref cur), .va (.tup (.str b.2.1 :: spTl more names 0 n b.2.2.length)), .va (spQ names).d, .va (.int ((n : Nat) : Int)), s9, s10, s11, .va (.tup [bdRow first, .str (bdWord first)])], wf⟩) (s1_if (et_eq rfl (ed_mod (by decide) (ed_fdiv ⟨by decide, by decide⟩ (ed_var 2 rfl) ed_int) ed_int) ed_int) (fun h => ?_) (fun h => ?_)) ?_)
    · have hm : more / 4608 % 3 = 1 := by simpa using h
      have eX : spX first more = [bdRow (first / 65 + 7 * more)] := by unfold spX; rw [if_pos hm]
      rw [eX]
      subst hTT
      cases hSP with
      | own h1 h2 =>
        rename_i w3
        obtain ⟨w0, ho, hw⟩ := h1.done ((C ++ spTip first more names) ++ [bdRow (first / 65 + 7 * more)])
        refine (sd_cons (s1_appW (ds := C ++ spTip first more names) (d := bdRow (first / 65 + 7 * more)) 0 (ed_ixT (ds := [.str nmL, .ref aL]) (d := .ref aL) rfl (ed_ixW 1 (ds := pbT (bs1 ++ b :: bs2)) rfl hlast (ed_var 0 rfl) (ed_neg ed_int)) ed_int) (ed_ixT (ds := [bdRow (first / 65 + 7 * more), .str (bdWord (first / 65 + 7 * more))]) (d := bdRow (first / 65 + 7 * more)) rfl (ED.is (ed_call C__law_bad_row (by omega) ⟨first / 65 + 7 * more, rfl, rfl⟩ (ea_cons (ed_add (ed_fdiv ⟨by decide, by decide⟩ (ed_var 1 rfl) ed_int) (ed_mul (.inl ⟨by decide, by decide⟩) ed_int (ed_var 2 rfl))) ea_nil)) (badAt_d _)) ed_int) (by rw [List.length_append]; omega) rfl) (sd_nil (sd_endE ⟨_, w0, by rw [h2]; exact ho, hw, rfl⟩)))
      | far h0 h1 =>
        rename_i w3 R
        obtain ⟨w0, ho, hw⟩ := (h1 [bdRow (first / 65 + 7 * more)]).done (C ++ spTip first more names)
        refine (sd_cons (s1_appW (ds := R) (d := bdRow (first / 65 + 7 * more)) 2 (ed_ixT (ds := [.str nmL, .ref aL]) (d := .ref aL) rfl (ed_ixW 1 (ds := pbT (bs1 ++ b :: bs2)) rfl hlast (ed_var 0 rfl) (ed_neg ed_int)) ed_int) (ed_ixT (ds := [bdRow (first / 65 + 7 * more), .str (bdWord (first / 65 + 7 * more))]) (d := bdRow (first / 65 + 7 * more)) rfl (ED.is (ed_call C__law_bad_row (by omega) ⟨first / 65 + 7 * more, rfl, rfl⟩ (ea_cons (ed_add (ed_fdiv ⟨by decide, by decide⟩ (ed_var 1 rfl) ed_int) (ed_mul (.inl ⟨by decide, by decide⟩) ed_int (ed_var 2 rfl))) ea_nil)) (badAt_d _)) ed_int) (by omega) rfl) (sd_nil (sd_endE ⟨_, w0, ho, hw, rfl⟩)))
    · have hm : ¬ more / 4608 % 3 = 1 := by simpa using h
      have eX : spX first more = [] := by unfold spX; rw [if_neg hm]
      rw [eX]
      obtain ⟨w0, ho, hw⟩ := hSP.done (C ++ spTip first more names)
      exact (sd_nil (sd_endE ⟨_, w0, ho, hw, rfl⟩))
    rintro ρ1 ⟨wf, w0, ho, hw, rfl⟩
    rw [hf] at ho
    obtain ⟨Y, B2, eB, hB1, hB2, hB3⟩ := hf0 (rowsD b.2.2 ++ spT more names (spTip first more names) 0 n) (spX first more) (.inr rfl)
    rw [eB] at ho
    have fin : ∀ d, d = .lst [.str (spWord first more), .tup (.str b.2.1 :: spTl more names 0 n b.2.2.length)] → ∃ B, SpOk ((bs1 ++ b :: bs2).map (·.2)) names first more B d ∧ ∃ w0, Opn (.lst (blksD B)) (.ref p) w0 ∧ ∀ q ∈ w0, q ∈ wf := fun d hd => ⟨_, ⟨bs1.map (·.2), b.2, bs2.map (·.2), Y, B2, by rw [List.map_append]; rfl, by rw [← hnv], hB1, hB2, hB3, by rw [hd, ← hnv]⟩, w0, ho, hw⟩
    have hff := bdRow_fine first
    by_cases h8 : n = 8
    · refine (sd_if (EP'.et (ep_and (et_eq rfl (ed_var 8 rfl) ed_int) fun _ => (ep_and1 (et_val (ed_call C__law_has_form (by omega) ⟨bdRow first, rfl, hff, rfl⟩ (ea_cons (ed_ixT (ds := [bdRow first, .str (bdWord first)]) (d := bdRow first) rfl (ed_var 12 rfl) ed_int) ea_nil)))))) (fun h => ?_) (fun h => (sd_nil ?_)))
      · have hs : (formOf (bdRow first)).isSome = true := by rw [Bool.and_eq_true] at h; exact h.2
        have ew : spWord first more = "deep" := by unfold spWord; rw [if_pos ⟨by rw [← hnv]; exact h8, hs⟩]
        exact (sd_rwm (sd_rw (s1_retS (EO.ed (eo_lst (ea_cons ed_str (ea_cons (ed_var 6 rfl) ea_nil)))) (List.Sublist.refl _) (List.Perm.refl _))) (by rintro d w ⟨rfl, rfl⟩; exact fin _ (by rw [ew])))
      · have hs : ¬ (formOf (bdRow first)).isSome = true := by
          intro z
          rw [z, eqS_int, h8] at h
          simp at h
        have ew : spWord first more = bdWord first := by unfold spWord; rw [if_neg (fun z => hs z.2)]
        exact (sd_rwm (sd_rw (s1_retS (EO.ed (eo_lst (ea_cons (ed_ixT (ds := [bdRow first, .str (bdWord first)]) (d := .str (bdWord first)) rfl (ed_var 12 rfl) ed_int) (ea_cons (ed_var 6 rfl) ea_nil)))) (List.Sublist.refl _) (List.Perm.refl _))) (by rintro d w ⟨rfl, rfl⟩; exact fin _ (by rw [ew])))
    · have ew : spWord first more = bdWord first := by unfold spWord; rw [if_neg (fun z => h8 (by rw [hnv]; exact z.1))]
      refine (sd_if (EP'.et (ep_and (kb := false) (et_eq rfl (ed_var 8 rfl) ed_int) fun h => absurd h (by rw [eqS_int, decide_eq_false (by omega)]; decide))) (fun h => absurd h (by simp)) (fun _ => (sd_nil ?_)))
      exact (sd_rwm (sd_rw (s1_retS (EO.ed (eo_lst (ea_cons (ed_ixT (ds := [bdRow first, .str (bdWord first)]) (d := .str (bdWord first)) rfl (ed_var 12 rfl) ed_int) (ea_cons (ed_var 6 rfl) ea_nil)))) (List.Sublist.refl _) (List.Perm.refl _))) (by rintro d w ⟨rfl, rfl⟩; exact fin _ (by rw [ew])))
abbrev s_made : Stmt := topS 57
abbrev n_made : List Str := ["_law_place", "_law_some", "_law_e"]
abbrev e_made : Nm := ⟨n_made, defScope s_made, fun _ => true⟩
omit T in
theorem sc_made : FnScope n_made [] (defScope s_made) := ⟨rfl, rfl, rfl, by decide +kernel, rfl, by decide +kernel, by decide +kernel⟩
theorem b_made (hk2 : 2 ≤ c.k) (XT : XTab c 1 madeX) (XX : XFs c madeX) {ds : List D} {d : D} (h : ds = [] ∧ d = .bl true) : BodyD c e_made s_made (rho n_made ds) d := by
  have nd := sc_made.nd
  obtain ⟨rfl, rfl⟩ := h
  left
  refine (sd_cons (s1_set 0 (ED.is (ed_tup (ea_cons ed_str (ea_cons ed_int (ea_cons ed_int (ea_cons ed_int ea_nil))))) (d2 := .tup [.str "a", .int 1, .int 0, .int 2]) rfl) nd) ?_)
  have new : ∀ {z : Str} {p q p2 : Pos} {ρ : Rho}, z ∈ madeX → ρ[0]? = some (.va (.tup [.str "a", .int 1, .int 0, .int 2])) → glB e_made.sc z = true → (z == ("__debug__" : Str)) = false → EDx c e_made (.Call (.Name z p) [.Name "_law_place" p2] [] q) ρ (isX c madeX (.tup [.str "a", .int 1, .int 0, .int 2])) := fun hz h0 hg hd => edx_new XT hz (ed_var 0 h0) hk2 hg hd
  refine (sd_consE (s1_setX 1 (n := 6) (eax_cons (new (by decide +kernel) rfl (by decide +kernel) (by decide)) (eax_cons (new (by decide +kernel) rfl (by decide +kernel) (by decide)) (eax_cons (new (by decide +kernel) rfl (by decide +kernel) (by decide)) (eax_cons (new (by decide +kernel) rfl (by decide +kernel) (by decide)) (eax_cons (new (by decide +kernel) rfl (by decide +kernel) (by decide)) (eax_cons (new (by decide +kernel) rfl (by decide +kernel) (by decide)) eax_end)))))) (by decide) nd) ?_)
  rintro ρ1 ⟨xs, ⟨hl, hxs⟩, rfl⟩
  show SD c e_made _ ⟨[.va (.tup [.str "a", .int 1, .int 0, .int 2]), .va (.lst xs), .no], []⟩ _
  refine (sd_if (et_not (et_val (k := true) (ED.is (ed_all T.all (ea_cons (ED.is (EO.ed (eo_comp [("_law_e", 2)] nd (id_list (ed_var 1 rfl)) (comp_map 2 (fun _ => .bl true) nd (Nat.lt_of_lt_of_eq (show 2 < 3 by decide) rfl) xs (fun x hx => ED.is (ed_and (ka := true) (kb := true) (ed_isi (d := .tup [.str "a", .int 1, .int 0, .int 2]) (by exact tn_tuple) (by exact kit_tuple_tuple) T.isinstance (ea_cons (ed_atx XX (edx_of (ed_var 2 rfl) (hxs _ hx))) (ea_cons (ed_type T.tuple (by decide +kernel)) ea_nil))) fun _ => (ed_one (ed_same rfl rfl (by decide) (ed_atx XX (edx_of (ed_var 2 rfl) (hxs _ hx))) (ed_var 0 rfl)))) rfl)) (by omega))) (d2 := .lst ((xs.map fun _ => true).map .bl)) (by rw [List.map_map]; rfl)) ea_nil)) (congrArg D.bl (all_trueB xs))))) (fun h => absurd h (by decide)) (fun _ => (sd_nil ?_)))
  exact (sd_rt (s1_ret (ED.is (ed_and (ka := true) (kb := true) (ED.is (ed_isN (ed_atx XX (edx_new XT (by decide +kernel) ed_non hk2)) ed_non) rfl) fun _ => (ed_one (ED.is (ed_eq rfl (ed_atx XX (edx_new XT (by decide +kernel) (d := .int 7) ed_int hk2)) ed_int) rfl))) rfl)))
abbrev s_holds : Stmt := topS 56
abbrev n_holds : List Str := ["_law_script", "_law_turn", "_law_names_here", "_law_first", "_law_more", "_law_program_here", "_law_word_here", "_law_due", "_law_many", "_law_found", "_law_name", "_law_rows"]
abbrev e_holds : Nm := ⟨n_holds, defScope s_holds, fun _ => true⟩
omit T in
theorem sc_holds : FnScope n_holds ["_law_script", "_law_turn", "_law_names_here"] (defScope s_holds) := ⟨rfl, rfl, rfl, by decide +kernel, rfl, by decide +kernel, by decide +kernel⟩
def R_holds (ds : List D) (d : D) : Prop := ∃ ns turn names, ds = [.scr ns, .int turn, .lst (names.map .str)] ∧ ns.length ≤ 63 ∧ names = lawNames (cellAt ns 0) ∧ d = .bl true
theorem b_holds {ds : List D} {d : D} (C__law_refusal : Call c 26 "_law_refusal" (spO c.K (R_refusal hotX R_xchecked3))) (C__law_cell_at : Call c 1 "_law_cell_at" (spP c.K R_cell_at)) (C__law_mixed : Call c 1 "_law_mixed" (spP c.K R_mixed)) (C__law_alike : Call c 4 "_law_alike" (spP c.K (R_alike 2))) (C__law_program : Call c 7 "_law_program" (spW c.K R_programW)) (C__law_bad_program : Call c 1 "_law_bad_program" (spP c.K R_bprog)) (C__law_spoil : Call c 3 "_law_spoil" (spW c.K R_spoil)) (hk : 26 ≤ c.k) (h : R_holds ds d) : BodyD c e_holds s_holds (rho n_holds ds) d := by
  have nd := sc_holds.nd
  obtain ⟨ns, turn, names, rfl, hl, hnm, rfl⟩ := h
  have hn : names.length = 12 := by rw [hnm]; exact lawNames_len _
  have hnm0 : ∀ z ∈ names, isNameS z = true := by rw [hnm]; exact lawNames_ok _
  left
  have hcl : (cutL ns (some 3) (some 11)).length ≤ 63 := Nat.le_trans (cut_len _ _ _) hl
  generalize hce : cutL ns (some 3) (some 11) = cells at hcl
  have hP := lawProg_PrB hnm0 hn (cells := cells) (way := cellAt ns 0) hnm hcl
  have hmn := lawMany_ok (cellAt ns 0)
  have hpn := lawProg_names cells names (cellAt ns 0)
  have hp0 := lawProg_len cells names (cellAt ns 0)
  have hnb : ("nobody" : Str) ∉ (lawProg cells names (cellAt ns 0)).map (·.1) := by
    rw [hpn]
    intro h
    rw [List.mem_map] at h
    obtain ⟨j, hj, e⟩ := h
    rw [List.mem_range] at hj
    have hm : nmAt names (8 + (j : Nat)) ∈ names := getD_mem (by omega)
    rw [e, hnm] at hm
    exact nobody_no _ hm
  refine (sd_cons (s1_set 3 (ed_call C__law_mixed (by omega) ⟨cellAt ns 1, 3 * turn, rfl, rfl⟩ (ea_cons (ed_call C__law_cell_at (by omega) ⟨ns, 1, rfl, by omega, rfl⟩ (ea_cons (ed_var 0 rfl) (ea_cons ed_int ea_nil))) (ea_cons (ed_mul (.inl ⟨by decide, by decide⟩) ed_int (ed_var 1 rfl)) ea_nil))) nd) ?_)
  refine (sd_cons (s1_set 4 (ed_call C__law_mixed (by omega) ⟨cellAt ns 2, 5 * turn, rfl, rfl⟩ (ea_cons (ed_call C__law_cell_at (by omega) ⟨ns, 2, rfl, by omega, rfl⟩ (ea_cons (ed_var 0 rfl) (ea_cons ed_int ea_nil))) (ea_cons (ed_mul (.inl ⟨by decide, by decide⟩) ed_int (ed_var 1 rfl)) ea_nil))) nd) ?_)
  show SD c e_holds _ ⟨[.va (.scr ns), .va (.int turn), .va (.lst (names.map .str)), .va (.int (mixed (cellAt ns 1) (3 * turn))), .va (.int (mixed (cellAt ns 2) (5 * turn))), .no, .no, .no, .no, .no, .no, .no], []⟩ _
  generalize mixed (cellAt ns 1) (3 * turn) = first
  generalize mixed (cellAt ns 2) (5 * turn) = more
  refine (sd_if (et_eq rfl (ed_mod (by decide) (ed_fdiv ⟨by decide, by decide⟩ (ed_var 3 rfl) ed_int) ed_int) ed_int) (fun _ => ?_) (fun _ => sd_nil ?_))
  · obtain ⟨d0, w0, x, e1, hr, hx, rfl⟩ := prog_bad more
    refine (sd_cons (s1_asg (ED.is (ed_call C__law_bad_program (by omega) ⟨more, rfl, rfl⟩ (ea_cons (ed_var 4 rfl) ea_nil)) e1) (td_name2 5 6 nd)) ?_)
    exact (sd_rt (s1_ret (ed_call C__law_alike (by omega) ⟨_, _, rfl, alk_same _ (.lst [.str (wordF x), .non]) (by rw [lst_depth, D.depths, D.depths, D.depths, str_depth]; decide) rfl, rfl⟩ (ea_cons (EO.ed (eo_call C__law_refusal (by omega) ⟨rfl, _, hr, .inr ⟨_, _, rfl, hx, rfl⟩⟩ (ea_cons (ed_var 5 rfl) ea_nil))) (ea_cons (EO.ed (eo_lst (ea_cons (ed_var 6 rfl) (ea_cons ed_non ea_nil)))) ea_nil)))))
  refine (sd_consE (s1_setE 5 (ee_call (w1 := []) (w2 := []) C__law_program (by omega) ⟨cells, names, cellAt ns 0, rfl, hn, hcl, rfl, rfl⟩ rfl (ea_cons (EO.ed (EO.is (eo_slC (lo := some 3) (hi := some 11) (ed_var 0 rfl) ed_int ed_int) (by rw [hce]))) (ea_cons (ed_var 2 rfl) (ea_cons (ed_call C__law_cell_at (by omega) ⟨ns, 0, rfl, by omega, rfl⟩ (ea_cons (ed_var 0 rfl) (ea_cons ed_int ea_nil))) ea_nil)))) nd) ?_)
  rintro ρ1 ⟨d1, ρ', ⟨w', ⟨p, bs, rfl, hbs, rfl⟩, rfl⟩, rfl⟩
  generalize lawProg cells names (cellAt ns 0) = P0 at hP hnb hbs hp0 hpn
  have hb0 : bs.length = P0.length := by have := congrArg List.length hbs; rw [List.length_map] at this; exact this
  have hP1 := hP.l1
  show SD c e_holds _ ⟨[.va (.scr ns), .va (.int turn), .va (.lst (names.map .str)), .va (.int first), .va (.int more), .va (.ref p), .no, .no, .no, .no, .no, .no], ((p, .lst (pbT bs)) :: pbW bs) ++ []⟩ _
  refine (sd_consE (s1_setE 7 (ee_call (w1 := (p, .lst (pbT bs)) :: pbW bs) (w2 := []) C__law_spoil (by omega) ⟨p, bs, first, more, names, rfl, hn, by omega, by omega, fun b hb => (hP.ok b.2 (by rw [← hbs]; exact List.mem_map_of_mem hb)).2.2, fun j b hj => ?_, rfl, rfl⟩ rfl (ea_cons (ed_var 5 rfl) (ea_cons (ed_var 3 rfl) (ea_cons (ed_var 4 rfl) (ea_cons (ed_var 2 rfl) ea_nil))))) nd) ?_)
  · have h1 : (P0.map (·.1))[j]? = some b.2.1 := by rw [← hbs, List.map_map, List.getElem?_map, hj]; rfl
    rw [hpn, List.getElem?_map] at h1
    have hjl := (List.getElem?_eq_some_iff.mp hj).1
    rw [List.getElem?_range (by omega)] at h1
    exact (Option.some.inj h1).symm
  rintro ρ1 ⟨d1, ρ', ⟨w', ⟨B, hB, w0, ho, hw⟩, rfl⟩, rfl⟩
  rw [hbs] at hB
  obtain ⟨x, q, hr, hx, rfl, hq1, hq2, hBl⟩ := sp_plain hnm0 hn hP hnb hB
  have hcs : ClS (w' ++ []) [.va (.scr ns), .va (.int turn), .va (.lst (names.map .str)), .va (.int first), .va (.int more), .va (.ref p), .no, .va (.lst [.str (wordF x), .tup q]), .no, .no, .no, .no] [.va (.scr ns), .va (.int turn), .va (.lst (names.map .str)), .va (.int first), .va (.int more), .va (.lst (blksD B)), .no, .va (.lst [.str (wordF x), .tup q]), .no, .no, .no, .no] := (ClS.va ho (fun q hq => List.mem_append_left _ (hw q hq)) (ClS.refl _)).pre [.va (.scr ns), .va (.int turn), .va (.lst (names.map .str)), .va (.int first), .va (.int more)]
  refine (sd_close (wt := w' ++ []) (w2 := []) (List.append_nil _).symm hcs ?_)
  have hbl : (blksD B).length = B.length := by unfold blksD; rw [List.length_map]
  refine (sd_cons (s1_setLc 8 [("_law_name", 10), ("_law_rows", 11)] nd (id_list (ed_var 5 rfl)) (comp_blks 10 11 (fun b => .int (b.2.length : Nat)) nd B (fun b hb => (ed_len (.lst _) T.len (ea_cons (ed_var 11 rfl) ea_nil)))) (by rw [hbl]; omega) (hsw := fun X hX => sw_true (by rw [hX.sc]; rfl) (by rw [hX.sc]; decide +kernel) rfl (by decide +kernel))) (sd_freeze 8 rfl ?_))
  refine (sd_cons (s1_set 9 (EO.ed (eo_call C__law_refusal (by omega) ⟨rfl, _, hr, .inr ⟨_, _, rfl, hx, rfl⟩⟩ (ea_cons (ed_var 5 rfl) ea_nil))) nd) ?_)
  exact (sd_rt (s1_ret (ed_and (ka := true) (kb := true) (ed_call C__law_alike (by omega) ⟨_, _, rfl, alk_same _ (.lst [.str (wordF x), .tup q]) hq2 hq1, rfl⟩ (ea_cons (ed_var 9 rfl) (ea_cons (ed_var 7 rfl) ea_nil))) fun _ => (ed_one (ed_same rfl rfl (by rw [lst_depth, lens_flat]; decide) (EO.ed (eo_comp [("_law_name", 10), ("_law_rows", 11)] nd (id_list (ed_var 5 rfl)) (comp_blks 10 11 (fun b => .int (b.2.length : Nat)) nd B (fun b hb => (ed_len (.lst _) T.len (ea_cons (ed_var 11 rfl) ea_nil)))) (by rw [hbl]; omega))) (ed_var 8 rfl))))))
abbrev s_law : Stmt := topS 58
abbrev n_law : List Str := ["_law_script", "_law_names_here", "_law_turn"]
abbrev e_law : Nm := ⟨n_law, defScope s_law, fun _ => true⟩
omit T in
theorem sc_law : FnScope n_law ["_law_script"] (defScope s_law) := ⟨rfl, rfl, rfl, by decide +kernel, rfl, by decide +kernel, by decide +kernel⟩
def R_law (ds : List D) (d : D) : Prop := ∃ ns : List Int, ds = [.scr ns] ∧ ns.length ≤ 63 ∧ d = .bl true
theorem b_law {ds : List D} {d : D} (C__law_cell_at : Call c 1 "_law_cell_at" (spP c.K R_cell_at)) (C__law_names : Call c 1 "_law_names" (spO c.K R_names)) (C__law_made : Call c 3 "_law_made" (spP c.K (fun ds d => ds = [] ∧ d = .bl true))) (C__law_holds : Call c 27 "_law_holds" (spP c.K R_holds)) (hk : 27 ≤ c.k) (h : R_law ds d) : BodyD c e_law s_law (rho n_law ds) d := by
  have nd := sc_law.nd
  obtain ⟨ns, rfl, hl, rfl⟩ := h
  left
  refine (sd_cons (s1_set 1 (EO.ed (eo_call C__law_names (by omega) ⟨_, rfl, rfl⟩ (ea_cons (ed_call C__law_cell_at (by omega) ⟨ns, 0, rfl, by omega, rfl⟩ (ea_cons (ed_var 0 rfl) (ea_cons ed_int ea_nil))) ea_nil))) nd) ?_)
  exact (sd_rt (s1_ret (ed_and (ka := true) (kb := true) (ed_call0 C__law_made (by omega) ⟨rfl, rfl⟩) fun _ => (ed_one (ED.is (ed_all T.all (ea_cons (ED.is (EO.ed (eo_comp [("_law_turn", 2)] nd (id_range1 T.range (ea_cons ed_int ea_nil)) (comp_range 2 (fun _ => .bl true) nd (h := fun k hk => (ed_call C__law_holds (by omega) ⟨ns, 0 + (k : Nat), _, rfl, hl, rfl, rfl⟩ (ea_cons (ed_var 0 rfl) (ea_cons (ed_var 2 rfl) (ea_cons (ed_var 1 rfl) ea_nil)))))) (by decide))) (d2 := .lst (((List.range 3).map fun _ => true).map .bl)) (by rw [List.map_map]; rfl)) ea_nil)) (congrArg D.bl (all_trueB (List.range 3))))))))
end
theorem all_mk {l : PySem.W.OpenLaw} {w : World} {K : PySem.W.Frag} {h : Heap} {mg : Str → Option Value} {fa : Addr} (X : K.In h) (G : h.Ns mainGlobals mg) (hfa : mg "law" = some (.ref fa))
    {K_UndoError N_UndoError : Addr} {nm_UndoError qn_UndoError : Str} {bs_UndoError sub_UndoError : List Value} {sn_UndoError : List Str} {ab_UndoError : Bool} {col_UndoError : Option Bool} {dd_UndoError : Option Addr} {m0_UndoError m1_UndoError m2_UndoError m3_UndoError m5_UndoError : Option Value}
    {K_BadProgram N_BadProgram : Addr} {nm_BadProgram qn_BadProgram : Str} {bs_BadProgram sub_BadProgram : List Value} {sn_BadProgram : List Str} {ab_BadProgram : Bool} {col_BadProgram : Option Bool} {dd_BadProgram : Option Addr} {m0_BadProgram m1_BadProgram m2_BadProgram m3_BadProgram m5_BadProgram : Option Value}
    {K_BadRow N_BadRow : Addr} {nm_BadRow qn_BadRow : Str} {bs_BadRow sub_BadRow : List Value} {sn_BadRow : List Str} {ab_BadRow : Bool} {col_BadRow : Option Bool} {dd_BadRow : Option Addr} {m0_BadRow m1_BadRow m2_BadRow m3_BadRow m5_BadRow : Option Value}
    {K_BadName N_BadName : Addr} {nm_BadName qn_BadName : Str} {bs_BadName sub_BadName : List Value} {sn_BadName : List Str} {ab_BadName : Bool} {col_BadName : Option Bool} {dd_BadName : Option Addr} {m0_BadName m1_BadName m2_BadName m3_BadName m5_BadName : Option Value}
    {K_BadNumber N_BadNumber : Addr} {nm_BadNumber qn_BadNumber : Str} {bs_BadNumber sub_BadNumber : List Value} {sn_BadNumber : List Str} {ab_BadNumber : Bool} {col_BadNumber : Option Bool} {dd_BadNumber : Option Addr} {m0_BadNumber m1_BadNumber m2_BadNumber m3_BadNumber m5_BadNumber : Option Value}
    {K_OwnBox N_OwnBox : Addr} {nm_OwnBox qn_OwnBox : Str} {bs_OwnBox sub_OwnBox : List Value} {sn_OwnBox : List Str} {ab_OwnBox : Bool} {col_OwnBox : Option Bool} {dd_OwnBox : Option Addr} {m0_OwnBox m1_OwnBox m2_OwnBox m3_OwnBox m5_OwnBox : Option Value}
    {K_TooDeep N_TooDeep : Addr} {nm_TooDeep qn_TooDeep : Str} {bs_TooDeep sub_TooDeep : List Value} {sn_TooDeep : List Str} {ab_TooDeep : Bool} {col_TooDeep : Option Bool} {dd_TooDeep : Option Addr} {m0_TooDeep m1_TooDeep m2_TooDeep m3_TooDeep m5_TooDeep : Option Value}
    {K_BadLine N_BadLine : Addr} {nm_BadLine qn_BadLine : Str} {bs_BadLine sub_BadLine : List Value} {sn_BadLine : List Str} {ab_BadLine : Bool} {col_BadLine : Option Bool} {dd_BadLine : Option Addr} {m0_BadLine m1_BadLine m2_BadLine m3_BadLine m5_BadLine : Option Value}
    {f_is_name : Addr} {od0 an0 : Option Addr} {sl0 : Array (Option Value)} {oc0 kV0 dc0 pm0 cd0 ct0 : Value}
    {f_is_number : Addr} {od1 an1 : Option Addr} {sl1 : Array (Option Value)} {oc1 kV1 dc1 pm1 cd1 ct1 : Value}
    {f_uinit : Addr} {od2 an2 : Option Addr} {sl2 : Array (Option Value)} {oc2 kV2 dc2 pm2 cd2 ct2 : Value}
    {f_szof : Addr} {od3 an3 : Option Addr} {sl3 : Array (Option Value)} {oc3 kV3 dc3 pm3 cd3 ct3 : Value}
    {f_xform : Addr} {od4 an4 : Option Addr} {sl4 : Array (Option Value)} {oc4 kV4 dc4 pm4 cd4 ct4 : Value}
    {f_xname : Addr} {od5 an5 : Option Addr} {sl5 : Array (Option Value)} {oc5 kV5 dc5 pm5 cd5 ct5 : Value}
    {f_xthing : Addr} {od6 an6 : Option Addr} {sl6 : Array (Option Value)} {oc6 kV6 dc6 pm6 cd6 ct6 : Value}
    {f_xsigned : Addr} {od7 an7 : Option Addr} {sl7 : Array (Option Value)} {oc7 kV7 dc7 pm7 cd7 ct7 : Value}
    {f_xput : Addr} {od8 an8 : Option Addr} {sl8 : Array (Option Value)} {oc8 kV8 dc8 pm8 cd8 ct8 : Value}
    {f_xask : Addr} {od9 an9 : Option Addr} {sl9 : Array (Option Value)} {oc9 kV9 dc9 pm9 cd9 ct9 : Value}
    {f_xrow : Addr} {od10 an10 : Option Addr} {sl10 : Array (Option Value)} {oc10 kV10 dc10 pm10 cd10 ct10 : Value}
    {f_xrows : Addr} {od11 an11 : Option Addr} {sl11 : Array (Option Value)} {oc11 kV11 dc11 pm11 cd11 ct11 : Value}
    {f_xblock : Addr} {od12 an12 : Option Addr} {sl12 : Array (Option Value)} {oc12 kV12 dc12 pm12 cd12 ct12 : Value}
    {f_xchecked : Addr} {od13 an13 : Option Addr} {sl13 : Array (Option Value)} {oc13 kV13 dc13 pm13 cd13 ct13 : Value}
    {f_lword : Addr} {od14 an14 : Option Addr} {sl14 : Array (Option Value)} {oc14 kV14 dc14 pm14 cd14 ct14 : Value}
    {f_refusal : Addr} {od15 an15 : Option Addr} {sl15 : Array (Option Value)} {oc15 kV15 dc15 pm15 cd15 ct15 : Value}
    {f_cell_at : Addr} {od16 an16 : Option Addr} {sl16 : Array (Option Value)} {oc16 kV16 dc16 pm16 cd16 ct16 : Value}
    {f_mixed : Addr} {od17 an17 : Option Addr} {sl17 : Array (Option Value)} {oc17 kV17 dc17 pm17 cd17 ct17 : Value}
    {f_whole : Addr} {od18 an18 : Option Addr} {sl18 : Array (Option Value)} {oc18 kV18 dc18 pm18 cd18 ct18 : Value}
    {f_alike : Addr} {od19 an19 : Option Addr} {sl19 : Array (Option Value)} {oc19 kV19 dc19 pm19 cd19 ct19 : Value}
    {f_names : Addr} {od20 an20 : Option Addr} {sl20 : Array (Option Value)} {oc20 kV20 dc20 pm20 cd20 ct20 : Value}
    {f_thing : Addr} {od21 an21 : Option Addr} {sl21 : Array (Option Value)} {oc21 kV21 dc21 pm21 cd21 ct21 : Value}
    {f_sum : Addr} {od22 an22 : Option Addr} {sl22 : Array (Option Value)} {oc22 kV22 dc22 pm22 cd22 ct22 : Value}
    {f_question : Addr} {od23 an23 : Option Addr} {sl23 : Array (Option Value)} {oc23 kV23 dc23 pm23 cd23 ct23 : Value}
    {f_simple : Addr} {od24 an24 : Option Addr} {sl24 : Array (Option Value)} {oc24 kV24 dc24 pm24 cd24 ct24 : Value}
    {f_rclosed : Addr} {od25 an25 : Option Addr} {sl25 : Array (Option Value)} {oc25 kV25 dc25 pm25 cd25 ct25 : Value}
    {f_rclose : Addr} {od26 an26 : Option Addr} {sl26 : Array (Option Value)} {oc26 kV26 dc26 pm26 cd26 ct26 : Value}
    {f_block : Addr} {od27 an27 : Option Addr} {sl27 : Array (Option Value)} {oc27 kV27 dc27 pm27 cd27 ct27 : Value}
    {f_program : Addr} {od28 an28 : Option Addr} {sl28 : Array (Option Value)} {oc28 kV28 dc28 pm28 cd28 ct28 : Value}
    {f_brows : Addr} {od29 an29 : Option Addr} {sl29 : Array (Option Value)} {oc29 kV29 dc29 pm29 cd29 ct29 : Value}
    {f_bnames : Addr} {od30 an30 : Option Addr} {sl30 : Array (Option Value)} {oc30 kV30 dc30 pm30 cd30 ct30 : Value}
    {f_btwice : Addr} {od31 an31 : Option Addr} {sl31 : Array (Option Value)} {oc31 kV31 dc31 pm31 cd31 ct31 : Value}
    {f_brow : Addr} {od32 an32 : Option Addr} {sl32 : Array (Option Value)} {oc32 kV32 dc32 pm32 cd32 ct32 : Value}
    {f_bprog : Addr} {od33 an33 : Option Addr} {sl33 : Array (Option Value)} {oc33 kV33 dc33 pm33 cd33 ct33 : Value}
    {f_hform : Addr} {od34 an34 : Option Addr} {sl34 : Array (Option Value)} {oc34 kV34 dc34 pm34 cd34 ct34 : Value}
    {f_spoil : Addr} {od35 an35 : Option Addr} {sl35 : Array (Option Value)} {oc35 kV35 dc35 pm35 cd35 ct35 : Value}
    {f_made : Addr} {od36 an36 : Option Addr} {sl36 : Array (Option Value)} {oc36 kV36 dc36 pm36 cd36 ct36 : Value}
    {f_holds : Addr} {od37 an37 : Option Addr} {sl37 : Array (Option Value)} {oc37 kV37 dc37 pm37 cd37 ct37 : Value}
    {f_law : Addr} {od38 an38 : Option Addr} {sl38 : Array (Option Value)} {oc38 kV38 dc38 pm38 cd38 ct38 : Value}
    {t_MOST_SIGNS : Tok}
    {t_BOUND : Tok}
    {t_MOST_BLOCKS : Tok}
    {t_MOST_LEVELS : Tok}
    {t_LETTERS : Tok}
    {t_FIGURES : Tok}
    {p_TAKEN : Addr} {dd_TAKEN : Option Addr} {its_TAKEN : Array Value} {m_TAKEN : Nat} {sl_TAKEN : Array (Option Value)}
    {p_ASKING : Addr} {dd_ASKING : Option Addr} {its_ASKING : Array Value} {m_ASKING : Nat} {sl_ASKING : Array (Option Value)}
    {p_SIGNS : Addr} {dd_SIGNS : Option Addr} {its_SIGNS : Array Value} {m_SIGNS : Nat} {sl_SIGNS : Array (Option Value)}
    (aC_UndoError : PySem.W.nsIn K mainGlobals "UndoError" = some (some (.ref K_UndoError)))
    (xL_UndoError : K.lookup K_UndoError = some (excClassObj nm_UndoError qn_UndoError K_UndoError N_UndoError bs_UndoError [.type "ValueError", .type "Exception", .type "BaseException", .type "object"] true sn_UndoError sub_UndoError ab_UndoError col_UndoError dd_UndoError m0_UndoError m1_UndoError m2_UndoError m3_UndoError m5_UndoError "ValueError.__new__"))
    (sa_UndoError : PySem.W.findIn K (.ref K_UndoError) "__setattr__" = some (some (.builtin "object.__setattr__")))
    (nb_UndoError : PySem.W.findIn K (.ref K_UndoError) "at" = some none)
    (eC_UndoError : PySem.W.subIn K (.ref K_UndoError) (.type "BaseException") = some true)
    (tC_UndoError : PySem.W.typeIn K (.ref K_UndoError) = some (.type "type"))
    (kC_UndoError : PySem.W.keepIn K (.ref K_UndoError) = true)
    (hC_UndoError : PySem.W.hasDictIn K K_UndoError = true)
    (aC_BadProgram : PySem.W.nsIn K mainGlobals "BadProgram" = some (some (.ref K_BadProgram)))
    (xL_BadProgram : K.lookup K_BadProgram = some (excClassObj nm_BadProgram qn_BadProgram K_BadProgram N_BadProgram bs_BadProgram [.ref K_UndoError, .type "ValueError", .type "Exception", .type "BaseException", .type "object"] true sn_BadProgram sub_BadProgram ab_BadProgram col_BadProgram dd_BadProgram m0_BadProgram m1_BadProgram m2_BadProgram m3_BadProgram m5_BadProgram "ValueError.__new__"))
    (sa_BadProgram : PySem.W.findIn K (.ref K_BadProgram) "__setattr__" = some (some (.builtin "object.__setattr__")))
    (nb_BadProgram : PySem.W.findIn K (.ref K_BadProgram) "at" = some none)
    (eC_BadProgram : PySem.W.subIn K (.ref K_BadProgram) (.type "BaseException") = some true)
    (tC_BadProgram : PySem.W.typeIn K (.ref K_BadProgram) = some (.type "type"))
    (kC_BadProgram : PySem.W.keepIn K (.ref K_BadProgram) = true)
    (hC_BadProgram : PySem.W.hasDictIn K K_BadProgram = true)
    (a1_BadProgram : PySem.W.findIn K (.ref K_BadProgram) "__init__" = some (some (.ref f_uinit)))
    (aC_BadRow : PySem.W.nsIn K mainGlobals "BadRow" = some (some (.ref K_BadRow)))
    (xL_BadRow : K.lookup K_BadRow = some (excClassObj nm_BadRow qn_BadRow K_BadRow N_BadRow bs_BadRow [.ref K_UndoError, .type "ValueError", .type "Exception", .type "BaseException", .type "object"] true sn_BadRow sub_BadRow ab_BadRow col_BadRow dd_BadRow m0_BadRow m1_BadRow m2_BadRow m3_BadRow m5_BadRow "ValueError.__new__"))
    (sa_BadRow : PySem.W.findIn K (.ref K_BadRow) "__setattr__" = some (some (.builtin "object.__setattr__")))
    (nb_BadRow : PySem.W.findIn K (.ref K_BadRow) "at" = some none)
    (eC_BadRow : PySem.W.subIn K (.ref K_BadRow) (.type "BaseException") = some true)
    (tC_BadRow : PySem.W.typeIn K (.ref K_BadRow) = some (.type "type"))
    (kC_BadRow : PySem.W.keepIn K (.ref K_BadRow) = true)
    (hC_BadRow : PySem.W.hasDictIn K K_BadRow = true)
    (a1_BadRow : PySem.W.findIn K (.ref K_BadRow) "__init__" = some (some (.ref f_uinit)))
    (aC_BadName : PySem.W.nsIn K mainGlobals "BadName" = some (some (.ref K_BadName)))
    (xL_BadName : K.lookup K_BadName = some (excClassObj nm_BadName qn_BadName K_BadName N_BadName bs_BadName [.ref K_UndoError, .type "ValueError", .type "Exception", .type "BaseException", .type "object"] true sn_BadName sub_BadName ab_BadName col_BadName dd_BadName m0_BadName m1_BadName m2_BadName m3_BadName m5_BadName "ValueError.__new__"))
    (sa_BadName : PySem.W.findIn K (.ref K_BadName) "__setattr__" = some (some (.builtin "object.__setattr__")))
    (nb_BadName : PySem.W.findIn K (.ref K_BadName) "at" = some none)
    (eC_BadName : PySem.W.subIn K (.ref K_BadName) (.type "BaseException") = some true)
    (tC_BadName : PySem.W.typeIn K (.ref K_BadName) = some (.type "type"))
    (kC_BadName : PySem.W.keepIn K (.ref K_BadName) = true)
    (hC_BadName : PySem.W.hasDictIn K K_BadName = true)
    (a1_BadName : PySem.W.findIn K (.ref K_BadName) "__init__" = some (some (.ref f_uinit)))
    (aC_BadNumber : PySem.W.nsIn K mainGlobals "BadNumber" = some (some (.ref K_BadNumber)))
    (xL_BadNumber : K.lookup K_BadNumber = some (excClassObj nm_BadNumber qn_BadNumber K_BadNumber N_BadNumber bs_BadNumber [.ref K_UndoError, .type "ValueError", .type "Exception", .type "BaseException", .type "object"] true sn_BadNumber sub_BadNumber ab_BadNumber col_BadNumber dd_BadNumber m0_BadNumber m1_BadNumber m2_BadNumber m3_BadNumber m5_BadNumber "ValueError.__new__"))
    (sa_BadNumber : PySem.W.findIn K (.ref K_BadNumber) "__setattr__" = some (some (.builtin "object.__setattr__")))
    (nb_BadNumber : PySem.W.findIn K (.ref K_BadNumber) "at" = some none)
    (eC_BadNumber : PySem.W.subIn K (.ref K_BadNumber) (.type "BaseException") = some true)
    (tC_BadNumber : PySem.W.typeIn K (.ref K_BadNumber) = some (.type "type"))
    (kC_BadNumber : PySem.W.keepIn K (.ref K_BadNumber) = true)
    (hC_BadNumber : PySem.W.hasDictIn K K_BadNumber = true)
    (a1_BadNumber : PySem.W.findIn K (.ref K_BadNumber) "__init__" = some (some (.ref f_uinit)))
    (aC_OwnBox : PySem.W.nsIn K mainGlobals "OwnBox" = some (some (.ref K_OwnBox)))
    (xL_OwnBox : K.lookup K_OwnBox = some (excClassObj nm_OwnBox qn_OwnBox K_OwnBox N_OwnBox bs_OwnBox [.ref K_UndoError, .type "ValueError", .type "Exception", .type "BaseException", .type "object"] true sn_OwnBox sub_OwnBox ab_OwnBox col_OwnBox dd_OwnBox m0_OwnBox m1_OwnBox m2_OwnBox m3_OwnBox m5_OwnBox "ValueError.__new__"))
    (sa_OwnBox : PySem.W.findIn K (.ref K_OwnBox) "__setattr__" = some (some (.builtin "object.__setattr__")))
    (nb_OwnBox : PySem.W.findIn K (.ref K_OwnBox) "at" = some none)
    (eC_OwnBox : PySem.W.subIn K (.ref K_OwnBox) (.type "BaseException") = some true)
    (tC_OwnBox : PySem.W.typeIn K (.ref K_OwnBox) = some (.type "type"))
    (kC_OwnBox : PySem.W.keepIn K (.ref K_OwnBox) = true)
    (hC_OwnBox : PySem.W.hasDictIn K K_OwnBox = true)
    (a1_OwnBox : PySem.W.findIn K (.ref K_OwnBox) "__init__" = some (some (.ref f_uinit)))
    (aC_TooDeep : PySem.W.nsIn K mainGlobals "TooDeep" = some (some (.ref K_TooDeep)))
    (xL_TooDeep : K.lookup K_TooDeep = some (excClassObj nm_TooDeep qn_TooDeep K_TooDeep N_TooDeep bs_TooDeep [.ref K_UndoError, .type "ValueError", .type "Exception", .type "BaseException", .type "object"] true sn_TooDeep sub_TooDeep ab_TooDeep col_TooDeep dd_TooDeep m0_TooDeep m1_TooDeep m2_TooDeep m3_TooDeep m5_TooDeep "ValueError.__new__"))
    (sa_TooDeep : PySem.W.findIn K (.ref K_TooDeep) "__setattr__" = some (some (.builtin "object.__setattr__")))
    (nb_TooDeep : PySem.W.findIn K (.ref K_TooDeep) "at" = some none)
    (eC_TooDeep : PySem.W.subIn K (.ref K_TooDeep) (.type "BaseException") = some true)
    (tC_TooDeep : PySem.W.typeIn K (.ref K_TooDeep) = some (.type "type"))
    (kC_TooDeep : PySem.W.keepIn K (.ref K_TooDeep) = true)
    (hC_TooDeep : PySem.W.hasDictIn K K_TooDeep = true)
    (a1_TooDeep : PySem.W.findIn K (.ref K_TooDeep) "__init__" = some (some (.ref f_uinit)))
    (aC_BadLine : PySem.W.nsIn K mainGlobals "BadLine" = some (some (.ref K_BadLine)))
    (xL_BadLine : K.lookup K_BadLine = some (excClassObj nm_BadLine qn_BadLine K_BadLine N_BadLine bs_BadLine [.ref K_UndoError, .type "ValueError", .type "Exception", .type "BaseException", .type "object"] true sn_BadLine sub_BadLine ab_BadLine col_BadLine dd_BadLine m0_BadLine m1_BadLine m2_BadLine m3_BadLine m5_BadLine "ValueError.__new__"))
    (sa_BadLine : PySem.W.findIn K (.ref K_BadLine) "__setattr__" = some (some (.builtin "object.__setattr__")))
    (nb_BadLine : PySem.W.findIn K (.ref K_BadLine) "at" = some none)
    (eC_BadLine : PySem.W.subIn K (.ref K_BadLine) (.type "BaseException") = some true)
    (tC_BadLine : PySem.W.typeIn K (.ref K_BadLine) = some (.type "type"))
    (kC_BadLine : PySem.W.keepIn K (.ref K_BadLine) = true)
    (hC_BadLine : PySem.W.hasDictIn K K_BadLine = true)
    (a1_BadLine : PySem.W.findIn K (.ref K_BadLine) "__init__" = some (some (.ref f_uinit)))
    (tI : PySem.W.typeIn K (.ref f_uinit) = some (.type "function")) (vV : PySem.W.findCls K (.type "ValueError") (.type "type") "__init__" = some (.val (.builtin "ValueError.__init__")))
    (hsp : PySem.W.specialIn K (.builtin "object.__class__") "__get__" = some (some (.builtin "getset_descriptor.__get__"))) (htk : PySem.W.takesIn K (.builtin "object.__class__") = some true)
    (ga_BadProgram : PySem.W.findIn K (.ref K_BadProgram) "__getattribute__" = some (some (.builtin "BaseException.__getattribute__")))
    (gg_BadProgram : PySem.W.findIn K (.ref K_BadProgram) "__getattr__" = some none)
    (ca_BadProgram : PySem.W.findIn K (.ref K_BadProgram) "__class__" = some (some (.builtin "object.__class__")))
    (mo_BadProgram : PySem.W.mroIn K K_BadProgram (.type "object") = some true)
    (sb_BadProgram : PySem.W.subIn K (.ref K_BadProgram) (.ref K_UndoError) = some true)
    (ss_BadProgram : PySem.W.subIn K (.ref K_BadProgram) (.ref K_BadProgram) = some true)
    (is_BadProgram_BadProgram : PySem.W.subIn K (.ref K_BadProgram) (.ref K_BadProgram) = some true)
    (is_BadProgram_BadRow : PySem.W.subIn K (.ref K_BadProgram) (.ref K_BadRow) = some false)
    (is_BadProgram_BadName : PySem.W.subIn K (.ref K_BadProgram) (.ref K_BadName) = some false)
    (is_BadProgram_BadNumber : PySem.W.subIn K (.ref K_BadProgram) (.ref K_BadNumber) = some false)
    (is_BadProgram_OwnBox : PySem.W.subIn K (.ref K_BadProgram) (.ref K_OwnBox) = some false)
    (is_BadProgram_TooDeep : PySem.W.subIn K (.ref K_BadProgram) (.ref K_TooDeep) = some false)
    (is_BadProgram_BadLine : PySem.W.subIn K (.ref K_BadProgram) (.ref K_BadLine) = some false)
    (is_BadProgram_ValueError : PySem.W.subIn K (.ref K_BadProgram) (.type "ValueError") = some true)
    (ga_BadRow : PySem.W.findIn K (.ref K_BadRow) "__getattribute__" = some (some (.builtin "BaseException.__getattribute__")))
    (gg_BadRow : PySem.W.findIn K (.ref K_BadRow) "__getattr__" = some none)
    (ca_BadRow : PySem.W.findIn K (.ref K_BadRow) "__class__" = some (some (.builtin "object.__class__")))
    (mo_BadRow : PySem.W.mroIn K K_BadRow (.type "object") = some true)
    (sb_BadRow : PySem.W.subIn K (.ref K_BadRow) (.ref K_UndoError) = some true)
    (ss_BadRow : PySem.W.subIn K (.ref K_BadRow) (.ref K_BadRow) = some true)
    (is_BadRow_BadProgram : PySem.W.subIn K (.ref K_BadRow) (.ref K_BadProgram) = some false)
    (is_BadRow_BadRow : PySem.W.subIn K (.ref K_BadRow) (.ref K_BadRow) = some true)
    (is_BadRow_BadName : PySem.W.subIn K (.ref K_BadRow) (.ref K_BadName) = some false)
    (is_BadRow_BadNumber : PySem.W.subIn K (.ref K_BadRow) (.ref K_BadNumber) = some false)
    (is_BadRow_OwnBox : PySem.W.subIn K (.ref K_BadRow) (.ref K_OwnBox) = some false)
    (is_BadRow_TooDeep : PySem.W.subIn K (.ref K_BadRow) (.ref K_TooDeep) = some false)
    (is_BadRow_BadLine : PySem.W.subIn K (.ref K_BadRow) (.ref K_BadLine) = some false)
    (is_BadRow_ValueError : PySem.W.subIn K (.ref K_BadRow) (.type "ValueError") = some true)
    (ga_BadName : PySem.W.findIn K (.ref K_BadName) "__getattribute__" = some (some (.builtin "BaseException.__getattribute__")))
    (gg_BadName : PySem.W.findIn K (.ref K_BadName) "__getattr__" = some none)
    (ca_BadName : PySem.W.findIn K (.ref K_BadName) "__class__" = some (some (.builtin "object.__class__")))
    (mo_BadName : PySem.W.mroIn K K_BadName (.type "object") = some true)
    (sb_BadName : PySem.W.subIn K (.ref K_BadName) (.ref K_UndoError) = some true)
    (ss_BadName : PySem.W.subIn K (.ref K_BadName) (.ref K_BadName) = some true)
    (is_BadName_BadProgram : PySem.W.subIn K (.ref K_BadName) (.ref K_BadProgram) = some false)
    (is_BadName_BadRow : PySem.W.subIn K (.ref K_BadName) (.ref K_BadRow) = some false)
    (is_BadName_BadName : PySem.W.subIn K (.ref K_BadName) (.ref K_BadName) = some true)
    (is_BadName_BadNumber : PySem.W.subIn K (.ref K_BadName) (.ref K_BadNumber) = some false)
    (is_BadName_OwnBox : PySem.W.subIn K (.ref K_BadName) (.ref K_OwnBox) = some false)
    (is_BadName_TooDeep : PySem.W.subIn K (.ref K_BadName) (.ref K_TooDeep) = some false)
    (is_BadName_BadLine : PySem.W.subIn K (.ref K_BadName) (.ref K_BadLine) = some false)
    (is_BadName_ValueError : PySem.W.subIn K (.ref K_BadName) (.type "ValueError") = some true)
    (ga_BadNumber : PySem.W.findIn K (.ref K_BadNumber) "__getattribute__" = some (some (.builtin "BaseException.__getattribute__")))
    (gg_BadNumber : PySem.W.findIn K (.ref K_BadNumber) "__getattr__" = some none)
    (ca_BadNumber : PySem.W.findIn K (.ref K_BadNumber) "__class__" = some (some (.builtin "object.__class__")))
    (mo_BadNumber : PySem.W.mroIn K K_BadNumber (.type "object") = some true)
    (sb_BadNumber : PySem.W.subIn K (.ref K_BadNumber) (.ref K_UndoError) = some true)
    (ss_BadNumber : PySem.W.subIn K (.ref K_BadNumber) (.ref K_BadNumber) = some true)
    (is_BadNumber_BadProgram : PySem.W.subIn K (.ref K_BadNumber) (.ref K_BadProgram) = some false)
    (is_BadNumber_BadRow : PySem.W.subIn K (.ref K_BadNumber) (.ref K_BadRow) = some false)
    (is_BadNumber_BadName : PySem.W.subIn K (.ref K_BadNumber) (.ref K_BadName) = some false)
    (is_BadNumber_BadNumber : PySem.W.subIn K (.ref K_BadNumber) (.ref K_BadNumber) = some true)
    (is_BadNumber_OwnBox : PySem.W.subIn K (.ref K_BadNumber) (.ref K_OwnBox) = some false)
    (is_BadNumber_TooDeep : PySem.W.subIn K (.ref K_BadNumber) (.ref K_TooDeep) = some false)
    (is_BadNumber_BadLine : PySem.W.subIn K (.ref K_BadNumber) (.ref K_BadLine) = some false)
    (is_BadNumber_ValueError : PySem.W.subIn K (.ref K_BadNumber) (.type "ValueError") = some true)
    (ga_OwnBox : PySem.W.findIn K (.ref K_OwnBox) "__getattribute__" = some (some (.builtin "BaseException.__getattribute__")))
    (gg_OwnBox : PySem.W.findIn K (.ref K_OwnBox) "__getattr__" = some none)
    (ca_OwnBox : PySem.W.findIn K (.ref K_OwnBox) "__class__" = some (some (.builtin "object.__class__")))
    (mo_OwnBox : PySem.W.mroIn K K_OwnBox (.type "object") = some true)
    (sb_OwnBox : PySem.W.subIn K (.ref K_OwnBox) (.ref K_UndoError) = some true)
    (ss_OwnBox : PySem.W.subIn K (.ref K_OwnBox) (.ref K_OwnBox) = some true)
    (is_OwnBox_BadProgram : PySem.W.subIn K (.ref K_OwnBox) (.ref K_BadProgram) = some false)
    (is_OwnBox_BadRow : PySem.W.subIn K (.ref K_OwnBox) (.ref K_BadRow) = some false)
    (is_OwnBox_BadName : PySem.W.subIn K (.ref K_OwnBox) (.ref K_BadName) = some false)
    (is_OwnBox_BadNumber : PySem.W.subIn K (.ref K_OwnBox) (.ref K_BadNumber) = some false)
    (is_OwnBox_OwnBox : PySem.W.subIn K (.ref K_OwnBox) (.ref K_OwnBox) = some true)
    (is_OwnBox_TooDeep : PySem.W.subIn K (.ref K_OwnBox) (.ref K_TooDeep) = some false)
    (is_OwnBox_BadLine : PySem.W.subIn K (.ref K_OwnBox) (.ref K_BadLine) = some false)
    (is_OwnBox_ValueError : PySem.W.subIn K (.ref K_OwnBox) (.type "ValueError") = some true)
    (ga_TooDeep : PySem.W.findIn K (.ref K_TooDeep) "__getattribute__" = some (some (.builtin "BaseException.__getattribute__")))
    (gg_TooDeep : PySem.W.findIn K (.ref K_TooDeep) "__getattr__" = some none)
    (ca_TooDeep : PySem.W.findIn K (.ref K_TooDeep) "__class__" = some (some (.builtin "object.__class__")))
    (mo_TooDeep : PySem.W.mroIn K K_TooDeep (.type "object") = some true)
    (sb_TooDeep : PySem.W.subIn K (.ref K_TooDeep) (.ref K_UndoError) = some true)
    (ss_TooDeep : PySem.W.subIn K (.ref K_TooDeep) (.ref K_TooDeep) = some true)
    (is_TooDeep_BadProgram : PySem.W.subIn K (.ref K_TooDeep) (.ref K_BadProgram) = some false)
    (is_TooDeep_BadRow : PySem.W.subIn K (.ref K_TooDeep) (.ref K_BadRow) = some false)
    (is_TooDeep_BadName : PySem.W.subIn K (.ref K_TooDeep) (.ref K_BadName) = some false)
    (is_TooDeep_BadNumber : PySem.W.subIn K (.ref K_TooDeep) (.ref K_BadNumber) = some false)
    (is_TooDeep_OwnBox : PySem.W.subIn K (.ref K_TooDeep) (.ref K_OwnBox) = some false)
    (is_TooDeep_TooDeep : PySem.W.subIn K (.ref K_TooDeep) (.ref K_TooDeep) = some true)
    (is_TooDeep_BadLine : PySem.W.subIn K (.ref K_TooDeep) (.ref K_BadLine) = some false)
    (is_TooDeep_ValueError : PySem.W.subIn K (.ref K_TooDeep) (.type "ValueError") = some true)
    (ga_UndoError : PySem.W.findIn K (.ref K_UndoError) "__getattribute__" = some (some (.builtin "BaseException.__getattribute__")))
    (gg_UndoError : PySem.W.findIn K (.ref K_UndoError) "__getattr__" = some none)
    (ga_BadLine : PySem.W.findIn K (.ref K_BadLine) "__getattribute__" = some (some (.builtin "BaseException.__getattribute__")))
    (gg_BadLine : PySem.W.findIn K (.ref K_BadLine) "__getattr__" = some none)
    (a0 : PySem.W.nsIn K mainGlobals "is_name" = some (some (.ref f_is_name)))
    (l0 : K.lookup f_is_name = some ⟨oc0, od0, .func (PySem.W.fnOf "is_name" "is_name" (defArgs s_is_name) (defBody s_is_name) (defScope s_is_name) .none kV0 dc0 pm0 an0 cd0 ct0), sl0⟩)
    (c0 : PySem.W.codeIn K cd0 "is_name" = true) (k0 : PySem.W.keepIn K (.ref f_is_name) = true)
    (a1 : PySem.W.nsIn K mainGlobals "is_number" = some (some (.ref f_is_number)))
    (l1 : K.lookup f_is_number = some ⟨oc1, od1, .func (PySem.W.fnOf "is_number" "is_number" (defArgs s_is_number) (defBody s_is_number) (defScope s_is_number) .none kV1 dc1 pm1 an1 cd1 ct1), sl1⟩)
    (c1 : PySem.W.codeIn K cd1 "is_number" = true) (k1 : PySem.W.keepIn K (.ref f_is_number) = true)
    (a2 : PySem.W.findIn K (.ref K_UndoError) "__init__" = some (some (.ref f_uinit))) (i2 : PySem.W.isFn K (.ref f_uinit) = true)
    (l2 : K.lookup f_uinit = some ⟨oc2, od2, .func (PySem.W.fnOf "__init__" "UndoError.__init__" (defArgs s_uinit) (defBody s_uinit) (defScope s_uinit) .none kV2 dc2 pm2 an2 cd2 ct2), sl2⟩)
    (c2 : PySem.W.codeIn K cd2 "UndoError.__init__" = true) (k2 : PySem.W.keepIn K (.ref f_uinit) = true)
    (a3 : PySem.W.nsIn K mainGlobals "size_of" = some (some (.ref f_szof)))
    (l3 : K.lookup f_szof = some ⟨oc3, od3, .func (PySem.W.fnOf "size_of" "size_of" (defArgs s_szof) (defBody s_szof) (defScope s_szof) .none kV3 dc3 pm3 an3 cd3 ct3), sl3⟩)
    (c3 : PySem.W.codeIn K cd3 "size_of" = true) (k3 : PySem.W.keepIn K (.ref f_szof) = true)
    (a4 : PySem.W.nsIn K mainGlobals "need_form" = some (some (.ref f_xform)))
    (l4 : K.lookup f_xform = some ⟨oc4, od4, .func (PySem.W.fnOf "need_form" "need_form" (defArgs s_xform) (defBody s_xform) (defScope s_xform) .none kV4 dc4 pm4 an4 cd4 ct4), sl4⟩)
    (c4 : PySem.W.codeIn K cd4 "need_form" = true) (k4 : PySem.W.keepIn K (.ref f_xform) = true)
    (a5 : PySem.W.nsIn K mainGlobals "need_name" = some (some (.ref f_xname)))
    (l5 : K.lookup f_xname = some ⟨oc5, od5, .func (PySem.W.fnOf "need_name" "need_name" (defArgs s_xname) (defBody s_xname) (defScope s_xname) .none kV5 dc5 pm5 an5 cd5 ct5), sl5⟩)
    (c5 : PySem.W.codeIn K cd5 "need_name" = true) (k5 : PySem.W.keepIn K (.ref f_xname) = true)
    (a6 : PySem.W.nsIn K mainGlobals "need_thing" = some (some (.ref f_xthing)))
    (l6 : K.lookup f_xthing = some ⟨oc6, od6, .func (PySem.W.fnOf "need_thing" "need_thing" (defArgs s_xthing) (defBody s_xthing) (defScope s_xthing) .none kV6 dc6 pm6 an6 cd6 ct6), sl6⟩)
    (c6 : PySem.W.codeIn K cd6 "need_thing" = true) (k6 : PySem.W.keepIn K (.ref f_xthing) = true)
    (a7 : PySem.W.nsIn K mainGlobals "need_signed" = some (some (.ref f_xsigned)))
    (l7 : K.lookup f_xsigned = some ⟨oc7, od7, .func (PySem.W.fnOf "need_signed" "need_signed" (defArgs s_xsigned) (defBody s_xsigned) (defScope s_xsigned) .none kV7 dc7 pm7 an7 cd7 ct7), sl7⟩)
    (c7 : PySem.W.codeIn K cd7 "need_signed" = true) (k7 : PySem.W.keepIn K (.ref f_xsigned) = true)
    (a8 : PySem.W.nsIn K mainGlobals "need_put" = some (some (.ref f_xput)))
    (l8 : K.lookup f_xput = some ⟨oc8, od8, .func (PySem.W.fnOf "need_put" "need_put" (defArgs s_xput) (defBody s_xput) (defScope s_xput) .none kV8 dc8 pm8 an8 cd8 ct8), sl8⟩)
    (c8 : PySem.W.codeIn K cd8 "need_put" = true) (k8 : PySem.W.keepIn K (.ref f_xput) = true)
    (a9 : PySem.W.nsIn K mainGlobals "need_asking" = some (some (.ref f_xask)))
    (l9 : K.lookup f_xask = some ⟨oc9, od9, .func (PySem.W.fnOf "need_asking" "need_asking" (defArgs s_xask) (defBody s_xask) (defScope s_xask) .none kV9 dc9 pm9 an9 cd9 ct9), sl9⟩)
    (c9 : PySem.W.codeIn K cd9 "need_asking" = true) (k9 : PySem.W.keepIn K (.ref f_xask) = true)
    (a10 : PySem.W.nsIn K mainGlobals "counted_row" = some (some (.ref f_xrow)))
    (l10 : K.lookup f_xrow = some ⟨oc10, od10, .func (PySem.W.fnOf "counted_row" "counted_row" (defArgs s_xrow) (defBody s_xrow) (defScope s_xrow) .none kV10 dc10 pm10 an10 cd10 ct10), sl10⟩)
    (c10 : PySem.W.codeIn K cd10 "counted_row" = true) (k10 : PySem.W.keepIn K (.ref f_xrow) = true)
    (a11 : PySem.W.nsIn K mainGlobals "counted" = some (some (.ref f_xrows)))
    (l11 : K.lookup f_xrows = some ⟨oc11, od11, .func (PySem.W.fnOf "counted" "counted" (defArgs s_xrows) (defBody s_xrows) (defScope s_xrows) .none kV11 dc11 pm11 an11 cd11 ct11), sl11⟩)
    (c11 : PySem.W.codeIn K cd11 "counted" = true) (k11 : PySem.W.keepIn K (.ref f_xrows) = true)
    (a12 : PySem.W.nsIn K mainGlobals "need_block" = some (some (.ref f_xblock)))
    (l12 : K.lookup f_xblock = some ⟨oc12, od12, .func (PySem.W.fnOf "need_block" "need_block" (defArgs s_xblock) (defBody s_xblock) (defScope s_xblock) .none kV12 dc12 pm12 an12 cd12 ct12), sl12⟩)
    (c12 : PySem.W.codeIn K cd12 "need_block" = true) (k12 : PySem.W.keepIn K (.ref f_xblock) = true)
    (a13 : PySem.W.nsIn K mainGlobals "checked" = some (some (.ref f_xchecked)))
    (l13 : K.lookup f_xchecked = some ⟨oc13, od13, .func (PySem.W.fnOf "checked" "checked" (defArgs s_xchecked) (defBody s_xchecked) (defScope s_xchecked) .none kV13 dc13 pm13 an13 cd13 ct13), sl13⟩)
    (c13 : PySem.W.codeIn K cd13 "checked" = true) (k13 : PySem.W.keepIn K (.ref f_xchecked) = true)
    (a14 : PySem.W.nsIn K mainGlobals "_law_word" = some (some (.ref f_lword)))
    (l14 : K.lookup f_lword = some ⟨oc14, od14, .func (PySem.W.fnOf "_law_word" "_law_word" (defArgs s_lword) (defBody s_lword) (defScope s_lword) .none kV14 dc14 pm14 an14 cd14 ct14), sl14⟩)
    (c14 : PySem.W.codeIn K cd14 "_law_word" = true) (k14 : PySem.W.keepIn K (.ref f_lword) = true)
    (a15 : PySem.W.nsIn K mainGlobals "_law_refusal" = some (some (.ref f_refusal)))
    (l15 : K.lookup f_refusal = some ⟨oc15, od15, .func (PySem.W.fnOf "_law_refusal" "_law_refusal" (defArgs s_refusal) (defBody s_refusal) (defScope s_refusal) .none kV15 dc15 pm15 an15 cd15 ct15), sl15⟩)
    (c15 : PySem.W.codeIn K cd15 "_law_refusal" = true) (k15 : PySem.W.keepIn K (.ref f_refusal) = true)
    (a16 : PySem.W.nsIn K mainGlobals "_law_cell_at" = some (some (.ref f_cell_at)))
    (l16 : K.lookup f_cell_at = some ⟨oc16, od16, .func (PySem.W.fnOf "_law_cell_at" "_law_cell_at" (defArgs s_cell_at) (defBody s_cell_at) (defScope s_cell_at) .none kV16 dc16 pm16 an16 cd16 ct16), sl16⟩)
    (c16 : PySem.W.codeIn K cd16 "_law_cell_at" = true) (k16 : PySem.W.keepIn K (.ref f_cell_at) = true)
    (a17 : PySem.W.nsIn K mainGlobals "_law_mixed" = some (some (.ref f_mixed)))
    (l17 : K.lookup f_mixed = some ⟨oc17, od17, .func (PySem.W.fnOf "_law_mixed" "_law_mixed" (defArgs s_mixed) (defBody s_mixed) (defScope s_mixed) .none kV17 dc17 pm17 an17 cd17 ct17), sl17⟩)
    (c17 : PySem.W.codeIn K cd17 "_law_mixed" = true) (k17 : PySem.W.keepIn K (.ref f_mixed) = true)
    (a18 : PySem.W.nsIn K mainGlobals "_law_whole" = some (some (.ref f_whole)))
    (l18 : K.lookup f_whole = some ⟨oc18, od18, .func (PySem.W.fnOf "_law_whole" "_law_whole" (defArgs s_whole) (defBody s_whole) (defScope s_whole) .none kV18 dc18 pm18 an18 cd18 ct18), sl18⟩)
    (c18 : PySem.W.codeIn K cd18 "_law_whole" = true) (k18 : PySem.W.keepIn K (.ref f_whole) = true)
    (a19 : PySem.W.nsIn K mainGlobals "_law_alike" = some (some (.ref f_alike)))
    (l19 : K.lookup f_alike = some ⟨oc19, od19, .func (PySem.W.fnOf "_law_alike" "_law_alike" (defArgs s_alike) (defBody s_alike) (defScope s_alike) .none kV19 dc19 pm19 an19 cd19 ct19), sl19⟩)
    (c19 : PySem.W.codeIn K cd19 "_law_alike" = true) (k19 : PySem.W.keepIn K (.ref f_alike) = true)
    (a20 : PySem.W.nsIn K mainGlobals "_law_names" = some (some (.ref f_names)))
    (l20 : K.lookup f_names = some ⟨oc20, od20, .func (PySem.W.fnOf "_law_names" "_law_names" (defArgs s_names) (defBody s_names) (defScope s_names) .none kV20 dc20 pm20 an20 cd20 ct20), sl20⟩)
    (c20 : PySem.W.codeIn K cd20 "_law_names" = true) (k20 : PySem.W.keepIn K (.ref f_names) = true)
    (a21 : PySem.W.nsIn K mainGlobals "_law_thing" = some (some (.ref f_thing)))
    (l21 : K.lookup f_thing = some ⟨oc21, od21, .func (PySem.W.fnOf "_law_thing" "_law_thing" (defArgs s_thing) (defBody s_thing) (defScope s_thing) .none kV21 dc21 pm21 an21 cd21 ct21), sl21⟩)
    (c21 : PySem.W.codeIn K cd21 "_law_thing" = true) (k21 : PySem.W.keepIn K (.ref f_thing) = true)
    (a22 : PySem.W.nsIn K mainGlobals "_law_sum" = some (some (.ref f_sum)))
    (l22 : K.lookup f_sum = some ⟨oc22, od22, .func (PySem.W.fnOf "_law_sum" "_law_sum" (defArgs s_sum) (defBody s_sum) (defScope s_sum) .none kV22 dc22 pm22 an22 cd22 ct22), sl22⟩)
    (c22 : PySem.W.codeIn K cd22 "_law_sum" = true) (k22 : PySem.W.keepIn K (.ref f_sum) = true)
    (a23 : PySem.W.nsIn K mainGlobals "_law_question" = some (some (.ref f_question)))
    (l23 : K.lookup f_question = some ⟨oc23, od23, .func (PySem.W.fnOf "_law_question" "_law_question" (defArgs s_question) (defBody s_question) (defScope s_question) .none kV23 dc23 pm23 an23 cd23 ct23), sl23⟩)
    (c23 : PySem.W.codeIn K cd23 "_law_question" = true) (k23 : PySem.W.keepIn K (.ref f_question) = true)
    (a24 : PySem.W.nsIn K mainGlobals "_law_simple" = some (some (.ref f_simple)))
    (l24 : K.lookup f_simple = some ⟨oc24, od24, .func (PySem.W.fnOf "_law_simple" "_law_simple" (defArgs s_simple) (defBody s_simple) (defScope s_simple) .none kV24 dc24 pm24 an24 cd24 ct24), sl24⟩)
    (c24 : PySem.W.codeIn K cd24 "_law_simple" = true) (k24 : PySem.W.keepIn K (.ref f_simple) = true)
    (a25 : PySem.W.nsIn K mainGlobals "_law_closed" = some (some (.ref f_rclosed)))
    (l25 : K.lookup f_rclosed = some ⟨oc25, od25, .func (PySem.W.fnOf "_law_closed" "_law_closed" (defArgs s_rclosed) (defBody s_rclosed) (defScope s_rclosed) .none kV25 dc25 pm25 an25 cd25 ct25), sl25⟩)
    (c25 : PySem.W.codeIn K cd25 "_law_closed" = true) (k25 : PySem.W.keepIn K (.ref f_rclosed) = true)
    (a26 : PySem.W.nsIn K mainGlobals "_law_close" = some (some (.ref f_rclose)))
    (l26 : K.lookup f_rclose = some ⟨oc26, od26, .func (PySem.W.fnOf "_law_close" "_law_close" (defArgs s_rclose) (defBody s_rclose) (defScope s_rclose) .none kV26 dc26 pm26 an26 cd26 ct26), sl26⟩)
    (c26 : PySem.W.codeIn K cd26 "_law_close" = true) (k26 : PySem.W.keepIn K (.ref f_rclose) = true)
    (a27 : PySem.W.nsIn K mainGlobals "_law_block_rows" = some (some (.ref f_block)))
    (l27 : K.lookup f_block = some ⟨oc27, od27, .func (PySem.W.fnOf "_law_block_rows" "_law_block_rows" (defArgs s_block) (defBody s_block) (defScope s_block) .none kV27 dc27 pm27 an27 cd27 ct27), sl27⟩)
    (c27 : PySem.W.codeIn K cd27 "_law_block_rows" = true) (k27 : PySem.W.keepIn K (.ref f_block) = true)
    (a28 : PySem.W.nsIn K mainGlobals "_law_program" = some (some (.ref f_program)))
    (l28 : K.lookup f_program = some ⟨oc28, od28, .func (PySem.W.fnOf "_law_program" "_law_program" (defArgs s_program) (defBody s_program) (defScope s_program) .none kV28 dc28 pm28 an28 cd28 ct28), sl28⟩)
    (c28 : PySem.W.codeIn K cd28 "_law_program" = true) (k28 : PySem.W.keepIn K (.ref f_program) = true)
    (a29 : PySem.W.nsIn K mainGlobals "_law_bad_rows" = some (some (.ref f_brows)))
    (l29 : K.lookup f_brows = some ⟨oc29, od29, .func (PySem.W.fnOf "_law_bad_rows" "_law_bad_rows" (defArgs s_brows) (defBody s_brows) (defScope s_brows) .none kV29 dc29 pm29 an29 cd29 ct29), sl29⟩)
    (c29 : PySem.W.codeIn K cd29 "_law_bad_rows" = true) (k29 : PySem.W.keepIn K (.ref f_brows) = true)
    (a30 : PySem.W.nsIn K mainGlobals "_law_bad_names" = some (some (.ref f_bnames)))
    (l30 : K.lookup f_bnames = some ⟨oc30, od30, .func (PySem.W.fnOf "_law_bad_names" "_law_bad_names" (defArgs s_bnames) (defBody s_bnames) (defScope s_bnames) .none kV30 dc30 pm30 an30 cd30 ct30), sl30⟩)
    (c30 : PySem.W.codeIn K cd30 "_law_bad_names" = true) (k30 : PySem.W.keepIn K (.ref f_bnames) = true)
    (a31 : PySem.W.nsIn K mainGlobals "_law_bad_twice" = some (some (.ref f_btwice)))
    (l31 : K.lookup f_btwice = some ⟨oc31, od31, .func (PySem.W.fnOf "_law_bad_twice" "_law_bad_twice" (defArgs s_btwice) (defBody s_btwice) (defScope s_btwice) .none kV31 dc31 pm31 an31 cd31 ct31), sl31⟩)
    (c31 : PySem.W.codeIn K cd31 "_law_bad_twice" = true) (k31 : PySem.W.keepIn K (.ref f_btwice) = true)
    (a32 : PySem.W.nsIn K mainGlobals "_law_bad_row" = some (some (.ref f_brow)))
    (l32 : K.lookup f_brow = some ⟨oc32, od32, .func (PySem.W.fnOf "_law_bad_row" "_law_bad_row" (defArgs s_brow) (defBody s_brow) (defScope s_brow) .none kV32 dc32 pm32 an32 cd32 ct32), sl32⟩)
    (c32 : PySem.W.codeIn K cd32 "_law_bad_row" = true) (k32 : PySem.W.keepIn K (.ref f_brow) = true)
    (a33 : PySem.W.nsIn K mainGlobals "_law_bad_program" = some (some (.ref f_bprog)))
    (l33 : K.lookup f_bprog = some ⟨oc33, od33, .func (PySem.W.fnOf "_law_bad_program" "_law_bad_program" (defArgs s_bprog) (defBody s_bprog) (defScope s_bprog) .none kV33 dc33 pm33 an33 cd33 ct33), sl33⟩)
    (c33 : PySem.W.codeIn K cd33 "_law_bad_program" = true) (k33 : PySem.W.keepIn K (.ref f_bprog) = true)
    (a34 : PySem.W.nsIn K mainGlobals "_law_has_form" = some (some (.ref f_hform)))
    (l34 : K.lookup f_hform = some ⟨oc34, od34, .func (PySem.W.fnOf "_law_has_form" "_law_has_form" (defArgs s_hform) (defBody s_hform) (defScope s_hform) .none kV34 dc34 pm34 an34 cd34 ct34), sl34⟩)
    (c34 : PySem.W.codeIn K cd34 "_law_has_form" = true) (k34 : PySem.W.keepIn K (.ref f_hform) = true)
    (a35 : PySem.W.nsIn K mainGlobals "_law_spoil" = some (some (.ref f_spoil)))
    (l35 : K.lookup f_spoil = some ⟨oc35, od35, .func (PySem.W.fnOf "_law_spoil" "_law_spoil" (defArgs s_spoil) (defBody s_spoil) (defScope s_spoil) .none kV35 dc35 pm35 an35 cd35 ct35), sl35⟩)
    (c35 : PySem.W.codeIn K cd35 "_law_spoil" = true) (k35 : PySem.W.keepIn K (.ref f_spoil) = true)
    (a36 : PySem.W.nsIn K mainGlobals "_law_made" = some (some (.ref f_made)))
    (l36 : K.lookup f_made = some ⟨oc36, od36, .func (PySem.W.fnOf "_law_made" "_law_made" (defArgs s_made) (defBody s_made) (defScope s_made) .none kV36 dc36 pm36 an36 cd36 ct36), sl36⟩)
    (c36 : PySem.W.codeIn K cd36 "_law_made" = true) (k36 : PySem.W.keepIn K (.ref f_made) = true)
    (a37 : PySem.W.nsIn K mainGlobals "_law_holds" = some (some (.ref f_holds)))
    (l37 : K.lookup f_holds = some ⟨oc37, od37, .func (PySem.W.fnOf "_law_holds" "_law_holds" (defArgs s_holds) (defBody s_holds) (defScope s_holds) .none kV37 dc37 pm37 an37 cd37 ct37), sl37⟩)
    (c37 : PySem.W.codeIn K cd37 "_law_holds" = true) (k37 : PySem.W.keepIn K (.ref f_holds) = true)
    (a38 : PySem.W.nsIn K mainGlobals "law" = some (some (.ref f_law)))
    (l38 : K.lookup f_law = some ⟨oc38, od38, .func (PySem.W.fnOf "law" "law" (defArgs s_law) (defBody s_law) (defScope s_law) .none kV38 dc38 pm38 an38 cd38 ct38), sl38⟩)
    (c38 : PySem.W.codeIn K cd38 "law" = true) (k38 : PySem.W.keepIn K (.ref f_law) = true)
    (z_len : PySem.W.nsIn K mainGlobals "len" = some none)
    (z_isinstance : PySem.W.nsIn K mainGlobals "isinstance" = some none)
    (z_int : PySem.W.nsIn K mainGlobals "int" = some none)
    (z_str : PySem.W.nsIn K mainGlobals "str" = some none)
    (z_bool : PySem.W.nsIn K mainGlobals "bool" = some none)
    (z_all : PySem.W.nsIn K mainGlobals "all" = some none)
    (z_dict : PySem.W.nsIn K mainGlobals "dict" = some none)
    (z_list : PySem.W.nsIn K mainGlobals "list" = some none)
    (z_set : PySem.W.nsIn K mainGlobals "set" = some none)
    (z_tuple : PySem.W.nsIn K mainGlobals "tuple" = some none)
    (z_range : PySem.W.nsIn K mainGlobals "range" = some none)
    (z_ValueError : PySem.W.nsIn K mainGlobals "ValueError" = some none)
    (y_MOST_SIGNS : PySem.W.nsIn K mainGlobals "MOST_SIGNS" = some (some (.int 6 t_MOST_SIGNS)))
    (y_BOUND : PySem.W.nsIn K mainGlobals "BOUND" = some (some (.int 1000000 t_BOUND)))
    (y_MOST_BLOCKS : PySem.W.nsIn K mainGlobals "MOST_BLOCKS" = some (some (.int 12 t_MOST_BLOCKS)))
    (y_MOST_LEVELS : PySem.W.nsIn K mainGlobals "MOST_LEVELS" = some (some (.int 8 t_MOST_LEVELS)))
    (y_LETTERS : PySem.W.nsIn K mainGlobals "LETTERS" = some (some (.str "abcdefghijklmnopqrstuvwxyz" t_LETTERS)))
    (y_FIGURES : PySem.W.nsIn K mainGlobals "FIGURES" = some (some (.str "0123456789" t_FIGURES)))
    (y_TAKEN : PySem.W.nsIn K mainGlobals "TAKEN" = some (some (.ref p_TAKEN)))
    (u_TAKEN : K.lookup p_TAKEN = some ⟨.type "tuple", dd_TAKEN, .seq its_TAKEN m_TAKEN, sl_TAKEN⟩)
    (V_TAKEN : Vals ((["block", "if", "else", "fi", "from", "loop", "until", "call", "undo", "push", "pull"] : List Str).map V.str) its_TAKEN.toList)
    (y_ASKING : PySem.W.nsIn K mainGlobals "ASKING" = some (some (.ref p_ASKING)))
    (u_ASKING : K.lookup p_ASKING = some ⟨.type "tuple", dd_ASKING, .seq its_ASKING m_ASKING, sl_ASKING⟩)
    (V_ASKING : Vals ((["<", "=", ">=", "!="] : List Str).map V.str) its_ASKING.toList)
    (y_SIGNS : PySem.W.nsIn K mainGlobals "SIGNS" = some (some (.ref p_SIGNS)))
    (u_SIGNS : K.lookup p_SIGNS = some ⟨.type "tuple", dd_SIGNS, .seq its_SIGNS m_SIGNS, sl_SIGNS⟩)
    (V_SIGNS : Vals ((["+", "-", "*", "<", "=", ">=", "!="] : List Str).map V.str) its_SIGNS.toList)
    : ∃ fd : FuncData, (∀ (s : Shared) (v : Value), BindsTo s fd ⟨[v], []⟩ [("_law_script", v)]) ∧ ∀ base : Heap, K.In base → base.Ns mainGlobals mg → FnOk l.prog w K mg base CX0 28 fa fd ["_law_script"] (spP K R_law) := by
  have e := hfa.symm.trans (PySem.W.mg_of X G a38)
  cases e
  have F0 := fun_mk (st := s_is_name) l0 c0 k0
  have F1 := fun_mk (st := s_is_number) l1 c1 k1
  have F2 := fun_mk (st := s_uinit) l2 c2 k2
  have F3 := fun_mk (st := s_szof) l3 c3 k3
  have F4 := fun_mk (st := s_xform) l4 c4 k4
  have F5 := fun_mk (st := s_xname) l5 c5 k5
  have F6 := fun_mk (st := s_xthing) l6 c6 k6
  have F7 := fun_mk (st := s_xsigned) l7 c7 k7
  have F8 := fun_mk (st := s_xput) l8 c8 k8
  have F9 := fun_mk (st := s_xask) l9 c9 k9
  have F10 := fun_mk (st := s_xrow) l10 c10 k10
  have F11 := fun_mk (st := s_xrows) l11 c11 k11
  have F12 := fun_mk (st := s_xblock) l12 c12 k12
  have F13 := fun_mk (st := s_xchecked) l13 c13 k13
  have F14 := fun_mk (st := s_lword) l14 c14 k14
  have F15 := fun_mk (st := s_refusal) l15 c15 k15
  have F16 := fun_mk (st := s_cell_at) l16 c16 k16
  have F17 := fun_mk (st := s_mixed) l17 c17 k17
  have F18 := fun_mk (st := s_whole) l18 c18 k18
  have F19 := fun_mk (st := s_alike) l19 c19 k19
  have F20 := fun_mk (st := s_names) l20 c20 k20
  have F21 := fun_mk (st := s_thing) l21 c21 k21
  have F22 := fun_mk (st := s_sum) l22 c22 k22
  have F23 := fun_mk (st := s_question) l23 c23 k23
  have F24 := fun_mk (st := s_simple) l24 c24 k24
  have F25 := fun_mk (st := s_rclosed) l25 c25 k25
  have F26 := fun_mk (st := s_rclose) l26 c26 k26
  have F27 := fun_mk (st := s_block) l27 c27 k27
  have F28 := fun_mk (st := s_program) l28 c28 k28
  have F29 := fun_mk (st := s_brows) l29 c29 k29
  have F30 := fun_mk (st := s_bnames) l30 c30 k30
  have F31 := fun_mk (st := s_btwice) l31 c31 k31
  have F32 := fun_mk (st := s_brow) l32 c32 k32
  have F33 := fun_mk (st := s_bprog) l33 c33 k33
  have F34 := fun_mk (st := s_hform) l34 c34 k34
  have F35 := fun_mk (st := s_spoil) l35 c35 k35
  have F36 := fun_mk (st := s_made) l36 c36 k36
  have F37 := fun_mk (st := s_holds) l37 c37 k37
  have F38 := fun_mk (st := s_law) l38 c38 k38
  have b0 := F0.binds (ps := ["thing"]) fun _ _ _ _ _ _ us hl => match us, hl with | [_], _ => rfl
  have b1 := F1.binds (ps := ["thing"]) fun _ _ _ _ _ _ us hl => match us, hl with | [_], _ => rfl
  have b2 := F2.binds (ps := ["self", "at"]) fun _ _ _ _ _ _ us hl => match us, hl with | [_, _], _ => rfl
  have b3 := F3.binds (ps := ["word"]) fun _ _ _ _ _ _ us hl => match us, hl with | [_], _ => rfl
  have b4 := F4.binds (ps := ["row", "place"]) fun _ _ _ _ _ _ us hl => match us, hl with | [_, _], _ => rfl
  have b5 := F5.binds (ps := ["thing", "place"]) fun _ _ _ _ _ _ us hl => match us, hl with | [_, _], _ => rfl
  have b6 := F6.binds (ps := ["thing", "place"]) fun _ _ _ _ _ _ us hl => match us, hl with | [_, _], _ => rfl
  have b7 := F7.binds (ps := ["made", "signs", "place"]) fun _ _ _ _ _ _ us hl => match us, hl with | [_, _, _], _ => rfl
  have b8 := F8.binds (ps := ["row", "place"]) fun _ _ _ _ _ _ us hl => match us, hl with | [_, _], _ => rfl
  have b9 := F9.binds (ps := ["row", "place"]) fun _ _ _ _ _ _ us hl => match us, hl with | [_, _], _ => rfl
  have b10 := F10.binds (ps := ["row", "place", "level", "names"]) fun _ _ _ _ _ _ us hl => match us, hl with | [_, _, _, _], _ => rfl
  have b11 := F11.binds (ps := ["rows", "place", "level", "names"]) fun _ _ _ _ _ _ us hl => match us, hl with | [_, _, _, _], _ => rfl
  have b12 := F12.binds (ps := ["block"]) fun _ _ _ _ _ _ us hl => match us, hl with | [_], _ => rfl
  have b13 := F13.binds (ps := ["program"]) fun _ _ _ _ _ _ us hl => match us, hl with | [_], _ => rfl
  have b14 := F14.binds (ps := ["_law_e"]) fun _ _ _ _ _ _ us hl => match us, hl with | [_], _ => rfl
  have b15 := F15.binds (ps := ["_law_program_here"]) fun _ _ _ _ _ _ us hl => match us, hl with | [_], _ => rfl
  have b16 := F16.binds (ps := ["_law_script", "_law_k"]) fun _ _ _ _ _ _ us hl => match us, hl with | [_, _], _ => rfl
  have b17 := F17.binds (ps := ["_law_cell", "_law_k"]) fun _ _ _ _ _ _ us hl => match us, hl with | [_, _], _ => rfl
  have b18 := F18.binds (ps := ["_law_found"]) fun _ _ _ _ _ _ us hl => match us, hl with | [_], _ => rfl
  have b19 := F19.binds (ps := ["_law_found", "_law_due"]) fun _ _ _ _ _ _ us hl => match us, hl with | [_, _], _ => rfl
  have b20 := F20.binds (ps := ["_law_cell"]) fun _ _ _ _ _ _ us hl => match us, hl with | [_], _ => rfl
  have b21 := F21.binds (ps := ["_law_number", "_law_own", "_law_names_here"]) fun _ _ _ _ _ _ us hl => match us, hl with | [_, _, _], _ => rfl
  have b22 := F22.binds (ps := ["_law_number", "_law_own", "_law_names_here"]) fun _ _ _ _ _ _ us hl => match us, hl with | [_, _, _], _ => rfl
  have b23 := F23.binds (ps := ["_law_number", "_law_names_here"]) fun _ _ _ _ _ _ us hl => match us, hl with | [_, _], _ => rfl
  have b24 := F24.binds (ps := ["_law_number", "_law_names_here"]) fun _ _ _ _ _ _ us hl => match us, hl with | [_, _], _ => rfl
  have b25 := F25.binds (ps := ["_law_frame", "_law_block", "_law_level", "_law_names_here"]) fun _ _ _ _ _ _ us hl => match us, hl with | [_, _, _, _], _ => rfl
  have b26 := F26.binds (ps := ["_law_frames", "_law_block", "_law_names_here"]) fun _ _ _ _ _ _ us hl => match us, hl with | [_, _, _], _ => rfl
  have b27 := F27.binds (ps := ["_law_cells", "_law_block", "_law_many", "_law_names_here"]) fun _ _ _ _ _ _ us hl => match us, hl with | [_, _, _, _], _ => rfl
  have b28 := F28.binds (ps := ["_law_cells", "_law_names_here", "_law_way"]) fun _ _ _ _ _ _ us hl => match us, hl with | [_, _, _], _ => rfl
  have b29 := F29.binds (ps := []) fun _ _ _ _ _ _ us hl => match us, hl with | [], _ => rfl
  have b30 := F30.binds (ps := []) fun _ _ _ _ _ _ us hl => match us, hl with | [], _ => rfl
  have b31 := F31.binds (ps := []) fun _ _ _ _ _ _ us hl => match us, hl with | [], _ => rfl
  have b32 := F32.binds (ps := ["_law_number"]) fun _ _ _ _ _ _ us hl => match us, hl with | [_], _ => rfl
  have b33 := F33.binds (ps := ["_law_number"]) fun _ _ _ _ _ _ us hl => match us, hl with | [_], _ => rfl
  have b34 := F34.binds (ps := ["_law_row"]) fun _ _ _ _ _ _ us hl => match us, hl with | [_], _ => rfl
  have b35 := F35.binds (ps := ["_law_program_here", "_law_first", "_law_more", "_law_names_here"]) fun _ _ _ _ _ _ us hl => match us, hl with | [_, _, _, _], _ => rfl
  have b36 := F36.binds (ps := []) fun _ _ _ _ _ _ us hl => match us, hl with | [], _ => rfl
  have b37 := F37.binds (ps := ["_law_script", "_law_turn", "_law_names_here"]) fun _ _ _ _ _ _ us hl => match us, hl with | [_, _, _], _ => rfl
  have b38 := F38.binds (ps := ["_law_script"]) fun _ _ _ _ _ _ us hl => match us, hl with | [_], _ => rfl
  refine ⟨PySem.W.fnOf "law" "law" (defArgs s_law) (defBody s_law) (defScope s_law) .none kV38 dc38 pm38 an38 cd38 ct38, fun s v => .of_eq rfl, fun base _ _ => ?_⟩
  have T : ∀ k, Tx ⟨l.prog, w, K, mg, base, k⟩ := fun k => {
    len := PySem.W.mg_none_of X G z_len
    isinstance := PySem.W.mg_none_of X G z_isinstance
    int := PySem.W.mg_none_of X G z_int
    str := PySem.W.mg_none_of X G z_str
    bool := PySem.W.mg_none_of X G z_bool
    all := PySem.W.mg_none_of X G z_all
    dict := PySem.W.mg_none_of X G z_dict
    list := PySem.W.mg_none_of X G z_list
    set := PySem.W.mg_none_of X G z_set
    tuple := PySem.W.mg_none_of X G z_tuple
    range := PySem.W.mg_none_of X G z_range
    ValueError := PySem.W.mg_none_of X G z_ValueError
    c_MOST_SIGNS := fun hg => ed_glob (v := .int 6) (PySem.W.mg_of X G y_MOST_SIGNS) ⟨_, rfl⟩ (fun _ => .int _) hg
    c_BOUND := fun hg => ed_glob (v := .int 1000000) (PySem.W.mg_of X G y_BOUND) ⟨_, rfl⟩ (fun _ => .int _) hg
    c_MOST_BLOCKS := fun hg => ed_glob (v := .int 12) (PySem.W.mg_of X G y_MOST_BLOCKS) ⟨_, rfl⟩ (fun _ => .int _) hg
    c_MOST_LEVELS := fun hg => ed_glob (v := .int 8) (PySem.W.mg_of X G y_MOST_LEVELS) ⟨_, rfl⟩ (fun _ => .int _) hg
    c_LETTERS := fun hg => ed_glob (v := .str "abcdefghijklmnopqrstuvwxyz") (PySem.W.mg_of X G y_LETTERS) ⟨_, rfl⟩ (fun _ => .str _) hg
    c_FIGURES := fun hg => ed_glob (v := .str "0123456789") (PySem.W.mg_of X G y_FIGURES) ⟨_, rfl⟩ (fun _ => .str _) hg
    c_TAKEN := fun hg => ed_glob (v := .ref p_TAKEN) (PySem.W.mg_of X G y_TAKEN) rfl (fun _ => .tup (.inr ⟨_, its_TAKEN, m_TAKEN, u_TAKEN, rfl, rfl, by have := V_TAKEN.length; simp at this; rw [← this]; decide, V_TAKEN⟩) (RepL.strs _)) hg
    c_ASKING := fun hg => ed_glob (v := .ref p_ASKING) (PySem.W.mg_of X G y_ASKING) rfl (fun _ => .tup (.inr ⟨_, its_ASKING, m_ASKING, u_ASKING, rfl, rfl, by have := V_ASKING.length; simp at this; rw [← this]; decide, V_ASKING⟩) (RepL.strs _)) hg
    c_SIGNS := fun hg => ed_glob (v := .ref p_SIGNS) (PySem.W.mg_of X G y_SIGNS) rfl (fun _ => .tup (.inr ⟨_, its_SIGNS, m_SIGNS, u_SIGNS, rfl, rfl, by have := V_SIGNS.length; simp at this; rw [← this]; decide, V_SIGNS⟩) (RepL.strs _)) hg
  }
  have HT : HTab ⟨l.prog, w, K, mg, base, 0⟩ "UndoError" hotX xcls := by
    refine ⟨⟨K_UndoError, PySem.W.mg_of X G aC_UndoError, fun x hx C hC => ?_⟩, fun x hx C hC => ?_, fun x hx => ?_, fun x hx y hy C hC => ?_, fun x hx C hC => ?_⟩
    all_goals simp only [hotX, List.mem_cons, List.not_mem_nil, or_false] at hx
    · rcases hx with rfl | rfl | rfl | rfl | rfl | rfl
      · cases hC.symm.trans (PySem.W.mg_of X G aC_BadProgram)
        exact PySem.W.exm_ref eC_UndoError hC_UndoError tC_UndoError sb_BadProgram
      · cases hC.symm.trans (PySem.W.mg_of X G aC_BadRow)
        exact PySem.W.exm_ref eC_UndoError hC_UndoError tC_UndoError sb_BadRow
      · cases hC.symm.trans (PySem.W.mg_of X G aC_BadName)
        exact PySem.W.exm_ref eC_UndoError hC_UndoError tC_UndoError sb_BadName
      · cases hC.symm.trans (PySem.W.mg_of X G aC_BadNumber)
        exact PySem.W.exm_ref eC_UndoError hC_UndoError tC_UndoError sb_BadNumber
      · cases hC.symm.trans (PySem.W.mg_of X G aC_OwnBox)
        exact PySem.W.exm_ref eC_UndoError hC_UndoError tC_UndoError sb_OwnBox
      · cases hC.symm.trans (PySem.W.mg_of X G aC_TooDeep)
        exact PySem.W.exm_ref eC_UndoError hC_UndoError tC_UndoError sb_TooDeep
    · rcases hx with rfl | rfl | rfl | rfl | rfl | rfl
      · cases hC.symm.trans (PySem.W.mg_of X G aC_BadProgram)
        exact ⟨⟨ga_BadProgram, gg_BadProgram, eC_BadProgram, hC_BadProgram, ca_BadProgram, hsp, htk, mo_BadProgram⟩, nb_BadProgram⟩
      · cases hC.symm.trans (PySem.W.mg_of X G aC_BadRow)
        exact ⟨⟨ga_BadRow, gg_BadRow, eC_BadRow, hC_BadRow, ca_BadRow, hsp, htk, mo_BadRow⟩, nb_BadRow⟩
      · cases hC.symm.trans (PySem.W.mg_of X G aC_BadName)
        exact ⟨⟨ga_BadName, gg_BadName, eC_BadName, hC_BadName, ca_BadName, hsp, htk, mo_BadName⟩, nb_BadName⟩
      · cases hC.symm.trans (PySem.W.mg_of X G aC_BadNumber)
        exact ⟨⟨ga_BadNumber, gg_BadNumber, eC_BadNumber, hC_BadNumber, ca_BadNumber, hsp, htk, mo_BadNumber⟩, nb_BadNumber⟩
      · cases hC.symm.trans (PySem.W.mg_of X G aC_OwnBox)
        exact ⟨⟨ga_OwnBox, gg_OwnBox, eC_OwnBox, hC_OwnBox, ca_OwnBox, hsp, htk, mo_OwnBox⟩, nb_OwnBox⟩
      · cases hC.symm.trans (PySem.W.mg_of X G aC_TooDeep)
        exact ⟨⟨ga_TooDeep, gg_TooDeep, eC_TooDeep, hC_TooDeep, ca_TooDeep, hsp, htk, mo_TooDeep⟩, nb_TooDeep⟩
    · rcases hx with rfl | rfl | rfl | rfl | rfl | rfl
      · exact ⟨_, PySem.W.mg_of X G aC_BadProgram⟩
      · exact ⟨_, PySem.W.mg_of X G aC_BadRow⟩
      · exact ⟨_, PySem.W.mg_of X G aC_BadName⟩
      · exact ⟨_, PySem.W.mg_of X G aC_BadNumber⟩
      · exact ⟨_, PySem.W.mg_of X G aC_OwnBox⟩
      · exact ⟨_, PySem.W.mg_of X G aC_TooDeep⟩
    · rcases hx with rfl | rfl | rfl | rfl | rfl | rfl
      · cases hC.symm.trans (PySem.W.mg_of X G aC_BadProgram)
        simp only [xcls, List.mem_cons, List.not_mem_nil, or_false] at hy
        rcases hy with rfl | rfl | rfl | rfl | rfl | rfl | rfl
        · exact ⟨K_BadProgram, PySem.W.mg_of X G aC_BadProgram, (kit_subF ss_BadProgram is_BadProgram_BadProgram hC_BadProgram tC_BadProgram).trans (by decide +kernel)⟩
        · exact ⟨K_BadRow, PySem.W.mg_of X G aC_BadRow, (kit_subF ss_BadProgram is_BadProgram_BadRow hC_BadRow tC_BadRow).trans (by decide +kernel)⟩
        · exact ⟨K_BadName, PySem.W.mg_of X G aC_BadName, (kit_subF ss_BadProgram is_BadProgram_BadName hC_BadName tC_BadName).trans (by decide +kernel)⟩
        · exact ⟨K_BadNumber, PySem.W.mg_of X G aC_BadNumber, (kit_subF ss_BadProgram is_BadProgram_BadNumber hC_BadNumber tC_BadNumber).trans (by decide +kernel)⟩
        · exact ⟨K_OwnBox, PySem.W.mg_of X G aC_OwnBox, (kit_subF ss_BadProgram is_BadProgram_OwnBox hC_OwnBox tC_OwnBox).trans (by decide +kernel)⟩
        · exact ⟨K_TooDeep, PySem.W.mg_of X G aC_TooDeep, (kit_subF ss_BadProgram is_BadProgram_TooDeep hC_TooDeep tC_TooDeep).trans (by decide +kernel)⟩
        · exact ⟨K_BadLine, PySem.W.mg_of X G aC_BadLine, (kit_subF ss_BadProgram is_BadProgram_BadLine hC_BadLine tC_BadLine).trans (by decide +kernel)⟩
      · cases hC.symm.trans (PySem.W.mg_of X G aC_BadRow)
        simp only [xcls, List.mem_cons, List.not_mem_nil, or_false] at hy
        rcases hy with rfl | rfl | rfl | rfl | rfl | rfl | rfl
        · exact ⟨K_BadProgram, PySem.W.mg_of X G aC_BadProgram, (kit_subF ss_BadRow is_BadRow_BadProgram hC_BadProgram tC_BadProgram).trans (by decide +kernel)⟩
        · exact ⟨K_BadRow, PySem.W.mg_of X G aC_BadRow, (kit_subF ss_BadRow is_BadRow_BadRow hC_BadRow tC_BadRow).trans (by decide +kernel)⟩
        · exact ⟨K_BadName, PySem.W.mg_of X G aC_BadName, (kit_subF ss_BadRow is_BadRow_BadName hC_BadName tC_BadName).trans (by decide +kernel)⟩
        · exact ⟨K_BadNumber, PySem.W.mg_of X G aC_BadNumber, (kit_subF ss_BadRow is_BadRow_BadNumber hC_BadNumber tC_BadNumber).trans (by decide +kernel)⟩
        · exact ⟨K_OwnBox, PySem.W.mg_of X G aC_OwnBox, (kit_subF ss_BadRow is_BadRow_OwnBox hC_OwnBox tC_OwnBox).trans (by decide +kernel)⟩
        · exact ⟨K_TooDeep, PySem.W.mg_of X G aC_TooDeep, (kit_subF ss_BadRow is_BadRow_TooDeep hC_TooDeep tC_TooDeep).trans (by decide +kernel)⟩
        · exact ⟨K_BadLine, PySem.W.mg_of X G aC_BadLine, (kit_subF ss_BadRow is_BadRow_BadLine hC_BadLine tC_BadLine).trans (by decide +kernel)⟩
      · cases hC.symm.trans (PySem.W.mg_of X G aC_BadName)
        simp only [xcls, List.mem_cons, List.not_mem_nil, or_false] at hy
        rcases hy with rfl | rfl | rfl | rfl | rfl | rfl | rfl
        · exact ⟨K_BadProgram, PySem.W.mg_of X G aC_BadProgram, (kit_subF ss_BadName is_BadName_BadProgram hC_BadProgram tC_BadProgram).trans (by decide +kernel)⟩
        · exact ⟨K_BadRow, PySem.W.mg_of X G aC_BadRow, (kit_subF ss_BadName is_BadName_BadRow hC_BadRow tC_BadRow).trans (by decide +kernel)⟩
        · exact ⟨K_BadName, PySem.W.mg_of X G aC_BadName, (kit_subF ss_BadName is_BadName_BadName hC_BadName tC_BadName).trans (by decide +kernel)⟩
        · exact ⟨K_BadNumber, PySem.W.mg_of X G aC_BadNumber, (kit_subF ss_BadName is_BadName_BadNumber hC_BadNumber tC_BadNumber).trans (by decide +kernel)⟩
        · exact ⟨K_OwnBox, PySem.W.mg_of X G aC_OwnBox, (kit_subF ss_BadName is_BadName_OwnBox hC_OwnBox tC_OwnBox).trans (by decide +kernel)⟩
        · exact ⟨K_TooDeep, PySem.W.mg_of X G aC_TooDeep, (kit_subF ss_BadName is_BadName_TooDeep hC_TooDeep tC_TooDeep).trans (by decide +kernel)⟩
        · exact ⟨K_BadLine, PySem.W.mg_of X G aC_BadLine, (kit_subF ss_BadName is_BadName_BadLine hC_BadLine tC_BadLine).trans (by decide +kernel)⟩
      · cases hC.symm.trans (PySem.W.mg_of X G aC_BadNumber)
        simp only [xcls, List.mem_cons, List.not_mem_nil, or_false] at hy
        rcases hy with rfl | rfl | rfl | rfl | rfl | rfl | rfl
        · exact ⟨K_BadProgram, PySem.W.mg_of X G aC_BadProgram, (kit_subF ss_BadNumber is_BadNumber_BadProgram hC_BadProgram tC_BadProgram).trans (by decide +kernel)⟩
        · exact ⟨K_BadRow, PySem.W.mg_of X G aC_BadRow, (kit_subF ss_BadNumber is_BadNumber_BadRow hC_BadRow tC_BadRow).trans (by decide +kernel)⟩
        · exact ⟨K_BadName, PySem.W.mg_of X G aC_BadName, (kit_subF ss_BadNumber is_BadNumber_BadName hC_BadName tC_BadName).trans (by decide +kernel)⟩
        · exact ⟨K_BadNumber, PySem.W.mg_of X G aC_BadNumber, (kit_subF ss_BadNumber is_BadNumber_BadNumber hC_BadNumber tC_BadNumber).trans (by decide +kernel)⟩
        · exact ⟨K_OwnBox, PySem.W.mg_of X G aC_OwnBox, (kit_subF ss_BadNumber is_BadNumber_OwnBox hC_OwnBox tC_OwnBox).trans (by decide +kernel)⟩
        · exact ⟨K_TooDeep, PySem.W.mg_of X G aC_TooDeep, (kit_subF ss_BadNumber is_BadNumber_TooDeep hC_TooDeep tC_TooDeep).trans (by decide +kernel)⟩
        · exact ⟨K_BadLine, PySem.W.mg_of X G aC_BadLine, (kit_subF ss_BadNumber is_BadNumber_BadLine hC_BadLine tC_BadLine).trans (by decide +kernel)⟩
      · cases hC.symm.trans (PySem.W.mg_of X G aC_OwnBox)
        simp only [xcls, List.mem_cons, List.not_mem_nil, or_false] at hy
        rcases hy with rfl | rfl | rfl | rfl | rfl | rfl | rfl
        · exact ⟨K_BadProgram, PySem.W.mg_of X G aC_BadProgram, (kit_subF ss_OwnBox is_OwnBox_BadProgram hC_BadProgram tC_BadProgram).trans (by decide +kernel)⟩
        · exact ⟨K_BadRow, PySem.W.mg_of X G aC_BadRow, (kit_subF ss_OwnBox is_OwnBox_BadRow hC_BadRow tC_BadRow).trans (by decide +kernel)⟩
        · exact ⟨K_BadName, PySem.W.mg_of X G aC_BadName, (kit_subF ss_OwnBox is_OwnBox_BadName hC_BadName tC_BadName).trans (by decide +kernel)⟩
        · exact ⟨K_BadNumber, PySem.W.mg_of X G aC_BadNumber, (kit_subF ss_OwnBox is_OwnBox_BadNumber hC_BadNumber tC_BadNumber).trans (by decide +kernel)⟩
        · exact ⟨K_OwnBox, PySem.W.mg_of X G aC_OwnBox, (kit_subF ss_OwnBox is_OwnBox_OwnBox hC_OwnBox tC_OwnBox).trans (by decide +kernel)⟩
        · exact ⟨K_TooDeep, PySem.W.mg_of X G aC_TooDeep, (kit_subF ss_OwnBox is_OwnBox_TooDeep hC_TooDeep tC_TooDeep).trans (by decide +kernel)⟩
        · exact ⟨K_BadLine, PySem.W.mg_of X G aC_BadLine, (kit_subF ss_OwnBox is_OwnBox_BadLine hC_BadLine tC_BadLine).trans (by decide +kernel)⟩
      · cases hC.symm.trans (PySem.W.mg_of X G aC_TooDeep)
        simp only [xcls, List.mem_cons, List.not_mem_nil, or_false] at hy
        rcases hy with rfl | rfl | rfl | rfl | rfl | rfl | rfl
        · exact ⟨K_BadProgram, PySem.W.mg_of X G aC_BadProgram, (kit_subF ss_TooDeep is_TooDeep_BadProgram hC_BadProgram tC_BadProgram).trans (by decide +kernel)⟩
        · exact ⟨K_BadRow, PySem.W.mg_of X G aC_BadRow, (kit_subF ss_TooDeep is_TooDeep_BadRow hC_BadRow tC_BadRow).trans (by decide +kernel)⟩
        · exact ⟨K_BadName, PySem.W.mg_of X G aC_BadName, (kit_subF ss_TooDeep is_TooDeep_BadName hC_BadName tC_BadName).trans (by decide +kernel)⟩
        · exact ⟨K_BadNumber, PySem.W.mg_of X G aC_BadNumber, (kit_subF ss_TooDeep is_TooDeep_BadNumber hC_BadNumber tC_BadNumber).trans (by decide +kernel)⟩
        · exact ⟨K_OwnBox, PySem.W.mg_of X G aC_OwnBox, (kit_subF ss_TooDeep is_TooDeep_OwnBox hC_OwnBox tC_OwnBox).trans (by decide +kernel)⟩
        · exact ⟨K_TooDeep, PySem.W.mg_of X G aC_TooDeep, (kit_subF ss_TooDeep is_TooDeep_TooDeep hC_TooDeep tC_TooDeep).trans (by decide +kernel)⟩
        · exact ⟨K_BadLine, PySem.W.mg_of X G aC_BadLine, (kit_subF ss_TooDeep is_TooDeep_BadLine hC_BadLine tC_BadLine).trans (by decide +kernel)⟩
    · rcases hx with rfl | rfl | rfl | rfl | rfl | rfl
      · cases hC.symm.trans (PySem.W.mg_of X G aC_BadProgram)
        exact kit_ve is_BadProgram_ValueError
      · cases hC.symm.trans (PySem.W.mg_of X G aC_BadRow)
        exact kit_ve is_BadRow_ValueError
      · cases hC.symm.trans (PySem.W.mg_of X G aC_BadName)
        exact kit_ve is_BadName_ValueError
      · cases hC.symm.trans (PySem.W.mg_of X G aC_BadNumber)
        exact kit_ve is_BadNumber_ValueError
      · cases hC.symm.trans (PySem.W.mg_of X G aC_OwnBox)
        exact kit_ve is_OwnBox_ValueError
      · cases hC.symm.trans (PySem.W.mg_of X G aC_TooDeep)
        exact kit_ve is_TooDeep_ValueError
  have N_is_name : FnOk l.prog w K mg base CX0 1 f_is_name _ _ (spP K R_is_name) := fn_P F0 sc_is_name (by rintro ds d ⟨_, rfl, _⟩; rfl) (fun ds d h => b_is_name (T _)  h)
  have C_is_name : Call ⟨l.prog, w, K, mg, base, 0⟩ 1 "is_name" (spP K R_is_name) := ⟨f_is_name, _, _, N_is_name, PySem.W.mg_of X G a0, k0, b0⟩
  have N_is_number : FnOk l.prog w K mg base CX0 1 f_is_number _ _ (spP K R_is_number) := fn_P F1 sc_is_number (by rintro ds d ⟨_, rfl, _⟩; rfl) (fun ds d h => b_is_number (T _)  h)
  have C_is_number : Call ⟨l.prog, w, K, mg, base, 0⟩ 1 "is_number" (spP K R_is_number) := ⟨f_is_number, _, _, N_is_number, PySem.W.mg_of X G a1, k1, b1⟩
  have N_uinit : FnOk l.prog w K mg base CX0 1 f_uinit _ ["self", "at"] (spI K) := fn_I F2 sc_uinit rfl rfl (by decide +kernel) (by decide +kernel) (by decide +kernel) (PySem.W.mg_none_of X G z_ValueError) (fun _ => ⟨_, rfl⟩) vV
  have C_UndoError : XTab ⟨l.prog, w, K, mg, base, 0⟩ 1 xcls := by
    refine ⟨f_uinit, _, N_uinit, tI, b2, fun x hx => ?_⟩
    simp only [xcls, List.mem_cons, List.not_mem_nil, or_false] at hx
    rcases hx with rfl | rfl | rfl | rfl | rfl | rfl | rfl
    · exact ⟨K_BadProgram, PySem.W.mg_of X G aC_BadProgram, ⟨⟨_, _, _, _, _, _, _, _, _, _, _, _, _, _, _, xL_BadProgram, rfl⟩, sa_BadProgram, eC_BadProgram, tC_BadProgram, kC_BadProgram⟩, nb_BadProgram, a1_BadProgram⟩
    · exact ⟨K_BadRow, PySem.W.mg_of X G aC_BadRow, ⟨⟨_, _, _, _, _, _, _, _, _, _, _, _, _, _, _, xL_BadRow, rfl⟩, sa_BadRow, eC_BadRow, tC_BadRow, kC_BadRow⟩, nb_BadRow, a1_BadRow⟩
    · exact ⟨K_BadName, PySem.W.mg_of X G aC_BadName, ⟨⟨_, _, _, _, _, _, _, _, _, _, _, _, _, _, _, xL_BadName, rfl⟩, sa_BadName, eC_BadName, tC_BadName, kC_BadName⟩, nb_BadName, a1_BadName⟩
    · exact ⟨K_BadNumber, PySem.W.mg_of X G aC_BadNumber, ⟨⟨_, _, _, _, _, _, _, _, _, _, _, _, _, _, _, xL_BadNumber, rfl⟩, sa_BadNumber, eC_BadNumber, tC_BadNumber, kC_BadNumber⟩, nb_BadNumber, a1_BadNumber⟩
    · exact ⟨K_OwnBox, PySem.W.mg_of X G aC_OwnBox, ⟨⟨_, _, _, _, _, _, _, _, _, _, _, _, _, _, _, xL_OwnBox, rfl⟩, sa_OwnBox, eC_OwnBox, tC_OwnBox, kC_OwnBox⟩, nb_OwnBox, a1_OwnBox⟩
    · exact ⟨K_TooDeep, PySem.W.mg_of X G aC_TooDeep, ⟨⟨_, _, _, _, _, _, _, _, _, _, _, _, _, _, _, xL_TooDeep, rfl⟩, sa_TooDeep, eC_TooDeep, tC_TooDeep, kC_TooDeep⟩, nb_TooDeep, a1_TooDeep⟩
    · exact ⟨K_BadLine, PySem.W.mg_of X G aC_BadLine, ⟨⟨_, _, _, _, _, _, _, _, _, _, _, _, _, _, _, xL_BadLine, rfl⟩, sa_BadLine, eC_BadLine, tC_BadLine, kC_BadLine⟩, nb_BadLine, a1_BadLine⟩
  have XT : XTab ⟨l.prog, w, K, mg, base, 0⟩ 1 madeX := by
    refine ⟨f_uinit, _, N_uinit, tI, b2, fun x hx => ?_⟩
    simp only [madeX, List.mem_cons, List.not_mem_nil, or_false] at hx
    rcases hx with rfl | rfl | rfl | rfl | rfl | rfl | rfl | rfl
    · exact ⟨K_BadRow, PySem.W.mg_of X G aC_BadRow, ⟨⟨_, _, _, _, _, _, _, _, _, _, _, _, _, _, _, xL_BadRow, rfl⟩, sa_BadRow, eC_BadRow, tC_BadRow, kC_BadRow⟩, nb_BadRow, a1_BadRow⟩
    · exact ⟨K_BadName, PySem.W.mg_of X G aC_BadName, ⟨⟨_, _, _, _, _, _, _, _, _, _, _, _, _, _, _, xL_BadName, rfl⟩, sa_BadName, eC_BadName, tC_BadName, kC_BadName⟩, nb_BadName, a1_BadName⟩
    · exact ⟨K_BadNumber, PySem.W.mg_of X G aC_BadNumber, ⟨⟨_, _, _, _, _, _, _, _, _, _, _, _, _, _, _, xL_BadNumber, rfl⟩, sa_BadNumber, eC_BadNumber, tC_BadNumber, kC_BadNumber⟩, nb_BadNumber, a1_BadNumber⟩
    · exact ⟨K_OwnBox, PySem.W.mg_of X G aC_OwnBox, ⟨⟨_, _, _, _, _, _, _, _, _, _, _, _, _, _, _, xL_OwnBox, rfl⟩, sa_OwnBox, eC_OwnBox, tC_OwnBox, kC_OwnBox⟩, nb_OwnBox, a1_OwnBox⟩
    · exact ⟨K_TooDeep, PySem.W.mg_of X G aC_TooDeep, ⟨⟨_, _, _, _, _, _, _, _, _, _, _, _, _, _, _, xL_TooDeep, rfl⟩, sa_TooDeep, eC_TooDeep, tC_TooDeep, kC_TooDeep⟩, nb_TooDeep, a1_TooDeep⟩
    · exact ⟨K_UndoError, PySem.W.mg_of X G aC_UndoError, ⟨⟨_, _, _, _, _, _, _, _, _, _, _, _, _, _, _, xL_UndoError, rfl⟩, sa_UndoError, eC_UndoError, tC_UndoError, kC_UndoError⟩, nb_UndoError, a2⟩
    · exact ⟨K_BadProgram, PySem.W.mg_of X G aC_BadProgram, ⟨⟨_, _, _, _, _, _, _, _, _, _, _, _, _, _, _, xL_BadProgram, rfl⟩, sa_BadProgram, eC_BadProgram, tC_BadProgram, kC_BadProgram⟩, nb_BadProgram, a1_BadProgram⟩
    · exact ⟨K_BadLine, PySem.W.mg_of X G aC_BadLine, ⟨⟨_, _, _, _, _, _, _, _, _, _, _, _, _, _, _, xL_BadLine, rfl⟩, sa_BadLine, eC_BadLine, tC_BadLine, kC_BadLine⟩, nb_BadLine, a1_BadLine⟩
  have XX : XFs ⟨l.prog, w, K, mg, base, 0⟩ madeX := by
    intro x hx C hC
    simp only [madeX, List.mem_cons, List.not_mem_nil, or_false] at hx
    rcases hx with rfl | rfl | rfl | rfl | rfl | rfl | rfl | rfl
    · cases hC.symm.trans (PySem.W.mg_of X G aC_BadRow)
      exact ⟨ga_BadRow, gg_BadRow, eC_BadRow, hC_BadRow, nb_BadRow⟩
    · cases hC.symm.trans (PySem.W.mg_of X G aC_BadName)
      exact ⟨ga_BadName, gg_BadName, eC_BadName, hC_BadName, nb_BadName⟩
    · cases hC.symm.trans (PySem.W.mg_of X G aC_BadNumber)
      exact ⟨ga_BadNumber, gg_BadNumber, eC_BadNumber, hC_BadNumber, nb_BadNumber⟩
    · cases hC.symm.trans (PySem.W.mg_of X G aC_OwnBox)
      exact ⟨ga_OwnBox, gg_OwnBox, eC_OwnBox, hC_OwnBox, nb_OwnBox⟩
    · cases hC.symm.trans (PySem.W.mg_of X G aC_TooDeep)
      exact ⟨ga_TooDeep, gg_TooDeep, eC_TooDeep, hC_TooDeep, nb_TooDeep⟩
    · cases hC.symm.trans (PySem.W.mg_of X G aC_UndoError)
      exact ⟨ga_UndoError, gg_UndoError, eC_UndoError, hC_UndoError, nb_UndoError⟩
    · cases hC.symm.trans (PySem.W.mg_of X G aC_BadProgram)
      exact ⟨ga_BadProgram, gg_BadProgram, eC_BadProgram, hC_BadProgram, nb_BadProgram⟩
    · cases hC.symm.trans (PySem.W.mg_of X G aC_BadLine)
      exact ⟨ga_BadLine, gg_BadLine, eC_BadLine, hC_BadLine, nb_BadLine⟩
  have N_szof : FnOk l.prog w K mg base CX0 1 f_szof _ _ (spP K R_szof) := fn_P F3 sc_szof (by rintro ds d ⟨_, rfl, _⟩; rfl) (fun ds d h => b_szof (T _) h)
  have C_size_of : Call ⟨l.prog, w, K, mg, base, 0⟩ 1 "size_of" (spP K R_szof) := ⟨f_szof, _, _, N_szof, PySem.W.mg_of X G a3, k3, b3⟩
  have N_xform : FnOk l.prog w K mg base (L2N.CX l.prog w) 3 f_xform _ _ (spM K mg R_xform) := fn_X F4 sc_xform (by rintro ds d ⟨_, _, rfl, _⟩; rfl) (fun ds r h => b_xform (T _) (Nat.le_refl _) (C_UndoError.at _) (C_size_of.at _) h)
  have C_need_form : CallX ⟨l.prog, w, K, mg, base, 0⟩ 3 "need_form" R_xform := ⟨f_xform, _, _, N_xform, PySem.W.mg_of X G a4, k4, b4⟩
  have N_xname : FnOk l.prog w K mg base (L2N.CX l.prog w) 3 f_xname _ _ (spM K mg R_xname) := fn_X F5 sc_xname (by rintro ds d ⟨_, _, rfl, _⟩; rfl) (fun ds r h => b_xname (T _) (Nat.le_refl _) (C_UndoError.at _) (C_is_name.at _) h)
  have C_need_name : CallX ⟨l.prog, w, K, mg, base, 0⟩ 3 "need_name" R_xname := ⟨f_xname, _, _, N_xname, PySem.W.mg_of X G a5, k5, b5⟩
  have N_xthing : FnOk l.prog w K mg base (L2N.CX l.prog w) 4 f_xthing _ _ (spM K mg R_xthing) := fn_X F6 sc_xthing (by rintro ds d ⟨_, _, rfl, _⟩; rfl) (fun ds r h => b_xthing (T _) (Nat.le_refl _) (C_UndoError.at _) (C_is_number.at _) (C_need_name.at _) h)
  have C_need_thing : CallX ⟨l.prog, w, K, mg, base, 0⟩ 4 "need_thing" R_xthing := ⟨f_xthing, _, _, N_xthing, PySem.W.mg_of X G a6, k6, b6⟩
  have N_xsigned : FnOk l.prog w K mg base (L2N.CX l.prog w) 5 f_xsigned _ _ (spM K mg R_xsigned) := fn_X F7 sc_xsigned (by rintro ds d ⟨_, _, _, rfl, _⟩; rfl) (fun ds r h => b_xsigned (T _) (Nat.le_refl _) (C_UndoError.at _) (C_need_thing.at _) h)
  have C_need_signed : CallX ⟨l.prog, w, K, mg, base, 0⟩ 5 "need_signed" R_xsigned := ⟨f_xsigned, _, _, N_xsigned, PySem.W.mg_of X G a7, k7, b7⟩
  have N_xput : FnOk l.prog w K mg base (L2N.CX l.prog w) 6 f_xput _ _ (spM K mg R_xput) := fn_X F8 sc_xput (by rintro ds d ⟨_, _, _, _, _, rfl, _⟩; rfl) (fun ds r h => b_xput (T _) (Nat.le_refl _) (C_UndoError.at _) (C_need_name.at _) (C_need_thing.at _) (C_need_signed.at _) h)
  have C_need_put : CallX ⟨l.prog, w, K, mg, base, 0⟩ 6 "need_put" R_xput := ⟨f_xput, _, _, N_xput, PySem.W.mg_of X G a8, k8, b8⟩
  have N_xask : FnOk l.prog w K mg base (L2N.CX l.prog w) 6 f_xask _ _ (spM K mg R_xask) := fn_X F9 sc_xask (by rintro ds d ⟨_, _, _, _, _, _, rfl, _⟩; rfl) (fun ds r h => b_xask (T _) (Nat.le_refl _) (C_UndoError.at _) (C_need_signed.at _) h)
  have C_need_asking : CallX ⟨l.prog, w, K, mg, base, 0⟩ 6 "need_asking" R_xask := ⟨f_xask, _, _, N_xask, PySem.W.mg_of X G a9, k9, b9⟩
  have NXR : ∀ n, FnOk l.prog w K mg base (L2N.CX l.prog w) (2 * n + 7) f_xrow (PySem.W.fnOf "counted_row" "counted_row" (defArgs s_xrow) (defBody s_xrow) (defScope s_xrow) .none kV10 dc10 pm10 an10 cd10 ct10) ["row", "place", "level", "names"] (spM K mg (R_xrow n)) ∧ FnOk l.prog w K mg base (L2N.CX l.prog w) (2 * n + 8) f_xrows (PySem.W.fnOf "counted" "counted" (defArgs s_xrows) (defBody s_xrows) (defScope s_xrows) .none kV11 dc11 pm11 an11 cd11 ct11) ["rows", "place", "level", "names"] (spM K mg (R_xrows n)) := fun n => by
    induction n with
    | zero =>
      have h1 : FnOk l.prog w K mg base (L2N.CX l.prog w) (2 * 0 + 7) f_xrow (PySem.W.fnOf "counted_row" "counted_row" (defArgs s_xrow) (defBody s_xrow) (defScope s_xrow) .none kV10 dc10 pm10 an10 cd10 ct10) ["row", "place", "level", "names"] (spM K mg (R_xrow 0)) := fn_X F10 sc_xrow (by rintro ds d ⟨_, _, _, rfl, _⟩; rfl) (fun ds r h => b_xrow (T _) (Nat.le_refl _) (C_UndoError.at _) (C_need_form.at _) (C_need_name.at _) (C_need_put.at _) (C_need_asking.at _) (fun m hm => by omega) h)
      exact ⟨h1, fn_X F11 sc_xrows (by rintro ds d ⟨_, _, _, rfl, _⟩; rfl) (fun ds r h => b_xrows (T _) (Nat.le_refl _) ⟨f_xrow, _, _, h1, PySem.W.mg_of X G a10, k10, b10⟩ h)⟩
    | succ n ih =>
      obtain ⟨i1, i2⟩ := ih
      have h1 : FnOk l.prog w K mg base (L2N.CX l.prog w) (2 * (n + 1) + 7) f_xrow (PySem.W.fnOf "counted_row" "counted_row" (defArgs s_xrow) (defBody s_xrow) (defScope s_xrow) .none kV10 dc10 pm10 an10 cd10 ct10) ["row", "place", "level", "names"] (spM K mg (R_xrow (n + 1))) := fn_X F10 sc_xrow (by rintro ds d ⟨_, _, _, rfl, _⟩; rfl) (fun ds r h => b_xrow (T _) (Nat.le_refl _) (C_UndoError.at _) (C_need_form.at _) (C_need_name.at _) (C_need_put.at _) (C_need_asking.at _) (fun m hm => by cases hm; exact ⟨f_xrows, _, _, i2, PySem.W.mg_of X G a11, k11, b11⟩) h)
      exact ⟨h1, fn_X F11 sc_xrows (by rintro ds d ⟨_, _, _, rfl, _⟩; rfl) (fun ds r h => b_xrows (T _) (Nat.le_refl _) ⟨f_xrow, _, _, h1, PySem.W.mg_of X G a10, k10, b10⟩ h)⟩
  have C_counted : CallX ⟨l.prog, w, K, mg, base, 0⟩ 24 "counted" (R_xrows 8) := ⟨f_xrows, _, _, (NXR 8).2, PySem.W.mg_of X G a11, k11, b11⟩
  have N_xblock : FnOk l.prog w K mg base (L2N.CX l.prog w) 3 f_xblock _ _ (spM K mg R_xblock3) := fn_X F12 sc_xblock (by rintro ds d ⟨_, rfl, _⟩; rfl) (fun ds r h => b_xblock (T _) (Nat.le_refl _) (C_UndoError.at _) (C_is_name.at _) h)
  have C_need_block : CallX ⟨l.prog, w, K, mg, base, 0⟩ 3 "need_block" R_xblock3 := ⟨f_xblock, _, _, N_xblock, PySem.W.mg_of X G a12, k12, b12⟩
  have N_xchecked : FnOk l.prog w K mg base (L2N.CX l.prog w) 25 f_xchecked _ _ (spM K mg R_xchecked3) := fn_X F13 sc_xchecked (by rintro ds d ⟨_, rfl, _⟩; rfl) (fun ds r h => b_xchecked (T _) (Nat.le_refl _) (C_UndoError.at _) (C_need_block.at _) (C_counted.at _) h)
  have C_checked : CallX ⟨l.prog, w, K, mg, base, 0⟩ 25 "checked" R_xchecked3 := ⟨f_xchecked, _, _, N_xchecked, PySem.W.mg_of X G a13, k13, b13⟩
  have N_lword : FnHot l.prog w K mg base 1 f_lword _ _ (spHot K (R_lword ⟨l.prog, w, K, mg, base, 0⟩ hotX)) := fn_hotR F14 sc_lword rfl (fun a C dd dat d h => b_lword (T _) (HT.at _) h)
  have C__law_word : CallHot ⟨l.prog, w, K, mg, base, 0⟩ 1 "_law_word" (R_lword ⟨l.prog, w, K, mg, base, 0⟩ hotX) := ⟨f_lword, _, _, N_lword, PySem.W.mg_of X G a14, k14, b14⟩
  have N_refusal : FnOk l.prog w K mg base CX0 26 f_refusal _ _ (spO K (R_refusal hotX R_xchecked3)) := fn_try (i := 1) F15 sc_refusal (by rintro vs H Q E ⟨F, ds, d, s, rl, ⟨hl, _⟩, _⟩; rw [rl.length]; exact hl) rfl rfl rfl (by decide +kernel) (by decide) (PySem.W.mg_of X G aC_UndoError) (fun vs H Q E h => b_refusal (T _) (Nat.le_refl _) (HT.at _) (C_checked.at _) (C__law_word.at _) (PySem.W.mg_of X G aC_UndoError) h)
  have C__law_refusal : Call ⟨l.prog, w, K, mg, base, 0⟩ 26 "_law_refusal" (spO K (R_refusal hotX R_xchecked3)) := ⟨f_refusal, _, _, N_refusal, PySem.W.mg_of X G a15, k15, b15⟩
  have N_cell_at : FnOk l.prog w K mg base CX0 1 f_cell_at _ _ (spP K R_cell_at) := fn_P F16 sc_cell_at (by rintro ds d ⟨_, _, rfl, _⟩; rfl) (fun ds d h => b_cell_at (T _)  h)
  have C__law_cell_at : Call ⟨l.prog, w, K, mg, base, 0⟩ 1 "_law_cell_at" (spP K R_cell_at) := ⟨f_cell_at, _, _, N_cell_at, PySem.W.mg_of X G a16, k16, b16⟩
  have N_mixed : FnOk l.prog w K mg base CX0 1 f_mixed _ _ (spP K R_mixed) := fn_P F17 sc_mixed (by rintro ds d ⟨_, _, rfl, _⟩; rfl) (fun ds d h => b_mixed (T _)  h)
  have C__law_mixed : Call ⟨l.prog, w, K, mg, base, 0⟩ 1 "_law_mixed" (spP K R_mixed) := ⟨f_mixed, _, _, N_mixed, PySem.W.mg_of X G a17, k17, b17⟩
  have N_whole : FnOk l.prog w K mg base CX0 1 f_whole _ _ (spP K R_whole) := fn_P F18 sc_whole (by rintro ds d ⟨_, rfl, _⟩; rfl) (fun ds d h => b_whole (T _)  h)
  have C__law_whole : Call ⟨l.prog, w, K, mg, base, 0⟩ 1 "_law_whole" (spP K R_whole) := ⟨f_whole, _, _, N_whole, PySem.W.mg_of X G a18, k18, b18⟩
  have N_alike : ∀ n, FnOk l.prog w K mg base CX0 (n + 2) f_alike (PySem.W.fnOf "_law_alike" "_law_alike" (defArgs s_alike) (defBody s_alike) (defScope s_alike) .none kV19 dc19 pm19 an19 cd19 ct19) ["_law_found", "_law_due"] (spP K (R_alike n)) := fun n => by
    induction n with
    | zero => exact fn_P F19 sc_alike (by rintro ds d ⟨_, _, rfl, _⟩; rfl) (fun ds d h => b_alike (T _) (Nat.le_refl _) (C__law_whole.at _) (fun m hm => by omega) h)
    | succ n ih => exact fn_P F19 sc_alike (by rintro ds d ⟨_, _, rfl, _⟩; rfl) (fun ds d h => b_alike (T _) (Nat.le_refl _) (C__law_whole.at _) (fun m hm => by cases hm; exact ⟨f_alike, _, _, ih, PySem.W.mg_of X G a19, k19, b19⟩) h)
  have C__law_alike : Call ⟨l.prog, w, K, mg, base, 0⟩ 4 "_law_alike" (spP K (R_alike 2)) := ⟨f_alike, _, _, N_alike 2, PySem.W.mg_of X G a19, k19, b19⟩
  have N_names : FnOk l.prog w K mg base CX0 1 f_names _ _ (spO K R_names) := fn_O F20 sc_names (by rintro ds d ⟨_, rfl, _⟩; rfl) (fun ds d h => b_names (T _)  h)
  have C__law_names : Call ⟨l.prog, w, K, mg, base, 0⟩ 1 "_law_names" (spO K R_names) := ⟨f_names, _, _, N_names, PySem.W.mg_of X G a20, k20, b20⟩
  have N_thing : FnOk l.prog w K mg base CX0 1 f_thing _ _ (spP K R_thing) := fn_P F21 sc_thing (by rintro ds d ⟨_, _, _, rfl, _⟩; rfl) (fun ds d h => b_thing (T _)  h)
  have C__law_thing : Call ⟨l.prog, w, K, mg, base, 0⟩ 1 "_law_thing" (spP K R_thing) := ⟨f_thing, _, _, N_thing, PySem.W.mg_of X G a21, k21, b21⟩
  have N_sum : FnOk l.prog w K mg base CX0 2 f_sum _ _ (spP K R_sum) := fn_P F22 sc_sum (by rintro ds d ⟨_, _, _, rfl, _⟩; rfl) (fun ds d h => b_sum (T _) (C__law_thing.at _) (Nat.le_refl _) h)
  have C__law_sum : Call ⟨l.prog, w, K, mg, base, 0⟩ 2 "_law_sum" (spP K R_sum) := ⟨f_sum, _, _, N_sum, PySem.W.mg_of X G a22, k22, b22⟩
  have N_question : FnOk l.prog w K mg base CX0 2 f_question _ _ (spP K R_question) := fn_P F23 sc_question (by rintro ds d ⟨_, _, rfl, _⟩; rfl) (fun ds d h => b_question (T _) (C__law_thing.at _) (Nat.le_refl _) h)
  have C__law_question : Call ⟨l.prog, w, K, mg, base, 0⟩ 2 "_law_question" (spP K R_question) := ⟨f_question, _, _, N_question, PySem.W.mg_of X G a23, k23, b23⟩
  have N_simple : FnOk l.prog w K mg base CX0 3 f_simple _ _ (spO K R_simple) := fn_O F24 sc_simple (by rintro ds d ⟨_, _, rfl, _⟩; rfl) (fun ds d h => b_simple (T _) (C__law_sum.at _) (Nat.le_refl _) h)
  have C__law_simple : Call ⟨l.prog, w, K, mg, base, 0⟩ 3 "_law_simple" (spO K R_simple) := ⟨f_simple, _, _, N_simple, PySem.W.mg_of X G a24, k24, b24⟩
  have N_rclosed : FnOk l.prog w K mg base CX0 3 f_rclosed _ _ (spO K R_rclosed) := fn_O F25 sc_rclosed (by rintro ds d ⟨_, _, _, _, rfl, _⟩; rfl) (fun ds d h => b_rclosed (T _) (C__law_question.at _) (Nat.le_refl _) h)
  have C__law_closed : Call ⟨l.prog, w, K, mg, base, 0⟩ 3 "_law_closed" (spO K R_rclosed) := ⟨f_rclosed, _, _, N_rclosed, PySem.W.mg_of X G a25, k25, b25⟩
  have N_rclose : FnOk l.prog w K mg base CX0 5 f_rclose _ _ (spW K (R_rclose)) := fn_W F26 sc_rclose (by rintro ds w P ⟨_, _, _, _, _, _, rfl, _⟩; rfl) (fun ds w P h => b_rclose (T _) (Nat.le_refl _) (C__law_closed.at _) h)
  have C__law_close : Call ⟨l.prog, w, K, mg, base, 0⟩ 5 "_law_close" (spW K (R_rclose)) := ⟨f_rclose, _, _, N_rclose, PySem.W.mg_of X G a26, k26, b26⟩
  have N_block : FnOk l.prog w K mg base CX0 6 f_block _ _ (spO K R_block) := fn_O F27 sc_block (by rintro ds d ⟨_, _, _, _, rfl, _⟩; rfl) (fun ds d h => b_block (T _) (C__law_mixed.at _) (C__law_simple.at _) (C__law_close.at _) (Nat.le_refl _) h)
  have C__law_block_rows : Call ⟨l.prog, w, K, mg, base, 0⟩ 6 "_law_block_rows" (spO K R_block) := ⟨f_block, _, _, N_block, PySem.W.mg_of X G a27, k27, b27⟩
  have N_program : FnOk l.prog w K mg base CX0 7 f_program _ _ (spW K R_programW) := fn_W F28 sc_program (by rintro ds w P ⟨_, _, _, rfl, _⟩; rfl) (fun ds w P h => b_program (T _) (Nat.le_refl _) (C__law_block_rows.at _) h)
  have C__law_program : Call ⟨l.prog, w, K, mg, base, 0⟩ 7 "_law_program" (spW K R_programW) := ⟨f_program, _, _, N_program, PySem.W.mg_of X G a28, k28, b28⟩
  have N_brows : FnOk l.prog w K mg base CX0 1 f_brows _ _ (spP K R_brows) := fn_P F29 sc_brows (by rintro ds d ⟨rfl, _⟩; rfl) (fun ds d h => b_brows (T _)  h)
  have C__law_bad_rows : Call ⟨l.prog, w, K, mg, base, 0⟩ 1 "_law_bad_rows" (spP K R_brows) := ⟨f_brows, _, _, N_brows, PySem.W.mg_of X G a29, k29, b29⟩
  have N_bnames : FnOk l.prog w K mg base CX0 1 f_bnames _ _ (spP K R_bnames) := fn_P F30 sc_bnames (by rintro ds d ⟨rfl, _⟩; rfl) (fun ds d h => b_bnames (T _)  h)
  have C__law_bad_names : Call ⟨l.prog, w, K, mg, base, 0⟩ 1 "_law_bad_names" (spP K R_bnames) := ⟨f_bnames, _, _, N_bnames, PySem.W.mg_of X G a30, k30, b30⟩
  have N_btwice : FnOk l.prog w K mg base CX0 1 f_btwice _ _ (spP K R_btwice) := fn_P F31 sc_btwice (by rintro ds d ⟨rfl, _⟩; rfl) (fun ds d h => b_btwice (T _)  h)
  have C__law_bad_twice : Call ⟨l.prog, w, K, mg, base, 0⟩ 1 "_law_bad_twice" (spP K R_btwice) := ⟨f_btwice, _, _, N_btwice, PySem.W.mg_of X G a31, k31, b31⟩
  have N_brow : FnOk l.prog w K mg base CX0 2 f_brow _ _ (spP K R_brow) := fn_P F32 sc_brow (by rintro ds d ⟨_, rfl, _⟩; rfl) (fun ds d h => b_brow (T _) (C__law_bad_rows.at _) (C__law_bad_names.at _) (C__law_bad_twice.at _) (Nat.le_refl _) h)
  have C__law_bad_row : Call ⟨l.prog, w, K, mg, base, 0⟩ 2 "_law_bad_row" (spP K R_brow) := ⟨f_brow, _, _, N_brow, PySem.W.mg_of X G a32, k32, b32⟩
  have N_bprog : FnOk l.prog w K mg base CX0 1 f_bprog _ _ (spP K R_bprog) := fn_P F33 sc_bprog (by rintro ds d ⟨_, rfl, _⟩; rfl) (fun ds d h => b_bprog (T _)  h)
  have C__law_bad_program : Call ⟨l.prog, w, K, mg, base, 0⟩ 1 "_law_bad_program" (spP K R_bprog) := ⟨f_bprog, _, _, N_bprog, PySem.W.mg_of X G a33, k33, b33⟩
  have N_hform : FnOk l.prog w K mg base CX0 1 f_hform _ _ (spP K R_hform) := fn_P F34 sc_hform (by rintro ds d ⟨_, rfl, _⟩; rfl) (fun ds d h => b_hform (T _)  h)
  have C__law_has_form : Call ⟨l.prog, w, K, mg, base, 0⟩ 1 "_law_has_form" (spP K R_hform) := ⟨f_hform, _, _, N_hform, PySem.W.mg_of X G a34, k34, b34⟩
  have N_spoil : FnOk l.prog w K mg base CX0 3 f_spoil _ _ (spW K R_spoil) := fn_W F35 sc_spoil (by rintro ds w P ⟨_, _, _, _, _, rfl, _⟩; rfl) (fun ds w P h => b_spoil (T _) (Nat.le_refl _) (C__law_bad_row.at _) (C__law_has_form.at _) h)
  have C__law_spoil : Call ⟨l.prog, w, K, mg, base, 0⟩ 3 "_law_spoil" (spW K R_spoil) := ⟨f_spoil, _, _, N_spoil, PySem.W.mg_of X G a35, k35, b35⟩
  have N_made : FnOk l.prog w K mg base CX0 3 f_made _ _ (spP K (fun ds d => ds = [] ∧ d = .bl true)) := fn_P F36 sc_made (by rintro ds d ⟨rfl, _⟩; rfl) (fun ds d h => b_made (T _) (Nat.le_refl _) (XT.at _) (fun x hx C hC => XX x hx C hC) h)
  have C__law_made : Call ⟨l.prog, w, K, mg, base, 0⟩ 3 "_law_made" (spP K (fun ds d => ds = [] ∧ d = .bl true)) := ⟨f_made, _, _, N_made, PySem.W.mg_of X G a36, k36, b36⟩
  have N_holds : FnOk l.prog w K mg base CX0 27 f_holds _ _ (spP K R_holds) := fn_P F37 sc_holds (by rintro ds d ⟨_, _, _, rfl, _⟩; rfl) (fun ds d h => b_holds (T _) (C__law_refusal.at _) (C__law_cell_at.at _) (C__law_mixed.at _) (C__law_alike.at _) (C__law_program.at _) (C__law_bad_program.at _) (C__law_spoil.at _) (Nat.le_refl _) h)
  have C__law_holds : Call ⟨l.prog, w, K, mg, base, 0⟩ 27 "_law_holds" (spP K R_holds) := ⟨f_holds, _, _, N_holds, PySem.W.mg_of X G a37, k37, b37⟩
  have N_law : FnOk l.prog w K mg base CX0 28 fa _ _ (spP K R_law) := fn_P F38 sc_law (by rintro ds d ⟨_, rfl, _⟩; rfl) (fun ds d h => b_law (T _) (C__law_cell_at.at _) (C__law_names.at _) (C__law_made.at _) (C__law_holds.at _) (Nat.le_refl _) h)
  exact N_law
theorem walk {l : PySem.W.OpenLaw} {q : Program} {loose : List Str} {XP : (Str → Option Value) → Heap → Prop} {YP : World → Heap → Prop} {d : DefRec} {K : Params → PySem.W.Frag} (hn : l.most = some 63) (hdf : d.params.defaults = [])
    (hY : ∀ (w : World) (h : Heap), YP w h → (K w.params).In h)
    (F : ∀ (w : World) (mg : Str → Option Value) (fa : Addr) (h : Heap), (K w.params).In h → h.Ns mainGlobals mg → mg d.name = some (.ref fa) →
      ∃ fd : FuncData, (∀ (s : Shared) (u : Value), BindsTo s fd ⟨[u], []⟩ [("_law_script", u)]) ∧ ∀ base : Heap, (K w.params).In base → base.Ns mainGlobals mg → FnOk l.prog w (K w.params) mg base CX0 28 fa fd ["_law_script"] (spP (K w.params) R_law)) :
    PySem.W.WalkO q loose XP YP l.row.toRowW d [] (fun f vs => PySem.call f vs) :=
  L2.walk_of (n := 63) (k := 28) (x := "_law_script") (CX := fun _ => CX0) (sp := fun w => spP (K w.params) R_law) hn (by decide) hdf ⟨rfl, by decide, by decide⟩ hY F
    (fun w H a ns hl _ hS => ⟨H, [.scr ns], .bl true, Same.refl H, .cons (.scr hS) .nil, ⟨ns, rfl, hl, rfl⟩, fun v F' H' _ r => by cases r; rfl⟩) fun _ _ _ _ _ z => z
end DL
open PySem PySem.W PyProof.Rows
set_option maxRecDepth 100000 in
set_option maxHeartbeats 0 in
theorem PySem.Challenge.cw_turnedrun_k03_what_is_no_program_holds : PySem.Challenge.rw_turnedrun_k03_what_is_no_program.Holds := by
  w_on; o_law; k_head; (case hw => w_witness2)
  k_fill
  refine DL.walk (l := PySem.Challenge.rw_turnedrun_k03_what_is_no_program) rfl rfl (fun w h Y => PySem.W.kIn_of Y) ?F
  case F =>
    intro w mg fa h KX G hmg
    refine' DL.all_mk KX G hmg ?aC_UndoError ?xL_UndoError ?sa_UndoError ?nb_UndoError ?eC_UndoError ?tC_UndoError ?kC_UndoError ?hC_UndoError ?aC_BadProgram ?xL_BadProgram ?sa_BadProgram ?nb_BadProgram ?eC_BadProgram ?tC_BadProgram ?kC_BadProgram ?hC_BadProgram ?a1_BadProgram ?aC_BadRow ?xL_BadRow ?sa_BadRow ?nb_BadRow ?eC_BadRow ?tC_BadRow ?kC_BadRow ?hC_BadRow ?a1_BadRow ?aC_BadName ?xL_BadName ?sa_BadName ?nb_BadName ?eC_BadName ?tC_BadName ?kC_BadName ?hC_BadName ?a1_BadName ?aC_BadNumber ?xL_BadNumber ?sa_BadNumber ?nb_BadNumber ?eC_BadNumber ?tC_BadNumber ?kC_BadNumber ?hC_BadNumber ?a1_BadNumber ?aC_OwnBox ?xL_OwnBox ?sa_OwnBox ?nb_OwnBox ?eC_OwnBox ?tC_OwnBox ?kC_OwnBox ?hC_OwnBox ?a1_OwnBox ?aC_TooDeep ?xL_TooDeep ?sa_TooDeep ?nb_TooDeep ?eC_TooDeep ?tC_TooDeep ?kC_TooDeep ?hC_TooDeep ?a1_TooDeep ?aC_BadLine ?xL_BadLine ?sa_BadLine ?nb_BadLine ?eC_BadLine ?tC_BadLine ?kC_BadLine ?hC_BadLine ?a1_BadLine ?tI ?vV ?hsp ?htk ?ga_BadProgram ?gg_BadProgram ?ca_BadProgram ?mo_BadProgram ?sb_BadProgram ?ss_BadProgram ?is_BadProgram_BadProgram ?is_BadProgram_BadRow ?is_BadProgram_BadName ?is_BadProgram_BadNumber ?is_BadProgram_OwnBox ?is_BadProgram_TooDeep ?is_BadProgram_BadLine ?is_BadProgram_ValueError ?ga_BadRow ?gg_BadRow ?ca_BadRow ?mo_BadRow ?sb_BadRow ?ss_BadRow ?is_BadRow_BadProgram ?is_BadRow_BadRow ?is_BadRow_BadName ?is_BadRow_BadNumber ?is_BadRow_OwnBox ?is_BadRow_TooDeep ?is_BadRow_BadLine ?is_BadRow_ValueError ?ga_BadName ?gg_BadName ?ca_BadName ?mo_BadName ?sb_BadName ?ss_BadName ?is_BadName_BadProgram ?is_BadName_BadRow ?is_BadName_BadName ?is_BadName_BadNumber ?is_BadName_OwnBox ?is_BadName_TooDeep ?is_BadName_BadLine ?is_BadName_ValueError ?ga_BadNumber ?gg_BadNumber ?ca_BadNumber ?mo_BadNumber ?sb_BadNumber ?ss_BadNumber ?is_BadNumber_BadProgram ?is_BadNumber_BadRow ?is_BadNumber_BadName ?is_BadNumber_BadNumber ?is_BadNumber_OwnBox ?is_BadNumber_TooDeep ?is_BadNumber_BadLine ?is_BadNumber_ValueError ?ga_OwnBox ?gg_OwnBox ?ca_OwnBox ?mo_OwnBox ?sb_OwnBox ?ss_OwnBox ?is_OwnBox_BadProgram ?is_OwnBox_BadRow ?is_OwnBox_BadName ?is_OwnBox_BadNumber ?is_OwnBox_OwnBox ?is_OwnBox_TooDeep ?is_OwnBox_BadLine ?is_OwnBox_ValueError ?ga_TooDeep ?gg_TooDeep ?ca_TooDeep ?mo_TooDeep ?sb_TooDeep ?ss_TooDeep ?is_TooDeep_BadProgram ?is_TooDeep_BadRow ?is_TooDeep_BadName ?is_TooDeep_BadNumber ?is_TooDeep_OwnBox ?is_TooDeep_TooDeep ?is_TooDeep_BadLine ?is_TooDeep_ValueError ?ga_UndoError ?gg_UndoError ?ga_BadLine ?gg_BadLine ?a0 ?l0 ?c0 ?k0 ?a1 ?l1 ?c1 ?k1 ?a2 ?i2 ?l2 ?c2 ?k2 ?a3 ?l3 ?c3 ?k3 ?a4 ?l4 ?c4 ?k4 ?a5 ?l5 ?c5 ?k5 ?a6 ?l6 ?c6 ?k6 ?a7 ?l7 ?c7 ?k7 ?a8 ?l8 ?c8 ?k8 ?a9 ?l9 ?c9 ?k9 ?a10 ?l10 ?c10 ?k10 ?a11 ?l11 ?c11 ?k11 ?a12 ?l12 ?c12 ?k12 ?a13 ?l13 ?c13 ?k13 ?a14 ?l14 ?c14 ?k14 ?a15 ?l15 ?c15 ?k15 ?a16 ?l16 ?c16 ?k16 ?a17 ?l17 ?c17 ?k17 ?a18 ?l18 ?c18 ?k18 ?a19 ?l19 ?c19 ?k19 ?a20 ?l20 ?c20 ?k20 ?a21 ?l21 ?c21 ?k21 ?a22 ?l22 ?c22 ?k22 ?a23 ?l23 ?c23 ?k23 ?a24 ?l24 ?c24 ?k24 ?a25 ?l25 ?c25 ?k25 ?a26 ?l26 ?c26 ?k26 ?a27 ?l27 ?c27 ?k27 ?a28 ?l28 ?c28 ?k28 ?a29 ?l29 ?c29 ?k29 ?a30 ?l30 ?c30 ?k30 ?a31 ?l31 ?c31 ?k31 ?a32 ?l32 ?c32 ?k32 ?a33 ?l33 ?c33 ?k33 ?a34 ?l34 ?c34 ?k34 ?a35 ?l35 ?c35 ?k35 ?a36 ?l36 ?c36 ?k36 ?a37 ?l37 ?c37 ?k37 ?a38 ?l38 ?c38 ?k38 ?z_len ?z_isinstance ?z_int ?z_str ?z_bool ?z_all ?z_dict ?z_list ?z_set ?z_tuple ?z_range ?z_ValueError ?y_MOST_SIGNS ?y_BOUND ?y_MOST_BLOCKS ?y_MOST_LEVELS ?y_LETTERS ?y_FIGURES ?y_TAKEN ?u_TAKEN ?V_TAKEN ?y_ASKING ?u_ASKING ?V_ASKING ?y_SIGNS ?u_SIGNS ?V_SIGNS
    (case aC_UndoError => k_is)
    (case xL_UndoError => k_is)
    (case sa_UndoError => k_is)
    (case nb_UndoError => k_is)
    (case eC_UndoError => k_is)
    (case tC_UndoError => k_is)
    (case kC_UndoError => k_is)
    (case hC_UndoError => k_is)
    (case aC_BadProgram => k_is)
    (case xL_BadProgram => k_is)
    (case sa_BadProgram => k_is)
    (case nb_BadProgram => k_is)
    (case eC_BadProgram => k_is)
    (case tC_BadProgram => k_is)
    (case kC_BadProgram => k_is)
    (case hC_BadProgram => k_is)
    (case a1_BadProgram => k_is)
    (case aC_BadRow => k_is)
    (case xL_BadRow => k_is)
    (case sa_BadRow => k_is)
    (case nb_BadRow => k_is)
    (case eC_BadRow => k_is)
    (case tC_BadRow => k_is)
    (case kC_BadRow => k_is)
    (case hC_BadRow => k_is)
    (case a1_BadRow => k_is)
    (case aC_BadName => k_is)
    (case xL_BadName => k_is)
    (case sa_BadName => k_is)
    (case nb_BadName => k_is)
    (case eC_BadName => k_is)
    (case tC_BadName => k_is)
    (case kC_BadName => k_is)
    (case hC_BadName => k_is)
    (case a1_BadName => k_is)
    (case aC_BadNumber => k_is)
    (case xL_BadNumber => k_is)
    (case sa_BadNumber => k_is)
    (case nb_BadNumber => k_is)
    (case eC_BadNumber => k_is)
    (case tC_BadNumber => k_is)
    (case kC_BadNumber => k_is)
    (case hC_BadNumber => k_is)
    (case a1_BadNumber => k_is)
    (case aC_OwnBox => k_is)
    (case xL_OwnBox => k_is)
    (case sa_OwnBox => k_is)
    (case nb_OwnBox => k_is)
    (case eC_OwnBox => k_is)
    (case tC_OwnBox => k_is)
    (case kC_OwnBox => k_is)
    (case hC_OwnBox => k_is)
    (case a1_OwnBox => k_is)
    (case aC_TooDeep => k_is)
    (case xL_TooDeep => k_is)
    (case sa_TooDeep => k_is)
    (case nb_TooDeep => k_is)
    (case eC_TooDeep => k_is)
    (case tC_TooDeep => k_is)
    (case kC_TooDeep => k_is)
    (case hC_TooDeep => k_is)
    (case a1_TooDeep => k_is)
    (case aC_BadLine => k_is)
    (case xL_BadLine => k_is)
    (case sa_BadLine => k_is)
    (case nb_BadLine => k_is)
    (case eC_BadLine => k_is)
    (case tC_BadLine => k_is)
    (case kC_BadLine => k_is)
    (case hC_BadLine => k_is)
    (case a1_BadLine => k_is)
    (case tI => k_is)
    (case vV => k_is)
    (case hsp => k_is)
    (case htk => k_is)
    (case ga_BadProgram => k_is)
    (case gg_BadProgram => k_is)
    (case ca_BadProgram => k_is)
    (case mo_BadProgram => k_is)
    (case sb_BadProgram => k_is)
    (case ss_BadProgram => k_is)
    (case is_BadProgram_BadProgram => k_is)
    (case is_BadProgram_BadRow => k_is)
    (case is_BadProgram_BadName => k_is)
    (case is_BadProgram_BadNumber => k_is)
    (case is_BadProgram_OwnBox => k_is)
    (case is_BadProgram_TooDeep => k_is)
    (case is_BadProgram_BadLine => k_is)
    (case is_BadProgram_ValueError => k_is)
    (case ga_BadRow => k_is)
    (case gg_BadRow => k_is)
    (case ca_BadRow => k_is)
    (case mo_BadRow => k_is)
    (case sb_BadRow => k_is)
    (case ss_BadRow => k_is)
    (case is_BadRow_BadProgram => k_is)
    (case is_BadRow_BadRow => k_is)
    (case is_BadRow_BadName => k_is)
    (case is_BadRow_BadNumber => k_is)
    (case is_BadRow_OwnBox => k_is)
    (case is_BadRow_TooDeep => k_is)
    (case is_BadRow_BadLine => k_is)
    (case is_BadRow_ValueError => k_is)
    (case ga_BadName => k_is)
    (case gg_BadName => k_is)
    (case ca_BadName => k_is)
    (case mo_BadName => k_is)
    (case sb_BadName => k_is)
    (case ss_BadName => k_is)
    (case is_BadName_BadProgram => k_is)
    (case is_BadName_BadRow => k_is)
    (case is_BadName_BadName => k_is)
    (case is_BadName_BadNumber => k_is)
    (case is_BadName_OwnBox => k_is)
    (case is_BadName_TooDeep => k_is)
    (case is_BadName_BadLine => k_is)
    (case is_BadName_ValueError => k_is)
    (case ga_BadNumber => k_is)
    (case gg_BadNumber => k_is)
    (case ca_BadNumber => k_is)
    (case mo_BadNumber => k_is)
    (case sb_BadNumber => k_is)
    (case ss_BadNumber => k_is)
    (case is_BadNumber_BadProgram => k_is)
    (case is_BadNumber_BadRow => k_is)
    (case is_BadNumber_BadName => k_is)
    (case is_BadNumber_BadNumber => k_is)
    (case is_BadNumber_OwnBox => k_is)
    (case is_BadNumber_TooDeep => k_is)
    (case is_BadNumber_BadLine => k_is)
    (case is_BadNumber_ValueError => k_is)
    (case ga_OwnBox => k_is)
    (case gg_OwnBox => k_is)
    (case ca_OwnBox => k_is)
    (case mo_OwnBox => k_is)
    (case sb_OwnBox => k_is)
    (case ss_OwnBox => k_is)
    (case is_OwnBox_BadProgram => k_is)
    (case is_OwnBox_BadRow => k_is)
    (case is_OwnBox_BadName => k_is)
    (case is_OwnBox_BadNumber => k_is)
    (case is_OwnBox_OwnBox => k_is)
    (case is_OwnBox_TooDeep => k_is)
    (case is_OwnBox_BadLine => k_is)
    (case is_OwnBox_ValueError => k_is)
    (case ga_TooDeep => k_is)
    (case gg_TooDeep => k_is)
    (case ca_TooDeep => k_is)
    (case mo_TooDeep => k_is)
    (case sb_TooDeep => k_is)
    (case ss_TooDeep => k_is)
    (case is_TooDeep_BadProgram => k_is)
    (case is_TooDeep_BadRow => k_is)
    (case is_TooDeep_BadName => k_is)
    (case is_TooDeep_BadNumber => k_is)
    (case is_TooDeep_OwnBox => k_is)
    (case is_TooDeep_TooDeep => k_is)
    (case is_TooDeep_BadLine => k_is)
    (case is_TooDeep_ValueError => k_is)
    (case ga_UndoError => k_is)
    (case gg_UndoError => k_is)
    (case ga_BadLine => k_is)
    (case gg_BadLine => k_is)
    (case a0 => k_is)
    (case l0 => k_is)
    (case c0 => k_is)
    (case k0 => k_is)
    (case a1 => k_is)
    (case l1 => k_is)
    (case c1 => k_is)
    (case k1 => k_is)
    (case a2 => k_is)
    (case i2 => k_is)
    (case l2 => k_is)
    (case c2 => k_is)
    (case k2 => k_is)
    (case a3 => k_is)
    (case l3 => k_is)
    (case c3 => k_is)
    (case k3 => k_is)
    (case a4 => k_is)
    (case l4 => k_is)
    (case c4 => k_is)
    (case k4 => k_is)
    (case a5 => k_is)
    (case l5 => k_is)
    (case c5 => k_is)
    (case k5 => k_is)
    (case a6 => k_is)
    (case l6 => k_is)
    (case c6 => k_is)
    (case k6 => k_is)
    (case a7 => k_is)
    (case l7 => k_is)
    (case c7 => k_is)
    (case k7 => k_is)
    (case a8 => k_is)
    (case l8 => k_is)
    (case c8 => k_is)
    (case k8 => k_is)
    (case a9 => k_is)
    (case l9 => k_is)
    (case c9 => k_is)
    (case k9 => k_is)
    (case a10 => k_is)
    (case l10 => k_is)
    (case c10 => k_is)
    (case k10 => k_is)
    (case a11 => k_is)
    (case l11 => k_is)
    (case c11 => k_is)
    (case k11 => k_is)
    (case a12 => k_is)
    (case l12 => k_is)
    (case c12 => k_is)
    (case k12 => k_is)
    (case a13 => k_is)
    (case l13 => k_is)
    (case c13 => k_is)
    (case k13 => k_is)
    (case a14 => k_is)
    (case l14 => k_is)
    (case c14 => k_is)
    (case k14 => k_is)
    (case a15 => k_is)
    (case l15 => k_is)
    (case c15 => k_is)
    (case k15 => k_is)
    (case a16 => k_is)
    (case l16 => k_is)
    (case c16 => k_is)
    (case k16 => k_is)
    (case a17 => k_is)
    (case l17 => k_is)
    (case c17 => k_is)
    (case k17 => k_is)
    (case a18 => k_is)
    (case l18 => k_is)
    (case c18 => k_is)
    (case k18 => k_is)
    (case a19 => k_is)
    (case l19 => k_is)
    (case c19 => k_is)
    (case k19 => k_is)
    (case a20 => k_is)
    (case l20 => k_is)
    (case c20 => k_is)
    (case k20 => k_is)
    (case a21 => k_is)
    (case l21 => k_is)
    (case c21 => k_is)
    (case k21 => k_is)
    (case a22 => k_is)
    (case l22 => k_is)
    (case c22 => k_is)
    (case k22 => k_is)
    (case a23 => k_is)
    (case l23 => k_is)
    (case c23 => k_is)
    (case k23 => k_is)
    (case a24 => k_is)
    (case l24 => k_is)
    (case c24 => k_is)
    (case k24 => k_is)
    (case a25 => k_is)
    (case l25 => k_is)
    (case c25 => k_is)
    (case k25 => k_is)
    (case a26 => k_is)
    (case l26 => k_is)
    (case c26 => k_is)
    (case k26 => k_is)
    (case a27 => k_is)
    (case l27 => k_is)
    (case c27 => k_is)
    (case k27 => k_is)
    (case a28 => k_is)
    (case l28 => k_is)
    (case c28 => k_is)
    (case k28 => k_is)
    (case a29 => k_is)
    (case l29 => k_is)
    (case c29 => k_is)
    (case k29 => k_is)
    (case a30 => k_is)
    (case l30 => k_is)
    (case c30 => k_is)
    (case k30 => k_is)
    (case a31 => k_is)
    (case l31 => k_is)
    (case c31 => k_is)
    (case k31 => k_is)
    (case a32 => k_is)
    (case l32 => k_is)
    (case c32 => k_is)
    (case k32 => k_is)
    (case a33 => k_is)
    (case l33 => k_is)
    (case c33 => k_is)
    (case k33 => k_is)
    (case a34 => k_is)
    (case l34 => k_is)
    (case c34 => k_is)
    (case k34 => k_is)
    (case a35 => k_is)
    (case l35 => k_is)
    (case c35 => k_is)
    (case k35 => k_is)
    (case a36 => k_is)
    (case l36 => k_is)
    (case c36 => k_is)
    (case k36 => k_is)
    (case a37 => k_is)
    (case l37 => k_is)
    (case c37 => k_is)
    (case k37 => k_is)
    (case a38 => k_is)
    (case l38 => k_is)
    (case c38 => k_is)
    (case k38 => k_is)
    (case z_len => k_is)
    (case z_isinstance => k_is)
    (case z_int => k_is)
    (case z_str => k_is)
    (case z_bool => k_is)
    (case z_all => k_is)
    (case z_dict => k_is)
    (case z_list => k_is)
    (case z_set => k_is)
    (case z_tuple => k_is)
    (case z_range => k_is)
    (case z_ValueError => k_is)
    (case y_MOST_SIGNS => k_is)
    (case y_BOUND => k_is)
    (case y_MOST_BLOCKS => k_is)
    (case y_MOST_LEVELS => k_is)
    (case y_LETTERS => k_is)
    (case y_FIGURES => k_is)
    (case y_TAKEN => k_is)
    (case u_TAKEN => k_is)
    (case V_TAKEN => repeat (first | exact .nil | refine .cons ⟨_, rfl⟩ ?_))
    (case y_ASKING => k_is)
    (case u_ASKING => k_is)
    (case V_ASKING => repeat (first | exact .nil | refine .cons ⟨_, rfl⟩ ?_))
    (case y_SIGNS => k_is)
    (case u_SIGNS => k_is)
    (case V_SIGNS => repeat (first | exact .nil | refine .cons ⟨_, rfl⟩ ?_))


