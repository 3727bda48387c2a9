import PyProof.Rows.All
import Wide.All
import OpenK.AllK
import Wide.FinOn
import HandS.ForMost
import HandS.TupAny
import HandS.Wide
import HandS.IsInst
import HandS.Flow
import HandS.More
import HandS.Conv
import KE.KDictPairs
import KE.SortData
import HandS.Zip
import HandS.Rev
import HandS.DictComp
import HandS.Defaults
import HandS.Codes
import OpenK.KMore
import PySem.Challenge.RW_whoeversigns_k43_ladders_looked_at
import KE.KStateDown
import Lean
import HandS.Head0
import HandS.Head1
import HandS.Head2
import HandS.HeadEnd
import HandS.HeadHook1
import HandS.HeadHook2
import HandS.WordsExc
set_option Elab.async false
set_option linter.all false
set_option maxRecDepth 100000
namespace DL
open PySem PySem.Spec PyProof.Rows L2

/-! ### plain data -/
inductive D where
  | non
  | bl (b : Bool)
  | int (i : Int)
  | str (x : Str)
  | tup (ds : List D)
  | lst (ds : List D)
  | dct (ks : List Key) (ds : List D)
  | scr (ds : List D)
/-- what is owned: a list or a dict whose own cell nobody else holds -/
inductive Ow where
  | lst (ds : List D)
  | dct (ks : List Key) (ds : List D)
def Ow.d : Ow → D
  | .lst ds => .lst ds
  | .dct ks ds => .dct ks ds
/-- a slot: nothing, a value, an owned thing, the caller's own thing -/
inductive Sl where
  | no
  | va (d : D)
  | ow (o : Ow)
  | io (o : Ow)
abbrev En := List Sl
abbrev AP := Addr → Prop
abbrev Sg := List (Option V)
/-- no locked thing -/
def Pl (u : HO) : Prop := ∀ o w, u ≠ HO.frz o w

def KT (K : PySem.W.Frag) (a : Addr) (xs : List V) : Prop := SqT K (fun _ => none) a xs
def KL (K : PySem.W.Frag) (a : Addr) (xs : List V) : Prop := SqL K (fun _ => none) a xs
theorem KT.sq {K : PySem.W.Frag} {H : Hp} {a : Addr} {xs : List V} (h : KT K a xs) : SqT K H a xs := by
  rcases h with (h | ⟨o, h⟩) | h
  · cases h
  · cases h
  · exact .inr h
theorem KL.sq {K : PySem.W.Frag} {H : Hp} {a : Addr} {xs : List V} (h : KL K a xs) : SqL K H a xs := by
  rcases h with (h | ⟨o, h⟩) | h
  · cases h
  · cases h
  · exact .inr h

/-- a tuple, a list, a dict at a, away from X -/
def TpAt (K : PySem.W.Frag) (X : AP) (H : Hp) (a : Addr) (vs : List V) : Prop := (∃ ob : Obj, H a = some (.frz ob (.tup vs)) ∧ ob.dict = none ∧ ¬ X a) ∨ (KT K a vs ∧ ∃ ob : Obj, K.lookup a = some ob ∧ ob.dict = none)
def ScAt (K : PySem.W.Frag) (X : AP) (H : Hp) (a : Addr) (vs : List V) : Prop := (Rd H a (.lst vs) ∧ ¬ X a) ∨ KL K a vs
def LsAt (X : AP) (H : Hp) (a : Addr) (vs : List V) : Prop := Rd H a (.lst vs) ∧ ¬ X a
def DcAt (X : AP) (H : Hp) (a : Addr) (kvs : List (Key × V)) : Prop := Rd H a (.dK kvs) ∧ ¬ X a
theorem TpAt.sq {K : PySem.W.Frag} {X : AP} {H : Hp} {a : Addr} {vs : List V} (h : TpAt K X H a vs) : SqT K H a vs := by
  rcases h with ⟨ob, h, _⟩ | h
  · exact .inl (.inr ⟨ob, h⟩)
  · exact h.1.sq
/-- what must stay of a heap for what is told by it -/
structure Kp (X : AP) (H H' : Hp) : Prop where
  rd : ∀ a u, Pl u → Rd H a u → ¬ X a → Rd H' a u
  tp : ∀ a ob vs, H a = some (.frz ob (.tup vs)) → ¬ X a → H' a = some (.frz ob (.tup vs))
theorem Kp.refl {X : AP} {H : Hp} : Kp X H H := ⟨fun _ _ _ z _ => z, fun _ _ _ z _ => z⟩
theorem Kp.all {X : AP} {H H' : Hp} (k : ∀ b w, H b = some w → H' b = some w) : Kp X H H' := ⟨fun a u _ q _ => by
  rcases q with q | ⟨w, q⟩
  · exact .inl (k _ _ q)
  · exact .inr ⟨w, k _ _ q⟩, fun a ob vs q _ => k _ _ q⟩
theorem ScAt.sq {K : PySem.W.Frag} {X : AP} {H : Hp} {a : Addr} {vs : List V} (h : ScAt K X H a vs) : SqL K H a vs := by
  rcases h with h | h
  · exact .inl h.1
  · exact h.sq

mutual
/-- the value v is the data d, by objects away from X -/
def Rp (K : PySem.W.Frag) (X : AP) (H : Hp) : D → V → Prop
  | .non, v => v = .non
  | .bl b, v => v = .bl b
  | .int i, v => v = .int i
  | .str x, v => v = .str x
  | .tup ds, v => ∃ a vs, v = .ref a ∧ TpAt K X H a vs ∧ RpL K X H ds vs
  | .lst ds, v => ∃ a vs, v = .ref a ∧ LsAt X H a vs ∧ RpL K X H ds vs
  | .scr ds, v => ∃ a vs, v = .ref a ∧ ScAt K X H a vs ∧ RpL K X H ds vs
  | .dct ks ds, v => ∃ a kvs, v = .ref a ∧ DcAt X H a kvs ∧ kvs.map (·.1) = ks ∧ RpL K X H ds (kvs.map (·.2))
def RpL (K : PySem.W.Frag) (X : AP) (H : Hp) : List D → List V → Prop
  | [], vs => vs = []
  | d :: ds, vs => ∃ v ws, vs = v :: ws ∧ Rp K X H d v ∧ RpL K X H ds ws
end

section
variable {K : PySem.W.Frag} {X Y : AP} {H H' : Hp}
theorem RpL.nil : RpL K X H [] [] := by unfold RpL; rfl
theorem RpL.cons {d : D} {v : V} {ds : List D} {vs : List V} (h : Rp K X H d v) (t : RpL K X H ds vs) : RpL K X H (d :: ds) (v :: vs) := by unfold RpL; exact ⟨v, vs, rfl, h, t⟩
theorem RpL.of_nil {vs : List V} (h : RpL K X H [] vs) : vs = [] := by unfold RpL at h; exact h
theorem RpL.of_cons {d : D} {ds : List D} {vs : List V} (h : RpL K X H (d :: ds) vs) : ∃ v ws, vs = v :: ws ∧ Rp K X H d v ∧ RpL K X H ds ws := by unfold RpL at h; exact h
theorem RpL.length : ∀ {ds : List D} {vs : List V}, RpL K X H ds vs → vs.length = ds.length
  | [], vs, h => by rw [h.of_nil]; rfl
  | d :: ds, vs, h => by
    obtain ⟨v, ws, rfl, _, t⟩ := h.of_cons
    rw [List.length_cons, List.length_cons, RpL.length t]
theorem RpL.app : ∀ {ds es : List D} {vs us : List V}, RpL K X H ds vs → RpL K X H es us → RpL K X H (ds ++ es) (vs ++ us)
  | [], es, vs, us, h, t => by rw [h.of_nil]; exact t
  | d :: ds, es, vs, us, h, t => by
    obtain ⟨v, ws, rfl, h1, h2⟩ := h.of_cons
    exact .cons h1 (RpL.app h2 t)
theorem RpL.get : ∀ {ds : List D} {vs : List V} {i : Nat} {d : D}, RpL K X H ds vs → ds[i]? = some d → ∃ v, vs[i]? = some v ∧ Rp K X H d v
  | [], _, _, _, _, e => by simp at e
  | d :: ds, vs, 0, d', h, e => by
    obtain ⟨v, ws, rfl, h1, h2⟩ := h.of_cons
    have e : d = d' := by simpa using e
    exact ⟨v, rfl, e ▸ h1⟩
  | d :: ds, vs, i + 1, d', h, e => by
    obtain ⟨v, ws, rfl, h1, h2⟩ := h.of_cons
    obtain ⟨u, e1, r⟩ := RpL.get (i := i) h2 (by simpa using e)
    exact ⟨u, by simpa using e1, r⟩
theorem RpL.get' : ∀ {ds : List D} {vs : List V} {i : Nat} {v : V}, RpL K X H ds vs → vs[i]? = some v → ∃ d, ds[i]? = some d ∧ Rp K X H d v := fun {ds vs i v} h e => by
  have hl := h.length
  have hi : i < ds.length := by
    rw [← hl]
    exact (List.getElem?_eq_some_iff.mp e).1
  obtain ⟨u, e1, r⟩ := h.get (List.getElem?_eq_getElem hi)
  rw [e] at e1
  cases e1
  exact ⟨_, List.getElem?_eq_getElem hi, r⟩
theorem RpL.take : ∀ {ds : List D} {vs : List V} (n : Nat), RpL K X H ds vs → RpL K X H (ds.take n) (vs.take n)
  | [], vs, n, h => by rw [h.of_nil, List.take_nil, List.take_nil]; exact .nil
  | d :: ds, vs, 0, h => .nil
  | d :: ds, vs, n + 1, h => by
    obtain ⟨v, ws, rfl, h1, h2⟩ := h.of_cons
    exact .cons h1 (RpL.take n h2)
theorem RpL.drop : ∀ {ds : List D} {vs : List V} (n : Nat), RpL K X H ds vs → RpL K X H (ds.drop n) (vs.drop n)
  | [], vs, n, h => by rw [h.of_nil, List.drop_nil, List.drop_nil]; exact .nil
  | d :: ds, vs, 0, h => h
  | d :: ds, vs, n + 1, h => by
    obtain ⟨v, ws, rfl, h1, h2⟩ := h.of_cons
    exact RpL.drop n h2
theorem RpL.set {x : D} {y : V} (r : Rp K X H x y) : ∀ {ds : List D} {vs : List V} (n : Nat), RpL K X H ds vs → RpL K X H (ds.set n x) (vs.set n y)
  | [], vs, n, h => by rw [h.of_nil]; exact .nil
  | d :: ds, vs, 0, h => by
    obtain ⟨v, ws, rfl, h1, h2⟩ := h.of_cons
    exact .cons r h2
  | d :: ds, vs, n + 1, h => by
    obtain ⟨v, ws, rfl, h1, h2⟩ := h.of_cons
    exact .cons h1 (RpL.set r n h2)
theorem RpL.erase : ∀ {ds : List D} {vs : List V} (n : Nat), RpL K X H ds vs → RpL K X H (ds.eraseIdx n) (vs.eraseIdx n)
  | [], vs, n, h => by rw [h.of_nil]; exact .nil
  | d :: ds, vs, 0, h => by
    obtain ⟨v, ws, rfl, h1, h2⟩ := h.of_cons
    exact h2
  | d :: ds, vs, n + 1, h => by
    obtain ⟨v, ws, rfl, h1, h2⟩ := h.of_cons
    exact .cons h1 (RpL.erase n h2)

mutual
/-- the objects stay, or less is shut out -/
theorem Rp.keep (x : ∀ a, Y a → X a) (k : Kp X H H') : ∀ {d : D} {v : V}, Rp K X H d v → Rp K Y H' d v
  | .non, v, h => by unfold Rp at h ⊢; exact h
  | .bl b, v, h => by unfold Rp at h ⊢; exact h
  | .int i, v, h => by unfold Rp at h ⊢; exact h
  | .str z, v, h => by unfold Rp at h ⊢; exact h
  | .tup ds, v, h => by
    unfold Rp at h ⊢
    obtain ⟨a, vs, e, t, l⟩ := h
    refine ⟨a, vs, e, ?_, RpL.keep x k l⟩
    rcases t with ⟨ob, t1, t0, t2⟩ | t
    · exact .inl ⟨ob, k.tp a ob _ t1 t2, t0, fun z => t2 (x a z)⟩
    · exact .inr t
  | .scr ds, v, h => by
    unfold Rp at h ⊢
    obtain ⟨a, vs, e, t, l⟩ := h
    refine ⟨a, vs, e, ?_, RpL.keep x k l⟩
    rcases t with ⟨t1, t2⟩ | t
    · exact .inl ⟨k.rd a _ (fun _ _ z => nomatch z) t1 t2, fun z => t2 (x a z)⟩
    · exact .inr t
  | .lst ds, v, h => by
    unfold Rp at h ⊢
    obtain ⟨a, vs, e, t, l⟩ := h
    exact ⟨a, vs, e, ⟨k.rd a _ (fun _ _ z => nomatch z) t.1 t.2, fun z => t.2 (x a z)⟩, RpL.keep x k l⟩
  | .dct ks ds, v, h => by
    unfold Rp at h ⊢
    obtain ⟨a, kvs, e, t, e2, l⟩ := h
    exact ⟨a, kvs, e, ⟨k.rd a _ (fun _ _ z => nomatch z) t.1 t.2, fun z => t.2 (x a z)⟩, e2, RpL.keep x k l⟩
theorem RpL.keep (x : ∀ a, Y a → X a) (k : Kp X H H') : ∀ {ds : List D} {vs : List V}, RpL K X H ds vs → RpL K Y H' ds vs
  | [], vs, h => by unfold RpL at h ⊢; exact h
  | d :: ds, vs, h => by
    unfold RpL at h ⊢
    obtain ⟨v, ws, e, h1, h2⟩ := h
    exact ⟨v, ws, e, Rp.keep x k h1, RpL.keep x k h2⟩
end
mutual
/-- a place where nothing stands is away from it -/
theorem Rp.away {p : Addr} (n : H p = none) : ∀ {d : D} {v : V}, Rp K X H d v → Rp K (fun a => X a ∨ a = p) H d v
  | .non, v, h => by unfold Rp at h ⊢; exact h
  | .bl b, v, h => by unfold Rp at h ⊢; exact h
  | .int i, v, h => by unfold Rp at h ⊢; exact h
  | .str z, v, h => by unfold Rp at h ⊢; exact h
  | .tup ds, v, h => by
    unfold Rp at h ⊢
    obtain ⟨a, vs, e, t, l⟩ := h
    refine ⟨a, vs, e, ?_, RpL.away n l⟩
    rcases t with ⟨ob, t1, t0, t2⟩ | t
    · refine .inl ⟨ob, t1, t0, fun z => z.elim t2 fun z => ?_⟩
      subst z
      rw [n] at t1
      cases t1
    · exact .inr t
  | .scr ds, v, h => by
    unfold Rp at h ⊢
    obtain ⟨a, vs, e, t, l⟩ := h
    refine ⟨a, vs, e, ?_, RpL.away n l⟩
    rcases t with ⟨t1, t2⟩ | t
    · refine .inl ⟨t1, fun z => z.elim t2 fun z => ?_⟩
      subst z
      rcases t1 with t1 | ⟨o, t1⟩ <;> (rw [n] at t1; cases t1)
    · exact .inr t
  | .lst ds, v, h => by
    unfold Rp at h ⊢
    obtain ⟨a, vs, e, t, l⟩ := h
    refine ⟨a, vs, e, ⟨t.1, fun z => z.elim t.2 fun z => ?_⟩, RpL.away n l⟩
    subst z
    rcases t.1 with t1 | ⟨o, t1⟩ <;> (rw [n] at t1; cases t1)
  | .dct ks ds, v, h => by
    unfold Rp at h ⊢
    obtain ⟨a, kvs, e, t, e2, l⟩ := h
    refine ⟨a, kvs, e, ⟨t.1, fun z => z.elim t.2 fun z => ?_⟩, e2, RpL.away n l⟩
    subst z
    rcases t.1 with t1 | ⟨o, t1⟩ <;> (rw [n] at t1; cases t1)
theorem RpL.away {p : Addr} (n : H p = none) : ∀ {ds : List D} {vs : List V}, RpL K X H ds vs → RpL K (fun a => X a ∨ a = p) H ds vs
  | [], vs, h => by unfold RpL at h ⊢; exact h
  | d :: ds, vs, h => by
    unfold RpL at h ⊢
    obtain ⟨v, ws, e, h1, h2⟩ := h
    exact ⟨v, ws, e, Rp.away n h1, RpL.away n h2⟩
end
end
/-- the owned thing at a -/
def OwAt (K : PySem.W.Frag) (X : AP) (H : Hp) (a : Addr) : Ow → Prop
  | .lst ds => ∃ vs, H a = some (.lst vs) ∧ RpL K X H ds vs
  | .dct ks ds => ∃ kvs, H a = some (.dK kvs) ∧ kvs.map (·.1) = ks ∧ RpL K X H ds (kvs.map (·.2))
theorem OwAt.keep {K : PySem.W.Frag} {X Y : AP} {H H' : Hp} {a : Addr} {o : Ow} (h : OwAt K X H a o) (x : ∀ a, Y a → X a) (k : Kp X H H') (ka : ∀ u, H a = some u → H' a = some u) : OwAt K Y H' a o := by
  cases o with
  | lst ds =>
    obtain ⟨vs, e, r⟩ := h
    exact ⟨vs, ka _ e, r.keep x k⟩
  | dct ks ds =>
    obtain ⟨kvs, e, e2, r⟩ := h
    exact ⟨kvs, ka _ e, e2, r.keep x k⟩
theorem OwAt.there {K : PySem.W.Frag} {X : AP} {H : Hp} {a : Addr} {o : Ow} (h : OwAt K X H a o) : H a ≠ none := by
  cases o with
  | lst ds =>
    obtain ⟨vs, e, r⟩ := h
    rw [e]; simp
  | dct ks ds =>
    obtain ⟨kvs, e, e2, r⟩ := h
    rw [e]; simp
/-- given up as a value -/
theorem OwAt.rp {K : PySem.W.Frag} {X Y : AP} {H : Hp} {a : Addr} {o : Ow} (h : OwAt K X H a o) (x : ∀ a, Y a → X a) (n : ¬ Y a) : Rp K Y H o.d (.ref a) := by
  cases o with
  | lst ds =>
    obtain ⟨vs, e, r⟩ := h
    unfold Ow.d Rp
    exact ⟨a, vs, rfl, ⟨.inl e, n⟩, r.keep x Kp.refl⟩
  | dct ks ds =>
    obtain ⟨kvs, e, e2, r⟩ := h
    unfold Ow.d Rp
    exact ⟨a, kvs, rfl, ⟨.inl e, n⟩, e2, r.keep x Kp.refl⟩
theorem OwAt.away {K : PySem.W.Frag} {X : AP} {H : Hp} {a p : Addr} {o : Ow} (h : OwAt K X H a o) (n : H p = none) : OwAt K (fun a => X a ∨ a = p) H a o := by
  cases o with
  | lst ds =>
    obtain ⟨vs, e, r⟩ := h
    exact ⟨vs, e, r.away n⟩
  | dct ks ds =>
    obtain ⟨kvs, e, e2, r⟩ := h
    exact ⟨kvs, e, e2, r.away n⟩
end DL

set_option Elab.async false
set_option linter.all false
set_option maxRecDepth 100000
namespace DL
open PySem PySem.Spec PyProof.Rows L2

/-- what stays through a body: what is shut out, the heap at the start, the caller's own thing, values in hand -/
structure Fx where
  X0 : AP
  He : Hp
  ioa : Option Addr
  tmp : List (D × V)
  fz : List (Addr × Obj × List (Key × V))
  hd : List (Addr × HO)
  hx : ∀ l ∈ hd, X0 l.1
def Fx.ex (c : Fx) (p : Addr) : Fx := { c with X0 := fun a => c.X0 a ∨ a = p, hx := fun l h => .inl (c.hx l h) }
def Fx.push (c : Fx) (d : D) (v : V) : Fx := { c with tmp := (d, v) :: c.tmp }
def Fx.lock (c : Fx) (a : Addr) (ob : Obj) (kvs : List (Key × V)) : Fx := { c with fz := (a, ob, kvs) :: c.fz }
/-- u stands at a, and a is shut out -/
def Fx.hold (c : Fx) (a : Addr) (u : HO) (h : c.X0 a) : Fx := { c with hd := (a, u) :: c.hd, hx := fun l q => (List.mem_cons.mp q).elim (fun e => by rw [e]; exact h) (c.hx l) }
/-- what stood at b stands there; a dict may have been locked for good -/
def Still (X : AP) (b : Addr) (o : HO) (H : Hp) : Prop := H b = some o ∨ (¬ X b ∧ ∃ ob kvs, o = .dK kvs ∧ H b = some (.frz ob (.dK kvs)))

def OwnAt (σ : Sg) (ρ : En) (i : Nat) (a : Addr) : Prop := σ[i]? = some (some (.ref a)) ∧ ∃ o, ρ[i]? = some (.ow o) ∨ ρ[i]? = some (.io o)
def Xo (c : Fx) (σ : Sg) (ρ : En) : AP := fun a => c.X0 a ∨ ∃ i, OwnAt σ ρ i a

structure ER (K : PySem.W.Frag) (c : Fx) (σ : Sg) (H : Hp) (ρ : En) : Prop where
  len : σ.length = ρ.length
  va : ∀ (i : Nat) (d : D), ρ[i]? = some (.va d) → ∃ v, σ[i]? = some (some v) ∧ Rp K (Xo c σ ρ) H d v
  ow : ∀ (i : Nat) (o : Ow), ρ[i]? = some (.ow o) → ∃ a, σ[i]? = some (some (.ref a)) ∧ OwAt K (Xo c σ ρ) H a o ∧ ¬ c.X0 a ∧ c.He a = none
  io : ∀ (i : Nat) (o : Ow), ρ[i]? = some (.io o) → ∃ a, σ[i]? = some (some (.ref a)) ∧ OwAt K (Xo c σ ρ) H a o ∧ ¬ c.X0 a ∧ c.ioa = some a
  inj : ∀ i j a, OwnAt σ ρ i a → OwnAt σ ρ j a → i = j
  fr : ∀ b o, c.He b = some o → c.ioa ≠ some b → Still c.X0 b o H
  fz : ∀ l ∈ c.fz, H l.1 = some (.frz l.2.1 (.dK l.2.2))
  hd : ∀ l ∈ c.hd, H l.1 = some l.2
  iot : ∀ a, c.ioa = some a → H a ≠ none
  x0 : ∀ a, c.X0 a → H a ≠ none
  tmp : ∀ p ∈ c.tmp, Rp K (Xo c σ ρ) H p.1 p.2

section
variable {K : PySem.W.Frag} {c : Fx} {σ : Sg} {H H' : Hp} {ρ : En} {i j : Nat} {a p : Addr} {o : Ow} {d : D} {v : V}

theorem Still.kept {X : AP} {b : Addr} {o : HO} {H H' : Hp} (h : Still X b o H) (k : ∀ b u, H b = some u → H' b = some u) : Still X b o H' := by
  rcases h with h | ⟨n, ob, kvs, e, h⟩
  · exact .inl (k _ _ h)
  · exact .inr ⟨n, ob, kvs, e, k _ _ h⟩
theorem Still.there {X : AP} {b : Addr} {o : HO} {H : Hp} (h : Still X b o H) : H b ≠ none := by
  rcases h with h | ⟨n, ob, kvs, e, h⟩ <;> (rw [h]; simp)
theorem Rd.none {H : Hp} {a : Addr} {u : HO} (n : H a = none) (h : Rd H a u) : False := by
  rcases h with h | ⟨o, h⟩ <;> (rw [n] at h; cases h)
theorem ER.own (E : ER K c σ H ρ) (h : OwnAt σ ρ i a) : ∃ o, (ρ[i]? = some (.ow o) ∨ ρ[i]? = some (.io o)) ∧ OwAt K (Xo c σ ρ) H a o ∧ ¬ c.X0 a := by
  obtain ⟨hs, o, h | h⟩ := h
  · obtain ⟨b, e, ho, n, _⟩ := E.ow i o h
    rw [hs] at e
    cases e
    exact ⟨o, .inl h, ho, n⟩
  · obtain ⟨b, e, ho, n, _⟩ := E.io i o h
    rw [hs] at e
    cases e
    exact ⟨o, .inr h, ho, n⟩
/-- all objects kept -/
theorem ER.ext (E : ER K c σ H ρ) (k : ∀ b u, H b = some u → H' b = some u) : ER K c σ H' ρ := by
  have kr : Kp (Xo c σ ρ) H H' := .all k
  have kn : ∀ b, H b ≠ none → H' b ≠ none := fun b h z => by
    cases e : H b with
    | none => exact h e
    | some u => rw [k _ _ e] at z; cases z
  refine ⟨E.len, fun i d h => ?_, fun i o h => ?_, fun i o h => ?_, E.inj, fun b o h1 h2 => (E.fr b o h1 h2).kept k, fun l h => k _ _ (E.fz l h), fun l h => k _ _ (E.hd l h), fun a h => kn _ (E.iot a h), fun a h => kn _ (E.x0 a h), fun q hq => (E.tmp q hq).keep (fun _ z => z) kr⟩
  · obtain ⟨v, e, r⟩ := E.va i d h
    exact ⟨v, e, r.keep (fun _ z => z) kr⟩
  · obtain ⟨a, e, r, n⟩ := E.ow i o h
    exact ⟨a, e, r.keep (fun _ z => z) kr fun u => k _ u, n⟩
  · obtain ⟨a, e, r, n⟩ := E.io i o h
    exact ⟨a, e, r.keep (fun _ z => z) kr fun u => k _ u, n⟩
theorem ER.he_none (E : ER K c σ H ρ) (n : H p = none) : c.He p = none := by
  cases e : c.He p with
  | none => rfl
  | some u =>
    by_cases h1 : c.ioa = some p
    · exact absurd n (E.iot p h1)
    · exact absurd n (E.fr p u e h1).there
theorem upd_keep {H : Hp} {p : Addr} {u : HO} (n : H p = none) : ∀ b w, H b = some w → upd H p u b = some w := fun b w h => by
  rw [upd_ne (ne_of_none h n)]
  exact h
/-- a place where nothing stands may be shut out -/
theorem ER.exn (E : ER K c σ H ρ) (n : H p = none) (y : ∀ a, H a ≠ none → H' a ≠ none) (k : ∀ b u, H b = some u → H' b = some u) (t : H' p ≠ none) : ER K (c.ex p) σ H' ρ := by
  have kr : Kp (fun a => Xo c σ ρ a ∨ a = p) H H' := .all k
  have xx : ∀ a, Xo (c.ex p) σ ρ a → Xo c σ ρ a ∨ a = p := fun a h => by
    rcases h with (h | h) | h
    · exact .inl (.inl h)
    · exact .inr h
    · exact .inl (.inr h)
  refine ⟨E.len, fun i d h => ?_, fun i o h => ?_, fun i o h => ?_, E.inj, fun b o h1 h2 => ?_, fun l h => k _ _ (E.fz l h), fun l h => k _ _ (E.hd l h), fun a h => y _ (E.iot a h), fun a h => ?_, fun q hq => ((E.tmp q hq).away n).keep xx kr⟩
  · obtain ⟨v, e, r⟩ := E.va i d h
    exact ⟨v, e, (r.away n).keep xx kr⟩
  · obtain ⟨a, e, r, n1, n2⟩ := E.ow i o h
    refine ⟨a, e, (r.away n).keep xx kr fun u => k _ u, fun z => z.elim n1 fun z => ?_, n2⟩
    subst z
    exact r.there n
  · obtain ⟨a, e, r, n1, n2⟩ := E.io i o h
    refine ⟨a, e, (r.away n).keep xx kr fun u => k _ u, fun z => z.elim n1 fun z => ?_, n2⟩
    subst z
    exact r.there n
  · rcases E.fr b o h1 h2 with q | ⟨q, q2⟩
    · exact .inl (k _ _ q)
    · obtain ⟨ob, kvs, e, q3⟩ := q2
      refine .inr ⟨fun z => z.elim q fun z => ?_, ob, kvs, e, k _ _ q3⟩
      rw [z] at q3
      rw [n] at q3
      cases q3
  · rcases h with h | h
    · exact y _ (E.x0 a h)
    · subst h
      exact t
theorem ER.nx0 (E : ER K c σ H ρ) (n : H p = none) : ¬ c.X0 p := fun z => E.x0 p z n
/-- a new object -/
theorem ER.alloc {u : HO} (E : ER K c σ H ρ) (n : H p = none) : ER K (c.ex p) σ (upd H p u) ρ :=
  E.exn n (fun a h z => by
    by_cases e : a = p
    · subst e
      exact h n
    · rw [upd_ne e] at z
      exact h z) (upd_keep n) (by rw [upd_same]; simp)
/-- less is shut out -/
theorem ER.unex (E : ER K (c.ex p) σ H ρ) : ER K c σ H ρ := by
  have xx : ∀ a, Xo c σ ρ a → Xo (c.ex p) σ ρ a := fun a h => by
    rcases h with h | h
    · exact .inl (.inl h)
    · exact .inr h
  refine ⟨E.len, fun i d h => ?_, fun i o h => ?_, fun i o h => ?_, E.inj, fun b o h1 h2 => (E.fr b o h1 h2).imp (fun z => z) fun ⟨q, q2⟩ => ⟨fun z => q (.inl z), q2⟩, E.fz, E.hd, E.iot, fun a h => E.x0 a (.inl h), fun q hq => (E.tmp q hq).keep xx Kp.refl⟩
  · obtain ⟨v, e, r⟩ := E.va i d h
    exact ⟨v, e, r.keep xx Kp.refl⟩
  · obtain ⟨a, e, r, n1, n2⟩ := E.ow i o h
    exact ⟨a, e, r.keep xx Kp.refl fun _ z => z, fun z => n1 (.inl z), n2⟩
  · obtain ⟨a, e, r, n1, n2⟩ := E.io i o h
    exact ⟨a, e, r.keep xx (Kp.refl) fun _ z => z, fun z => n1 (.inl z), n2⟩
theorem Xo.ex (h : Xo c σ ρ a) : Xo (c.ex p) σ ρ a := by
  rcases h with h | h
  · exact .inl (.inl h)
  · exact .inr h
/-- a new thing given up as a value -/
theorem ER.newVa (E : ER K (c.ex p) σ H ρ) (h : OwAt K (Xo (c.ex p) σ ρ) H p o) (nx : ¬ c.X0 p) : Rp K (Xo c σ ρ) H o.d (.ref p) :=
  h.rp (fun _ z => z.ex) fun z => by
    rcases z with z | ⟨i, z⟩
    · exact nx z
    · obtain ⟨_, _, _, n⟩ := E.own z
      exact n (.inr rfl)

theorem get_set_ne {α : Type} {l : List α} {i j : Nat} {x : α} (h : j ≠ i) : (l.set i x)[j]? = l[j]? := List.getElem?_set_ne (Ne.symm h)
theorem get_set_eq {α : Type} {l : List α} {i : Nat} {x : α} (h : i < l.length) : (l.set i x)[i]? = some x := List.getElem?_set_self h

theorem OwnAt.ne_set {v : Option V} {s : Sl} (h : OwnAt (σ.set i v) (ρ.set i s) j a) (hj : j ≠ i) : OwnAt σ ρ j a := by
  obtain ⟨e, o, q⟩ := h
  rw [get_set_ne hj] at e
  rw [get_set_ne hj] at q
  exact ⟨e, o, q⟩
/-- a slot gets a value -/
theorem ER.setVa (E : ER K c σ H ρ) (r : Rp K (Xo c σ ρ) H d v) (hi : i < ρ.length) (hio : ∀ o, ρ[i]? ≠ some (.io o)) : ER K c (σ.set i (some v)) H (ρ.set i (.va d)) := by
  have hs : i < σ.length := by rw [E.len]; exact hi
  have ow : ∀ j a, OwnAt (σ.set i (some v)) (ρ.set i (.va d)) j a → j ≠ i ∧ OwnAt σ ρ j a := fun j a h => by
    by_cases hj : j = i
    · subst hj
      obtain ⟨e, o, q⟩ := h
      rw [get_set_eq hi] at q
      rcases q with q | q <;> cases q
    · exact ⟨hj, h.ne_set hj⟩
  have xx : ∀ a, Xo c (σ.set i (some v)) (ρ.set i (.va d)) a → Xo c σ ρ a := fun a h => by
    rcases h with h | ⟨j, h⟩
    · exact .inl h
    · exact .inr ⟨j, (ow j a h).2⟩
  refine ⟨by rw [List.length_set, List.length_set]; exact E.len, fun j d' h => ?_, fun j o h => ?_, fun j o h => ?_, fun j k a h1 h2 => E.inj j k a (ow j a h1).2 (ow k a h2).2, E.fr, E.fz, E.hd, E.iot, E.x0, fun q hq => (E.tmp q hq).keep xx Kp.refl⟩
  · by_cases hj : j = i
    · subst hj
      rw [get_set_eq hi] at h
      cases h
      exact ⟨v, get_set_eq hs, r.keep xx Kp.refl⟩
    · rw [get_set_ne hj] at h
      obtain ⟨v', e, r'⟩ := E.va j d' h
      exact ⟨v', by rw [get_set_ne hj]; exact e, r'.keep xx Kp.refl⟩
  · by_cases hj : j = i
    · subst hj
      rw [get_set_eq hi] at h
      cases h
    · rw [get_set_ne hj] at h
      obtain ⟨b, e, r', n⟩ := E.ow j o h
      exact ⟨b, by rw [get_set_ne hj]; exact e, r'.keep xx (Kp.refl) fun _ z => z, n⟩
  · by_cases hj : j = i
    · subst hj
      rw [get_set_eq hi] at h
      cases h
    · rw [get_set_ne hj] at h
      obtain ⟨b, e, r', n⟩ := E.io j o h
      exact ⟨b, by rw [get_set_ne hj]; exact e, r'.keep xx (Kp.refl) fun _ z => z, n⟩
/-- a slot gets a new own thing -/
theorem ER.setOw (E : ER K (c.ex p) σ H ρ) (ho : OwAt K (Xo (c.ex p) σ ρ) H p o) (np : c.He p = none) (nx : ¬ c.X0 p) (hi : i < ρ.length) : ER K c (σ.set i (some (.ref p))) H (ρ.set i (.ow o)) := by
  have hs : i < σ.length := by rw [E.len]; exact hi
  have ow : ∀ j a, OwnAt (σ.set i (some (.ref p))) (ρ.set i (.ow o)) j a → (j = i ∧ a = p) ∨ (j ≠ i ∧ OwnAt σ ρ j a) := fun j a h => by
    by_cases hj : j = i
    · subst hj
      obtain ⟨e, o, q⟩ := h
      rw [get_set_eq hs] at e
      cases e
      exact .inl ⟨rfl, rfl⟩
    · exact .inr ⟨hj, h.ne_set hj⟩
  have nop : ∀ j, ¬ OwnAt σ ρ j p := fun j h => by
    obtain ⟨_, _, _, n⟩ := E.own h
    exact n (.inr rfl)
  have xx : ∀ a, Xo c (σ.set i (some (.ref p))) (ρ.set i (.ow o)) a → Xo (c.ex p) σ ρ a := fun a h => by
    rcases h with h | ⟨j, h⟩
    · exact .inl (.inl h)
    · rcases ow j a h with ⟨_, e⟩ | ⟨_, h⟩
      · exact .inl (.inr e)
      · exact .inr ⟨j, h⟩
  refine ⟨by rw [List.length_set, List.length_set]; exact E.len, fun j d' h => ?_, fun j o' h => ?_, fun j o' h => ?_, fun j k a h1 h2 => ?_, fun b o h1 h2 => (E.fr b o h1 h2).imp (fun z => z) fun ⟨q, q2⟩ => ⟨fun z => q (.inl z), q2⟩, E.fz, E.hd, E.iot, fun a h => E.x0 a (.inl h), fun q hq => (E.tmp q hq).keep xx Kp.refl⟩
  · by_cases hj : j = i
    · subst hj
      rw [get_set_eq hi] at h
      cases h
    · rw [get_set_ne hj] at h
      obtain ⟨v', e, r'⟩ := E.va j d' h
      exact ⟨v', by rw [get_set_ne hj]; exact e, r'.keep xx Kp.refl⟩
  · by_cases hj : j = i
    · subst hj
      rw [get_set_eq hi] at h
      cases h
      exact ⟨p, get_set_eq hs, ho.keep xx (Kp.refl) fun _ z => z, nx, np⟩
    · rw [get_set_ne hj] at h
      obtain ⟨b, e, r', n1, n2⟩ := E.ow j o' h
      exact ⟨b, by rw [get_set_ne hj]; exact e, r'.keep xx (Kp.refl) fun _ z => z, fun z => n1 (.inl z), n2⟩
  · by_cases hj : j = i
    · subst hj
      rw [get_set_eq hi] at h
      cases h
    · rw [get_set_ne hj] at h
      obtain ⟨b, e, r', n1, n2⟩ := E.io j o' h
      exact ⟨b, by rw [get_set_ne hj]; exact e, r'.keep xx (Kp.refl) fun _ z => z, fun z => n1 (.inl z), n2⟩
  · rcases ow j a h1 with ⟨e1, e2⟩ | ⟨_, g1⟩
    · rcases ow k a h2 with ⟨e3, e4⟩ | ⟨_, g2⟩
      · exact e1.trans e3.symm
      · exact absurd (e2 ▸ g2) (nop k)
    · rcases ow k a h2 with ⟨e3, e4⟩ | ⟨_, g2⟩
      · exact absurd (e4 ▸ g1) (nop j)
      · exact E.inj j k a g1 g2
/-- slots are forgotten: any σ', ρ' that agree where ρ' knows something -/
theorem ER.forget {σ' : Sg} {ρ' : En} (E : ER K c σ H ρ) (hl : σ'.length = ρ'.length) (h : ∀ (i : Nat) (s : Sl), ρ'[i]? = some s → s ≠ .no → ρ[i]? = some s ∧ σ'[i]? = σ[i]?) : ER K c σ' H ρ' := by
  have ow : ∀ j a, OwnAt σ' ρ' j a → OwnAt σ ρ j a := fun j a q => by
    obtain ⟨e, o, q⟩ := q
    rcases q with q | q
    · obtain ⟨h1, h2⟩ := h j _ q (by simp)
      exact ⟨h2.symm.trans e, o, .inl h1⟩
    · obtain ⟨h1, h2⟩ := h j _ q (by simp)
      exact ⟨h2.symm.trans e, o, .inr h1⟩
  have xx : ∀ a, Xo c σ' ρ' a → Xo c σ ρ a := fun a h => by
    rcases h with h | ⟨j, h⟩
    · exact .inl h
    · exact .inr ⟨j, ow j a h⟩
  refine ⟨hl, fun j d' q => ?_, fun j o q => ?_, fun j o q => ?_, fun j k a h1 h2 => E.inj j k a (ow j a h1) (ow k a h2), E.fr, E.fz, E.hd, E.iot, E.x0, fun q hq => (E.tmp q hq).keep xx Kp.refl⟩
  · obtain ⟨h1, h2⟩ := h j _ q (by simp)
    obtain ⟨v', e, r'⟩ := E.va j d' h1
    exact ⟨v', h2.trans e, r'.keep xx Kp.refl⟩
  · obtain ⟨h1, h2⟩ := h j _ q (by simp)
    obtain ⟨b, e, r', n⟩ := E.ow j o h1
    exact ⟨b, h2.trans e, r'.keep xx (Kp.refl) fun _ z => z, n⟩
  · obtain ⟨h1, h2⟩ := h j _ q (by simp)
    obtain ⟨b, e, r', n⟩ := E.io j o h1
    exact ⟨b, h2.trans e, r'.keep xx (Kp.refl) fun _ z => z, n⟩
/-- an own thing given up: a value from now on -/
theorem ER.demote (E : ER K c σ H ρ) (h : ρ[i]? = some (.ow o)) : ∃ a, σ[i]? = some (some (.ref a)) ∧ ER K c σ H (ρ.set i (.va o.d)) ∧ Rp K (Xo c σ (ρ.set i (.va o.d))) H o.d (.ref a) := by
  obtain ⟨a, e, ho, nx, nh⟩ := E.ow i o h
  have hi : i < ρ.length := (List.getElem?_eq_some_iff.mp h).1
  have ow : ∀ j b, OwnAt σ (ρ.set i (.va o.d)) j b → j ≠ i ∧ OwnAt σ ρ j b := fun j b q => by
    by_cases hj : j = i
    · subst hj
      obtain ⟨_, o, q⟩ := q
      rw [get_set_eq hi] at q
      rcases q with q | q <;> cases q
    · obtain ⟨e, o, q⟩ := q
      rw [get_set_ne hj] at q
      exact ⟨hj, e, o, q⟩
  have xx : ∀ b, Xo c σ (ρ.set i (.va o.d)) b → Xo c σ ρ b := fun b q => by
    rcases q with q | ⟨j, q⟩
    · exact .inl q
    · exact .inr ⟨j, (ow j b q).2⟩
  have na : ¬ Xo c σ (ρ.set i (.va o.d)) a := fun q => by
    rcases q with q | ⟨j, q⟩
    · exact nx q
    · obtain ⟨h1, h2⟩ := ow j a q
      exact h1 (E.inj j i a h2 ⟨e, o, .inl h⟩)
  have rp := ho.rp xx na
  refine ⟨a, e, ⟨by rw [List.length_set]; exact E.len, fun j d' q => ?_, fun j o q => ?_, fun j o q => ?_, fun j k b h1 h2 => E.inj j k b (ow j b h1).2 (ow k b h2).2, E.fr, E.fz, E.hd, E.iot, E.x0, fun q hq => (E.tmp q hq).keep xx Kp.refl⟩, rp⟩
  · by_cases hj : j = i
    · subst hj
      rw [get_set_eq hi] at q
      cases q
      exact ⟨.ref a, e, rp⟩
    · rw [get_set_ne hj] at q
      obtain ⟨v', e, r'⟩ := E.va j d' q
      exact ⟨v', e, r'.keep xx Kp.refl⟩
  · by_cases hj : j = i
    · subst hj
      rw [get_set_eq hi] at q
      cases q
    · rw [get_set_ne hj] at q
      obtain ⟨b, e, r', n⟩ := E.ow j o q
      exact ⟨b, e, r'.keep xx (Kp.refl) fun _ z => z, n⟩
  · by_cases hj : j = i
    · subst hj
      rw [get_set_eq hi] at q
      cases q
    · rw [get_set_ne hj] at q
      obtain ⟨b, e, r', n⟩ := E.io j o q
      exact ⟨b, e, r'.keep xx (Kp.refl) fun _ z => z, n⟩
/-- .. an own thing's new content -/
def Sl.put : Sl → Ow → Sl
  | .io _, o => .io o
  | _, o => .ow o
theorem ER.mut (E : ER K c σ H ρ) {u : HO} {o' : Ow} (h : OwnAt σ ρ i a) (k : ∀ b w, b ≠ a → H b = some w → H' b = some w) (ho : OwAt K (Xo c σ ρ) H' a o') : ER K c σ H' (ρ.set i ((ρ.getD i .no).put o')) := by
  obtain ⟨hs, o, hr⟩ := h
  have hown : OwnAt σ ρ i a := ⟨hs, o, hr⟩
  have hi : i < ρ.length := by
    rcases hr with hr | hr <;> exact (List.getElem?_eq_some_iff.mp hr).1
  have ht : ((ρ.getD i .no).put o' = .ow o' ∧ ρ[i]? = some (.ow o)) ∨ ((ρ.getD i .no).put o' = .io o' ∧ ρ[i]? = some (.io o)) := by
    rw [List.getD_eq_getElem?_getD]
    rcases hr with hr | hr
    · exact .inl ⟨by rw [hr]; rfl, hr⟩
    · exact .inr ⟨by rw [hr]; rfl, hr⟩
  generalize (ρ.getD i .no).put o' = t at ht
  have ow : ∀ j b, OwnAt σ (ρ.set i t) j b → OwnAt σ ρ j b := fun j b q => by
    by_cases hj : j = i
    · subst hj
      exact ⟨q.1, o, hr⟩
    · obtain ⟨e, o, q⟩ := q
      rw [get_set_ne hj] at q
      exact ⟨e, o, q⟩
  have xx : ∀ b, Xo c σ (ρ.set i t) b → Xo c σ ρ b := fun b q => by
    rcases q with q | ⟨j, q⟩
    · exact .inl q
    · exact .inr ⟨j, ow j b q⟩
  have kr : Kp (Xo c σ ρ) H H' := ⟨fun b u _ q n => by
    have hb : b ≠ a := fun z => n (.inr ⟨i, by rw [z]; exact hown⟩)
    rcases q with q | ⟨w, q⟩
    · exact .inl (k _ _ hb q)
    · exact .inr ⟨w, k _ _ hb q⟩, fun b ob vs q n => k _ _ (fun z => n (.inr ⟨i, by rw [z]; exact hown⟩)) q⟩
  have kn : ∀ b, H b ≠ none → H' b ≠ none := fun b q z => by
    by_cases hb : b = a
    · subst hb
      exact ho.there z
    · cases e : H b with
      | none => exact q e
      | some u => rw [k _ _ hb e] at z; cases z
  obtain ⟨o2, _, hoa, nxa⟩ := E.own hown
  have nfa : ∀ ob w, H a ≠ some (.frz ob w) := fun ob w z => by
    cases o2 with
    | lst ds => obtain ⟨_, e, _⟩ := hoa; rw [z] at e; cases e
    | dct ks ds => obtain ⟨_, e, _⟩ := hoa; rw [z] at e; cases e
  refine ⟨by rw [List.length_set]; exact E.len, fun j d' q => ?_, fun j o3 q => ?_, fun j o3 q => ?_, fun j k b h1 h2 => E.inj j k b (ow j b h1) (ow k b h2), fun b w h1 h2 => ?_, fun l hl => ?_, fun l hl => ?_, fun b h => kn _ (E.iot b h), fun b h => kn _ (E.x0 b h), fun q hq => (E.tmp q hq).keep xx kr⟩
  · by_cases hj : j = i
    · subst hj
      rw [get_set_eq hi] at q
      rcases ht with ⟨z, _⟩ | ⟨z, _⟩ <;> (rw [z] at q; cases q)
    · rw [get_set_ne hj] at q
      obtain ⟨v', e, r'⟩ := E.va j d' q
      exact ⟨v', e, r'.keep xx kr⟩
  · by_cases hj : j = i
    · subst hj
      rw [get_set_eq hi] at q
      rcases ht with ⟨z, z2⟩ | ⟨z, z2⟩
      · rw [z] at q
        cases q
        obtain ⟨b, e, _, n1, n2⟩ := E.ow j o z2
        rw [hs] at e
        cases e
        exact ⟨a, hs, ho.keep xx (Kp.refl) fun _ z => z, n1, n2⟩
      · rw [z] at q
        cases q
    · rw [get_set_ne hj] at q
      obtain ⟨b, e, r', n⟩ := E.ow j o3 q
      refine ⟨b, e, r'.keep xx kr fun u hu => ?_, n⟩
      by_cases hb : b = a
      · subst hb
        exact absurd (E.inj j i b ⟨e, o3, .inl q⟩ hown) hj
      · exact k _ _ hb hu
  · by_cases hj : j = i
    · subst hj
      rw [get_set_eq hi] at q
      rcases ht with ⟨z, z2⟩ | ⟨z, z2⟩
      · rw [z] at q
        cases q
      · rw [z] at q
        cases q
        obtain ⟨b, e, _, n1, n2⟩ := E.io j o z2
        rw [hs] at e
        cases e
        exact ⟨a, hs, ho.keep xx (Kp.refl) fun _ z => z, n1, n2⟩
    · rw [get_set_ne hj] at q
      obtain ⟨b, e, r', n⟩ := E.io j o3 q
      refine ⟨b, e, r'.keep xx kr fun u hu => ?_, n⟩
      by_cases hb : b = a
      · subst hb
        exact absurd (E.inj j i b ⟨e, o3, .inr q⟩ hown) hj
      · exact k _ _ hb hu
  · have hb : b ≠ a := fun z => by
      subst z
      rcases ht with ⟨_, z2⟩ | ⟨_, z2⟩
      · obtain ⟨b', e, _, _, n2⟩ := E.ow i o z2
        rw [hs] at e
        cases e
        rw [n2] at h1
        cases h1
      · obtain ⟨b', e, _, _, n2⟩ := E.io i o z2
        rw [hs] at e
        cases e
        exact h2 n2
    rcases E.fr b w h1 h2 with q | ⟨n, ob, kvs, e, q⟩
    · exact .inl (k _ _ hb q)
    · exact .inr ⟨n, ob, kvs, e, k _ _ hb q⟩
  · have q := E.fz l hl
    refine k _ _ (fun z => ?_) q
    rw [z] at q
    exact nfa _ _ q
  · exact k _ _ (fun z => nxa (by rw [← z]; exact c.hx l hl)) (E.hd l hl)
/-- values in hand -/
theorem ER.push (E : ER K c σ H ρ) (r : Rp K (Xo c σ ρ) H d v) : ER K (c.push d v) σ H ρ :=
  ⟨E.len, E.va, E.ow, E.io, E.inj, E.fr, E.fz, E.hd, E.iot, E.x0, fun q hq => by
    rcases List.mem_cons.mp hq with e | hq
    · subst e
      exact r
    · exact E.tmp q hq⟩
theorem ER.pop (E : ER K (c.push d v) σ H ρ) : ER K c σ H ρ ∧ Rp K (Xo c σ ρ) H d v :=
  ⟨⟨E.len, E.va, E.ow, E.io, E.inj, E.fr, E.fz, E.hd, E.iot, E.x0, fun q hq => E.tmp q (List.mem_cons_of_mem _ hq)⟩, E.tmp (d, v) List.mem_cons_self⟩
/-- a dict that is only read from now on -/
theorem ER.freeze {ob : Obj} {kvs : List (Key × V)} (E : ER K c σ H ρ) (h : H a = some (.dK kvs)) (no : ¬ Xo c σ ρ a) : ER K (c.lock a ob kvs) σ (upd H a (.frz ob (.dK kvs))) ρ := by
  have kr : Kp (Xo c σ ρ) H (upd H a (.frz ob (.dK kvs))) := ⟨fun b w pl q _ => by
    by_cases hb : b = a
    · subst hb
      rcases q with q | ⟨z, q⟩
      · rw [h] at q
        cases q
        exact .inr ⟨ob, upd_same⟩
      · rw [h] at q
        cases q
    · rcases q with q | ⟨z, q⟩
      · exact .inl (by rw [upd_ne hb]; exact q)
      · exact .inr ⟨z, by rw [upd_ne hb]; exact q⟩, fun b o2 vs q _ => by
      rw [upd_ne]
      · exact q
      · intro z
        subst z
        rw [h] at q
        cases q⟩
  have ko : ∀ i b w, OwnAt σ ρ i b → H b = some w → upd H a (.frz ob (.dK kvs)) b = some w := fun i b w q e => by
    rw [upd_ne]
    · exact e
    · intro z
      subst z
      exact no (.inr ⟨i, q⟩)
  have kn : ∀ b, H b ≠ none → upd H a (.frz ob (.dK kvs)) b ≠ none := fun b q z => by
    by_cases hb : b = a
    · subst hb
      rw [upd_same] at z
      cases z
    · rw [upd_ne hb] at z
      exact q z
  refine ⟨E.len, fun i d h => ?_, fun i o h => ?_, fun i o h => ?_, E.inj, fun b w h1 h2 => ?_, fun l hl => ?_, fun l hl => ?_, fun b q => kn _ (E.iot b q), fun b q => kn _ (E.x0 b q), fun q hq => (E.tmp q hq).keep (fun _ z => z) kr⟩
  · obtain ⟨v, e, r⟩ := E.va i d h
    exact ⟨v, e, r.keep (fun _ z => z) kr⟩
  · obtain ⟨b, e, r, n⟩ := E.ow i o h
    exact ⟨b, e, r.keep (fun _ z => z) kr fun w => ko i b w ⟨e, o, .inl h⟩, n⟩
  · obtain ⟨b, e, r, n⟩ := E.io i o h
    exact ⟨b, e, r.keep (fun _ z => z) kr fun w => ko i b w ⟨e, o, .inr h⟩, n⟩
  · by_cases hb : b = a
    · subst hb
      rcases E.fr b w h1 h2 with q | ⟨n, ob', kvs', e, q⟩
      · rw [h] at q
        cases q
        exact .inr ⟨fun z => no (.inl z), ob, kvs, rfl, upd_same⟩
      · rw [h] at q
        cases q
    · rcases E.fr b w h1 h2 with q | ⟨n, ob', kvs', e, q⟩
      · exact .inl (by rw [upd_ne hb]; exact q)
      · exact .inr ⟨n, ob', kvs', e, by rw [upd_ne hb]; exact q⟩
  · rcases List.mem_cons.mp hl with e | hl
    · subst e
      exact upd_same
    · have q := E.fz l hl
      rw [upd_ne]
      · exact q
      · intro z
        rw [z, h] at q
        cases q
  · rw [upd_ne (fun z => no (.inl (by rw [← z]; exact c.hx l hl)))]
    exact E.hd l hl
/-- .. that is locked already -/
theorem ER.locked {ob : Obj} {kvs : List (Key × V)} (E : ER K c σ H ρ) (h : H a = some (.frz ob (.dK kvs))) : ER K (c.lock a ob kvs) σ H ρ :=
  ⟨E.len, E.va, E.ow, E.io, E.inj, E.fr, fun l hl => by
    rcases List.mem_cons.mp hl with e | hl
    · subst e
      exact h
    · exact E.fz l hl, E.hd, E.iot, E.x0, E.tmp⟩
/-- a held object in place of another one -/
theorem ER.held {u : HO} {h : c.X0 a} (E : ER K c σ H ρ) (e : H a = some u) : ER K (c.hold a u h) σ H ρ :=
  ⟨E.len, E.va, E.ow, E.io, E.inj, E.fr, E.fz, fun l hl => by
    rcases List.mem_cons.mp hl with q | hl
    · subst q
      exact e
    · exact E.hd l hl, E.iot, E.x0, E.tmp⟩
/-- c' knows more than c -/
structure Wk (c' c : Fx) : Prop where
  x0 : c'.X0 = c.X0
  he : c'.He = c.He
  ioa : c'.ioa = c.ioa
  tmp : ∀ p ∈ c.tmp, p ∈ c'.tmp
  fz : ∀ p ∈ c.fz, p ∈ c'.fz
  hd : ∀ p ∈ c.hd, p ∈ c'.hd
theorem Wk.refl : Wk c c := ⟨rfl, rfl, rfl, fun _ z => z, fun _ z => z, fun _ z => z⟩
theorem Wk.push : Wk (c.push d v) c := ⟨rfl, rfl, rfl, fun _ z => List.mem_cons_of_mem _ z, fun _ z => z, fun _ z => z⟩
theorem Wk.lock {ob : Obj} {kvs : List (Key × V)} : Wk (c.lock a ob kvs) c := ⟨rfl, rfl, rfl, fun _ z => z, fun _ z => List.mem_cons_of_mem _ z, fun _ z => z⟩
theorem Wk.hold {u : HO} {h : c.X0 a} : Wk (c.hold a u h) c := ⟨rfl, rfl, rfl, fun _ z => z, fun _ z => z, fun _ z => List.mem_cons_of_mem _ z⟩
theorem Wk.trans {c1 c2 c3 : Fx} (h : Wk c1 c2) (h2 : Wk c2 c3) : Wk c1 c3 := ⟨h.x0.trans h2.x0, h.he.trans h2.he, h.ioa.trans h2.ioa, fun p q => h.tmp p (h2.tmp p q), fun p q => h.fz p (h2.fz p q), fun p q => h.hd p (h2.hd p q)⟩
theorem Wk.ex {c' : Fx} (h : Wk c' c) : Wk (c'.ex p) (c.ex p) := ⟨by show (fun a => c'.X0 a ∨ a = p) = _; rw [h.x0]; rfl, h.he, h.ioa, h.tmp, h.fz, h.hd⟩
theorem Wk.xo {c' : Fx} (h : Wk c' c) : Xo c' σ ρ = Xo c σ ρ := by
  unfold Xo
  rw [h.x0]
theorem ER.wk {c' : Fx} (E : ER K c' σ H ρ) (h : Wk c' c) : ER K c σ H ρ := by
  obtain ⟨h1, h2, h3, h4, h5, h6⟩ := h
  have hx : Xo c' σ ρ = Xo c σ ρ := by
    unfold Xo
    rw [h1]
  obtain ⟨g1, g2, g3, g4, g5, g6, g7, gh, g8, g9, g10⟩ := E
  rw [hx] at g2 g3 g4 g10
  rw [h1] at g3 g4 g6 g9
  rw [h2] at g3 g6
  rw [h3] at g4 g6 g8
  exact ⟨g1, g2, g3, g4, g5, g6, fun l q => g7 l (h5 l q), fun l q => gh l (h6 l q), g8, g9, fun q hq => g10 q (h4 q hq)⟩
end
end DL

set_option Elab.async false
set_option linter.all false
set_option maxRecDepth 100000
namespace DL
open PySem PySem.Spec PyProof.Rows L2

/-! ### meanings -/
abbrev Mm (α : Type) := En → Option (α × En)
/-- how a block ends -/
inductive Fl where
  | nx
  | bk
  | ct
  | rv (d : D)
  | ro (o : Ow)
abbrev Ms := En → Option (Fl × En)

def tE (K : PySem.W.Frag) (m : Mm D) : TE := fun σ H Q => ∃ c ρ d ρ', ER K c σ H ρ ∧ m ρ = some (d, ρ') ∧ ∀ v H', ER K c σ H' ρ' → Rp K (Xo c σ ρ') H' d v → Q v H'
def tO (K : PySem.W.Frag) (m : Mm Ow) : TE := fun σ H Q => ∃ c ρ o ρ', ER K c σ H ρ ∧ m ρ = some (o, ρ') ∧ ∀ p H', ER K (c.ex p) σ H' ρ' → OwAt K (Xo (c.ex p) σ ρ') H' p o → c.He p = none → ¬ c.X0 p → Q (.ref p) H'
def tTm (K : PySem.W.Frag) (m : Mm Bool) : TT := fun σ H Q => ∃ c ρ b ρ', ER K c σ H ρ ∧ m ρ = some (b, ρ') ∧ ∀ H', ER K c σ H' ρ' → Q b H'
def tAm (K : PySem.W.Frag) (m : Mm (List D)) : TA := fun σ H Q => ∃ c ρ ds ρ', ER K c σ H ρ ∧ m ρ = some (ds, ρ') ∧ ∀ vs H', ER K c σ H' ρ' → RpL K (Xo c σ ρ') H' ds vs → Q vs H'
/-- what is wanted behind a block that ends so -/
def EK (K : PySem.W.Frag) (c : Fx) (ρ' : En) (Dn : Ends) : Fl → Prop
  | .nx => ∀ σ' H', ER K c σ' H' ρ' → Dn.nx σ' H'
  | .bk => ∀ σ' H', ER K c σ' H' ρ' → Dn.bk σ' H'
  | .ct => ∀ σ' H', ER K c σ' H' ρ' → Dn.ct σ' H'
  | .rv d => ∀ σ' H' v, ER K c σ' H' ρ' → Rp K (Xo c σ' ρ') H' d v → Dn.rt v H'
  | .ro o => ∀ σ' H' p, ER K (c.ex p) σ' H' ρ' → OwAt K (Xo (c.ex p) σ' ρ') H' p o → c.He p = none → ¬ c.X0 p → Dn.rt (.ref p) H'
def tSm (K : PySem.W.Frag) (m : Ms) : TS := fun Dn σ H => ∃ c ρ f ρ', ER K c σ H ρ ∧ m ρ = some (f, ρ') ∧ EK K c ρ' Dn f

def CE (X : Cx) (e : Expr) (m : Mm D) : Prop := PE X e (tE X.K m)
def CO (X : Cx) (e : Expr) (m : Mm Ow) : Prop := PE X e (tO X.K m)
def CT (X : Cx) (e : Expr) (m : Mm Bool) : Prop := PT X e (tTm X.K m)
def CA (X : Cx) (es : List Expr) (m : Mm (List D)) : Prop := PA X es (tAm X.K m)
def CS (X : Cx) (st : Stmt) (m : Ms) : Prop := PS X st (tSm X.K m)
def CSs (X : Cx) (st : List Stmt) (m : Ms) : Prop := PSs X st (tSm X.K m)

theorem pe_imp {X : Cx} {e : Expr} {t t' : TE} (h : PE X e t) (w : ∀ σ H Q, t' σ H Q → t σ H Q) : PE X e t' := ⟨fun pins s σ H Q I q => h.run pins s σ H Q I (w σ H Q q)⟩
theorem pt_imp {X : Cx} {e : Expr} {t t' : TT} (h : PT X e t) (w : ∀ σ H Q, t' σ H Q → t σ H Q) : PT X e t' := ⟨fun pins s σ H Q I q => h.run pins s σ H Q I (w σ H Q q)⟩
theorem pw_imp {X : Cx} {e : Expr} {t t' : TT} (h : PW X e t) (w : ∀ σ H Q, t' σ H Q → t σ H Q) : PW X e t' := ⟨fun wh pins s σ H Q I q => h.run wh pins s σ H Q I (w σ H Q q)⟩
theorem pa_imp {X : Cx} {es : List Expr} {t t' : TA} (h : PA X es t) (w : ∀ σ H Q, t' σ H Q → t σ H Q) : PA X es t' := ⟨fun pos pins s σ H Q I q => h.run pos pins s σ H Q I (w σ H Q q)⟩
theorem ps_imp {X : Cx} {st : Stmt} {t t' : TS} (h : PS X st t) (w : ∀ Dn σ H, t' Dn σ H → t Dn σ H) : PS X st t' := ⟨fun pins s σ H Dn I q => h.run pins s σ H Dn I (w Dn σ H q)⟩
theorem pss_imp {X : Cx} {st : List Stmt} {t t' : TS} (h : PSs X st t) (w : ∀ Dn σ H, t' Dn σ H → t Dn σ H) : PSs X st t' := ⟨fun pins s σ H Dn I q => h.run pins s σ H Dn I (w Dn σ H q)⟩

/-! ### binding of meanings -/
def bd {α β : Type} (m : Mm α) (f : α → Mm β) : Mm β := fun ρ => match m ρ with
  | some (x, ρ1) => f x ρ1
  | none => none
theorem bd_some {α β : Type} {m : Mm α} {f : α → Mm β} {ρ ρ' : En} {z : β} (h : bd m f ρ = some (z, ρ')) : ∃ x ρ1, m ρ = some (x, ρ1) ∧ f x ρ1 = some (z, ρ') := by
  unfold bd at h
  cases e : m ρ with
  | none => rw [e] at h; cases h
  | some p => obtain ⟨x, ρ1⟩ := p; rw [e] at h; exact ⟨x, ρ1, rfl, h⟩
theorem bd_eq {α β : Type} {m : Mm α} {f : α → Mm β} {ρ ρ1 : En} {x : α} (h : m ρ = some (x, ρ1)) : bd m f ρ = f x ρ1 := by
  unfold bd
  rw [h]
def lf {α : Type} (o : Option α) : Mm α := fun ρ => match o with
  | some x => some (x, ρ)
  | none => none
theorem lf_some {α : Type} {o : Option α} {ρ ρ' : En} {z : α} (h : lf o ρ = some (z, ρ')) : o = some z ∧ ρ = ρ' := by
  unfold lf at h
  cases o with
  | none => cases h
  | some x => cases h; exact ⟨rfl, rfl⟩
theorem lf_eq {α : Type} {o : Option α} {ρ : En} {z : α} (h : o = some z) : lf o ρ = some (z, ρ) := by subst h; rfl
def ret {α : Type} (x : α) : Mm α := fun ρ => some (x, ρ)

/-! ### names -/
/-- a name as a value: an own thing is given up -/
def mVar (i : Nat) : Mm D := fun ρ => match ρ[i]? with
  | some (.va d) => some (d, ρ)
  | some (.ow o) => some (o.d, ρ.set i (.va o.d))
  | _ => none
/-- .. looked at -/
def mBor (i : Nat) : Mm D := fun ρ => match ρ[i]? with
  | some (.va d) => some (d, ρ)
  | some (.ow o) => some (o.d, ρ)
  | some (.io o) => some (o.d, ρ)
  | _ => none
def mC (d : D) : Mm D := ret d

section
variable {X : Cx} {K : PySem.W.Frag} {c : Fx} {σ : Sg} {H H' : Hp} {ρ ρ' : En} {i j : Nat} {a p : Addr} {o : Ow} {d : D} {v : V} {Q : VK}
theorem te_var (h : tE K (mVar i) σ H Q) : tVar i σ H Q := by
  obtain ⟨c, ρ, d, ρ', E, e, q⟩ := h
  unfold mVar at e
  cases z : ρ[i]? with
  | none => rw [z] at e; cases e
  | some s =>
    rw [z] at e
    cases s with
    | no => cases e
    | io _ => cases e
    | va d' =>
      cases e
      obtain ⟨v, hv, r⟩ := E.va i d z
      exact ⟨v, hv, q v H E r⟩
    | ow o =>
      cases e
      obtain ⟨a, ha, E', r⟩ := E.demote z
      exact ⟨.ref a, ha, q _ H E' r⟩
theorem ce_var {x : Str} {pos : Pos} (i : Nat) (hN : X.N[i]? = some x := by rfl) (hv : Vis X.env.scope x := by first | exact Or.inl rfl | exact Or.inr (Or.inl rfl) | exact Or.inr (Or.inr rfl)) (hd : (x == ("__debug__" : Str)) = false := by decide)
    (hcd : (x == ("__classdict__" : Str)) = false := by decide) : CE X (.Name x pos) (mVar i) := pe_imp (pe_var hN hv hd hcd) fun _ _ _ => te_var
theorem te_c (r : ∀ X H, Rp K X H d v) (h : tE K (mC d) σ H Q) : tC v σ H Q := by
  obtain ⟨c, ρ, d', ρ', E, e, q⟩ := h
  cases e
  exact q v H E (r _ _)
theorem ce_int {i j pos} : CE X (.Constant (.int i) j pos) (mC (.int i)) := pe_imp pe_int fun _ _ _ => te_c fun _ _ => by unfold Rp; rfl
theorem ce_bl {b j pos} : CE X (.Constant (.bool b) j pos) (mC (.bl b)) := pe_imp pe_bl fun _ _ _ => te_c fun _ _ => by unfold Rp; rfl
theorem ce_non {j pos} : CE X (.Constant .none j pos) (mC .non) := pe_imp pe_non fun _ _ _ => te_c fun _ _ => by unfold Rp; rfl
theorem ce_str {x j pos} : CE X (.Constant (.str x) j pos) (mC (.str x)) := pe_imp pe_str fun _ _ _ => te_c fun _ _ => by unfold Rp; rfl

/-! ### operands: a name that is looked at, or any expression -/
/-- a thing looked at: its own cell may be owned -/
def Bo (K : PySem.W.Frag) (X : AP) (H : Hp) (d : D) (v : V) : Prop := match d with
  | .lst ds => ∃ a vs, v = .ref a ∧ Rd H a (.lst vs) ∧ RpL K X H ds vs
  | .dct ks ds => ∃ a kvs, v = .ref a ∧ Rd H a (.dK kvs) ∧ kvs.map (·.1) = ks ∧ RpL K X H ds (kvs.map (·.2))
  | d => Rp K X H d v
theorem Rp.bo {X : AP} (h : Rp K X H d v) : Bo K X H d v := by
  cases d with
  | lst ds =>
    unfold Rp at h
    obtain ⟨a, vs, e, l, r⟩ := h
    exact ⟨a, vs, e, l.1, r⟩
  | dct ks ds =>
    unfold Rp at h
    obtain ⟨a, kvs, e, l, e2, r⟩ := h
    exact ⟨a, kvs, e, l.1, e2, r⟩
  | _ => exact h
theorem OwAt.bo {X : AP} (h : OwAt K X H a o) : Bo K X H o.d (.ref a) := by
  cases o with
  | lst ds =>
    obtain ⟨vs, e, r⟩ := h
    exact ⟨a, vs, rfl, .inl e, r⟩
  | dct ks ds =>
    obtain ⟨kvs, e, e2, r⟩ := h
    exact ⟨a, kvs, rfl, .inl e, e2, r⟩
theorem ER.bor (E : ER K c σ H ρ) (h : mBor i ρ = some (d, ρ')) : ρ' = ρ ∧ ∃ v, σ[i]? = some (some v) ∧ Bo K (Xo c σ ρ) H d v := by
  unfold mBor at h
  cases z : ρ[i]? with
  | none => rw [z] at h; cases h
  | some s =>
    rw [z] at h
    cases s with
    | no => cases h
    | va d' =>
      cases h
      obtain ⟨v, hv, r⟩ := E.va i d z
      exact ⟨rfl, v, hv, r.bo⟩
    | ow o =>
      cases h
      obtain ⟨a, ha, r, _⟩ := E.ow i o z
      exact ⟨rfl, _, ha, r.bo⟩
    | io o =>
      cases h
      obtain ⟨a, ha, r, _⟩ := E.io i o z
      exact ⟨rfl, _, ha, r.bo⟩
inductive Opd where
  | n (i : Nat)
  | e (m : Mm D)
def tOpd (K : PySem.W.Frag) : Opd → TE
  | .n i => tVar i
  | .e m => tE K m
def PD (X : Cx) (e : Expr) (o : Opd) : Prop := PE X e (tOpd X.K o)
theorem pd_n {x : Str} {pos : Pos} (i : Nat) (hN : X.N[i]? = some x := by rfl) (hv : Vis X.env.scope x := by first | exact Or.inl rfl | exact Or.inr (Or.inl rfl) | exact Or.inr (Or.inr rfl)) (hd : (x == ("__debug__" : Str)) = false := by decide)
    (hcd : (x == ("__classdict__" : Str)) = false := by decide) : PD X (.Name x pos) (.n i) := pe_var hN hv hd hcd
theorem pd_e {e : Expr} {m : Mm D} (h : CE X e m) : PD X e (.e m) := h
/-- two operands, the left one first; a name is looked at behind both -/
def m2 {α : Type} (a b : Opd) (f : D → D → Option α) : Mm α := match a, b with
  | .e m, .e m' => bd m fun x => bd m' fun y => lf (f x y)
  | .n i, .e m' => bd (mBor i) fun _ => bd m' fun y => bd (mBor i) fun x => lf (f x y)
  | .e m, .n j => bd m fun x => bd (mBor j) fun y => lf (f x y)
  | .n i, .n j => bd (mBor i) fun x => bd (mBor j) fun y => lf (f x y)
def m1 {α : Type} (a : Opd) (f : D → Option α) : Mm α := match a with
  | .e m => bd m fun x => lf (f x)
  | .n i => bd (mBor i) fun x => lf (f x)

/-- what a rule is to do with two operands that are looked at -/
theorem op2 {α : Type} {ma mb : Opd} {f : D → D → Option α} {z : α} {R : V → V → Hp → Prop} (E : ER K c σ H ρ) (e : m2 ma mb f ρ = some (z, ρ'))
    (h : ∀ x y vx vy H', ER K c σ H' ρ' → Bo K (Xo c σ ρ') H' x vx → Bo K (Xo c σ ρ') H' y vy → f x y = some z → R vx vy H') :
    tOpd K ma σ H fun vx H1 => tOpd K mb σ H1 fun vy H2 => R vx vy H2 := by
  cases ma with
  | e m =>
    cases mb with
    | e m' =>
      obtain ⟨x, ρ1, e1, e⟩ := bd_some e
      obtain ⟨y, ρ2, e2, e⟩ := bd_some e
      obtain ⟨e3, rfl⟩ := lf_some e
      exact ⟨c, ρ, x, ρ1, E, e1, fun vx H1 E1 r1 => ⟨c.push x vx, ρ1, y, ρ2, E1.push r1, e2, fun vy H2 E2 r2 => h x y vx vy H2 E2.pop.1 E2.pop.2.bo r2.bo e3⟩⟩
    | n j =>
      obtain ⟨x, ρ1, e1, e⟩ := bd_some e
      obtain ⟨y, ρ2, e2, e⟩ := bd_some e
      obtain ⟨e3, rfl⟩ := lf_some e
      refine ⟨c, ρ, x, ρ1, E, e1, fun vx H1 E1 r1 => ?_⟩
      obtain ⟨rfl, vy, hy, b⟩ := E1.bor e2
      exact ⟨vy, hy, h x y vx vy H1 E1 r1.bo b e3⟩
  | n i =>
    cases mb with
    | e m' =>
      obtain ⟨x0, ρ0, e0, f1⟩ := bd_some e
      obtain ⟨y, ρ1, e1, f2⟩ := bd_some f1
      obtain ⟨x, ρ2, e2, f3⟩ := bd_some f2
      obtain ⟨e3, e4⟩ := lf_some f3
      obtain ⟨z0, vx, hx, _⟩ := E.bor e0
      rw [z0] at e1
      refine ⟨vx, hx, c, ρ, y, ρ1, E, e1, fun vy H1 E1 r1 => ?_⟩
      obtain ⟨z1, vx', hx', b⟩ := E1.bor e2
      rw [hx] at hx'
      cases hx'
      rw [← e4, z1] at h
      exact h x y vx vy H1 E1 b r1.bo e3
    | n j =>
      obtain ⟨x, ρ1, e1, f1⟩ := bd_some e
      obtain ⟨y, ρ2, e2, f2⟩ := bd_some f1
      obtain ⟨e3, e4⟩ := lf_some f2
      obtain ⟨z1, vx, hx, b1⟩ := E.bor e1
      rw [z1] at e2
      obtain ⟨z2, vy, hy, b2⟩ := E.bor e2
      rw [← e4, z2] at h
      exact ⟨vx, hx, vy, hy, h x y vx vy H E b1 b2 e3⟩
theorem op1 {α : Type} {ma : Opd} {f : D → Option α} {z : α} {R : V → Hp → Prop} (E : ER K c σ H ρ) (e : m1 ma f ρ = some (z, ρ'))
    (h : ∀ x vx H', ER K c σ H' ρ' → Bo K (Xo c σ ρ') H' x vx → f x = some z → R vx H') :
    tOpd K ma σ H fun vx H1 => R vx H1 := by
  cases ma with
  | e m =>
    obtain ⟨x, ρ1, e1, f1⟩ := bd_some e
    obtain ⟨e3, e4⟩ := lf_some f1
    rw [← e4] at h
    exact ⟨c, ρ, x, ρ1, E, e1, fun vx H1 E1 r1 => h x vx H1 E1 r1.bo e3⟩
  | n i =>
    obtain ⟨x, ρ1, e1, f1⟩ := bd_some e
    obtain ⟨e3, e4⟩ := lf_some f1
    obtain ⟨z1, vx, hx, b1⟩ := E.bor e1
    rw [← e4, z1] at h
    exact ⟨vx, hx, h x vx H E b1 e3⟩
end
end DL

set_option Elab.async false
set_option linter.all false
set_option maxRecDepth 100000
namespace DL
open PySem PySem.Spec PyProof.Rows L2
/-! ### tuples that are known to the object (no attributes of their own) -/
section
variable {X : Cx} {pins : List (Addr × Obj)} {σ : Sg} {H : Hp} {s : Shared}
/-- a new tuple is laid, known to the object -/
theorem tup_laid {its : List Value} {vs : List V} {t' : Nat} (I : Inv X pins σ H s) (r : Vals vs its) (hz : vs.length ≤ sizeLine) :
    Inv X pins σ (upd H s.heap.objs.size (.frz { cls := .type "tuple", data := .seq its.toArray } (.tup vs))) { s with heap := s.heap.push { cls := .type "tuple", data := .seq its.toArray }, toks := t' } :=
  I.laid (t' := t') (o := .frz { cls := .type "tuple", data := .seq its.toArray } (.tup vs)) (fun b u e => Heap.get?_push_of_some _ e) (Nat.le_refl _) ⟨Heap.get?_push_size _ rfl, hz, its, r, IsTup.new _ _⟩
/-- what follows a new tuple -/
def NewT (H : Hp) (vs : List V) (Q : VK) : Prop := ∀ (p : Addr) (ob : Obj), ob.dict = none → H p = none → Q (.ref p) (upd H p (.frz ob (.tup vs)))
theorem newT_ep {its : List Value} {vs : List V} {Q : VK} {t' : Nat} (I : Inv X pins σ H s) (r : Vals vs its) (hz : vs.length ≤ sizeLine) (q : NewT H vs Q) :
    EP X pins σ Q (.ref s.heap.objs.size) { s with heap := s.heap.push { cls := .type "tuple", data := .seq its.toArray }, toks := t' } :=
  ⟨.ref s.heap.objs.size, _, tup_laid (t' := t') I r hz, rfl, q _ _ rfl (I.hok.fresh (Nat.le_refl _))⟩
def tTupF (t : TA) : TE := fun σ H Q => t σ H fun xs H1 => xs.length ≤ sizeLine ∧ NewT H1 xs Q
theorem pe_tupF {es : List Expr} {k : Nat} {pos : Pos} {t : TA} (h : PA X es t) : PE X (.Tuple es k pos) (tTupF t) := by
  refine ⟨fun pins s σ H Q I hq => ?_⟩
  refine wpAny_Tuple_spliced (thn (h.run pos pins s σ H _ I hq) fun us s1 ⟨xs, H1, I1, r, z, q⟩ => ⟨by rw [← r.length]; exact z, ?_⟩)
  exact newT_ep (t' := s1.toks) I1 r z q
def rCatF (K : PySem.W.Frag) : R2 := fun x y H Q => ∃ a b xs ys, x = .ref a ∧ y = .ref b ∧ SqT K H a xs ∧ SqT K H b ys ∧ xs.length + ys.length ≤ sizeLine ∧
  (xs = [] → Q (.ref b) H) ∧ (xs ≠ [] → ys = [] → Q (.ref a) H) ∧ (xs ≠ [] → ys ≠ [] → NewT H (xs ++ ys) Q)
theorem op_catF : OpR X (binaryOp .Add) (rCatF X.K) := by
  intro pins s σ H x y v u Q I rx ry h
  obtain ⟨a, b, xs, ys, rfl, rfl, ha, hb, hz, q0, q1, q2⟩ := h
  cases rx
  cases ry
  obtain ⟨its, r1, p1, _⟩ := I.tuple ha
  obtain ⟨its2, r2, p2, _⟩ := I.tuple hb
  by_cases hx : xs = []
  · subst hx
    cases r1
    exact cat_tup0 p1 p2 ⟨.ref b, H, I, rfl, q0 rfl⟩
  · refine HT.cat_tup p1 p2 (fun z => hx (r1.nil_iff.mp z)) (fun z => ⟨.ref a, H, I, rfl, q1 hx (r2.nil_iff.mp z)⟩) (fun z => ?_) (by rw [← r1.length, ← r2.length]; exact hz)
    exact newT_ep (t' := s.toks) I (r1.append r2) (by rw [List.length_append]; exact hz) (q2 hx fun w => z (r2.nil_iff.mpr w))
/-- tuple(xs): of a list a new one, of a tuple itself -/
def rTupOf (K : PySem.W.Frag) : List V → Hp → VK → Prop := fun xs H Q => ∃ p ys, xs = [.ref p] ∧ ((SqL K H p ys ∧ NewT H ys Q) ∨ (SqT K H p ys ∧ Q (.ref p) H))
theorem call_tupF : CallR X (.type "tuple") (rTupOf X.K) := by
  intro pins s σ H xs us Q I r h
  obtain ⟨p, ys, rfl, h⟩ := h
  obtain ⟨u, rfl, rx⟩ := vals1 r
  cases rx
  rcases h with ⟨hq, q⟩ | ⟨hq, q⟩
  · obtain ⟨its, r', pl, hz⟩ := I.list hq
    have hlen := r'.length
    refine call_tuple_list pl.isList (fun h' kp => ?_) (by simp only [List.size_toArray] <;> omega)
    have I1 : Inv X pins σ H { s with heap := h' } := I.kept (t' := s.toks) kp
    exact newT_ep (t' := s.toks) I1 r' hz q
  · obtain ⟨its, r', pl, hz⟩ := I.tuple hq
    exact call_tuple_same pl ⟨.ref p, H, I, rfl, q⟩
/-- t[lo:hi] -/
def rSlF (K : PySem.W.Frag) : V → Option Int → Option Int → Hp → VK → Prop := fun x lo hi H Q => ∃ a xs, x = .ref a ∧ SqT K H a xs ∧
  (HT.sIx xs.length 0 lo = 0 ∧ HT.sIx xs.length xs.length hi = xs.length → Q (.ref a) H) ∧ (¬ (HT.sIx xs.length 0 lo = 0 ∧ HT.sIx xs.length xs.length hi = xs.length) → NewT H (cutV xs lo hi) Q)
theorem sl_tupF : SlR X (rSlF X.K) := by
  intro pins s σ H x v vl vu lo hi sl Q I rx hs pl pu h
  obtain ⟨a, xs, rfl, hx, q1, q2⟩ := h
  cases rx
  obtain ⟨its, r, ht, hz⟩ := I.tuple hx
  have hlen : its.toArray.size = xs.length := by rw [List.size_toArray]; exact r.length.symm
  refine ⟨"tuple", _, PyProof.Rows.slot_tuple_getitem.lookup, ht.typeIs, ?_⟩
  by_cases hw : HT.sIx xs.length 0 lo = 0 ∧ HT.sIx xs.length xs.length hi = xs.length
  · exact getItem_tuple_whole ht hs pl pu (by rw [hlen]; exact hw) ⟨.ref a, H, I, rfl, q1 hw⟩
  · refine HT.getItem_tuple_cut ht hs pl pu (by rw [hlen]; exact hw) ?_ (by rw [hlen]; exact hz)
    rw [hlen]
    exact newT_ep (t' := s.toks) I ((r.drop (HT.sIx xs.length 0 lo)).take (HT.sIx xs.length xs.length hi - HT.sIx xs.length 0 lo)) (Nat.le_trans (cutV_length xs lo hi) hz) (q2 hw)
end
end DL

set_option Elab.async false
set_option linter.all false
set_option maxRecDepth 100000
namespace DL
open PySem PySem.Spec PyProof.Rows L2

section
variable {X : Cx} {K : PySem.W.Frag} {c : Fx} {σ : Sg} {H H' : Hp} {ρ ρ' : En} {i j : Nat} {a p : Addr} {o : Ow} {d x y z : D} {v vx vy : V} {Q : VK} {ds : List D} {vs : List V}
/-! ### new objects -/
theorem ER.nXo (E : ER K c σ H ρ) (n : H p = none) : ¬ Xo c σ ρ p := fun z => by
  rcases z with z | ⟨i, z⟩
  · exact E.x0 p z n
  · obtain ⟨_, _, q, _⟩ := E.own z
    exact q.there n
theorem Rp.kept {Xx : AP} (k : ∀ b w, H b = some w → H' b = some w) (r : Rp K Xx H d v) : Rp K Xx H' d v := r.keep (fun _ z => z) (.all k)
theorem RpL.kept {Xx : AP} (k : ∀ b w, H b = some w → H' b = some w) (r : RpL K Xx H ds vs) : RpL K Xx H' ds vs := r.keep (fun _ z => z) (.all k)
theorem ER.newTup {ob : Obj} (E : ER K c σ H ρ) (n : H p = none) (hd : ob.dict = none) (r : RpL K (Xo c σ ρ) H ds vs) : ER K c σ (upd H p (.frz ob (.tup vs))) ρ ∧ Rp K (Xo c σ ρ) (upd H p (.frz ob (.tup vs))) (.tup ds) (.ref p) := by
  refine ⟨E.ext (upd_keep n), ?_⟩
  unfold Rp
  exact ⟨p, vs, rfl, .inl ⟨ob, upd_same, hd, E.nXo n⟩, r.kept (upd_keep n)⟩
theorem ER.newT {Q : VK} (E : ER K c σ H ρ) (r : RpL K (Xo c σ ρ) H ds vs) (k : ∀ v H', ER K c σ H' ρ → Rp K (Xo c σ ρ) H' (.tup ds) v → Q v H') : NewT H vs Q := fun p ob hd n =>
  k _ _ (E.newTup n hd r).1 (E.newTup n hd r).2
theorem RpL.exd (r : RpL K (Xo c σ ρ) H ds vs) (n : H p = none) : RpL K (Xo (c.ex p) σ ρ) H ds vs := (r.away n).keep (fun a q => by
  rcases q with (q | q) | q
  · exact .inl (.inl q)
  · exact .inr q
  · exact .inl (.inr q)) Kp.refl
theorem ER.newLst (E : ER K c σ H ρ) (n : H p = none) (r : RpL K (Xo c σ ρ) H ds vs) : ER K (c.ex p) σ (upd H p (.lst vs)) ρ ∧ OwAt K (Xo (c.ex p) σ ρ) (upd H p (.lst vs)) p (.lst ds) ∧ c.He p = none ∧ ¬ c.X0 p :=
  ⟨E.alloc n, ⟨vs, upd_same, (r.exd n).kept (upd_keep n)⟩, E.he_none n, E.nx0 n⟩
theorem ER.newDct {kvs : List (Key × V)} (E : ER K c σ H ρ) (n : H p = none) (r : RpL K (Xo c σ ρ) H ds (kvs.map (·.2))) : ER K (c.ex p) σ (upd H p (.dK kvs)) ρ ∧ OwAt K (Xo (c.ex p) σ ρ) (upd H p (.dK kvs)) p (.dct (kvs.map (·.1)) ds) ∧ c.He p = none ∧ ¬ c.X0 p :=
  ⟨E.alloc n, ⟨kvs, upd_same, rfl, (r.exd n).kept (upd_keep n)⟩, E.he_none n, E.nx0 n⟩
/-- a new own thing as a value -/
def mOv (m : Mm Ow) : Mm D := bd m fun o => ret o.d
theorem CO.val {e : Expr} {m : Mm Ow} (h : CO X e m) : CE X e (mOv m) := pe_imp h fun σ H Q q => by
  obtain ⟨c, ρ, d, ρ', E, e, q⟩ := q
  obtain ⟨o, ρ1, e1, f1⟩ := bd_some e
  have f2 : some (o.d, ρ1) = some (d, ρ') := f1
  cases f2
  exact ⟨c, ρ, o, _, E, e1, fun p H' E' ho np nx => q _ H' E'.unex (E'.newVa ho nx)⟩

theorem Bo.int {Xx : AP} {i : Int} (h : Bo K Xx H (.int i) v) : v = .int i := by
  unfold Bo Rp at h
  exact h
theorem Bo.bl {Xx : AP} {i : Bool} (h : Bo K Xx H (.bl i) v) : v = .bl i := by
  unfold Bo Rp at h
  exact h
theorem Bo.str {Xx : AP} {i : Str} (h : Bo K Xx H (.str i) v) : v = .str i := by
  unfold Bo Rp at h
  exact h
theorem Bo.non {Xx : AP} (h : Bo K Xx H .non v) : v = .non := by
  unfold Bo Rp at h
  exact h
theorem Bo.tup {Xx : AP} (h : Bo K Xx H (.tup ds) v) : ∃ a vs, v = .ref a ∧ TpAt K Xx H a vs ∧ RpL K Xx H ds vs := by
  unfold Bo Rp at h
  exact h
theorem Bo.scr {Xx : AP} (h : Bo K Xx H (.scr ds) v) : ∃ a vs, v = .ref a ∧ ScAt K Xx H a vs ∧ RpL K Xx H ds vs := by
  unfold Bo Rp at h
  exact h
theorem Rp.int {Xx : AP} {i : Int} : Rp K Xx H (.int i) (.int i) := by unfold Rp; rfl
theorem Rp.bl {Xx : AP} {i : Bool} : Rp K Xx H (.bl i) (.bl i) := by unfold Rp; rfl
theorem Rp.str {Xx : AP} {i : Str} : Rp K Xx H (.str i) (.str i) := by unfold Rp; rfl
theorem Rp.non {Xx : AP} : Rp K Xx H .non .non := by unfold Rp; rfl

/-! ### two-place operators -/
/-- a rule for an operator that gives a value -/
def HasR2 (X : Cx) (f : Value → Value → Sem Value) (g : D → D → Option D) : Prop := ∃ r : R2, OpR X f r ∧ ∀ c σ H ρ x y z vx vy Q, ER X.K c σ H ρ → Bo X.K (Xo c σ ρ) H x vx → Bo X.K (Xo c σ ρ) H y vy → g x y = some z →
  (∀ v H', ER X.K c σ H' ρ → Rp X.K (Xo c σ ρ) H' z v → Q v H') → r vx vy H Q
theorem HasR2.or {f : Value → Value → Sem Value} {g g' : D → D → Option D} (h : HasR2 X f g) (h' : HasR2 X f g') : HasR2 X f fun x y => (g x y).or (g' x y) := by
  obtain ⟨r, o, q⟩ := h
  obtain ⟨r', o', q'⟩ := h'
  refine ⟨_, o.or o', fun c σ H ρ x y z vx vy Q E b1 b2 e k => ?_⟩
  have e : (g x y).or (g' x y) = some z := e
  cases w : g x y with
  | some z1 =>
    rw [w] at e
    exact .inl (q c σ H ρ x y z vx vy Q E b1 b2 (by rw [w]; exact e) k)
  | none =>
    rw [w] at e
    exact .inr (q' c σ H ρ x y z vx vy Q E b1 b2 e k)
theorem HasR2.to {f : Value → Value → Sem Value} {g g' : D → D → Option D} (h : HasR2 X f g) (w : ∀ x y z, g' x y = some z → g x y = some z) : HasR2 X f g' := by
  obtain ⟨r, o, q⟩ := h
  exact ⟨r, o, fun c σ H ρ x y z vx vy Q E b1 b2 e k => q c σ H ρ x y z vx vy Q E b1 b2 (w _ _ _ e) k⟩
variable {e1 e2 e3 : Expr} {oa ob : Opd} {pos : Pos}
theorem ce_op {op : Operator} {g : D → D → Option D} (h : HasR2 X (binaryOp op) g) (ha : PD X e1 oa) (hb : PD X e2 ob) : CE X (.BinOp e1 op e2 pos) (m2 oa ob g) := by
  obtain ⟨r, o, q⟩ := h
  refine pe_imp (pe_op o ha hb) fun σ H Q h => ?_
  obtain ⟨c, ρ, z, ρ', E, e, k⟩ := h
  exact op2 E e fun x y vx vy H' E' b1 b2 w => q c σ H' ρ' x y z vx vy Q E' b1 b2 w k
theorem ce_cmp {op : CmpOp} {g : D → D → Option D} (h : HasR2 X (compareOp op) g) (ha : PD X e1 oa) (hb : PD X e2 ob) (hm : behindInMarks op e2 = false) : CE X (.Compare e1 [op] [e2] pos) (m2 oa ob g) := by
  obtain ⟨r, o, q⟩ := h
  refine pe_imp (pe_cmpR o ha hb hm) fun σ H Q h => ?_
  obtain ⟨c, ρ, z, ρ', E, e, k⟩ := h
  exact op2 E e fun x y vx vy H' E' b1 b2 w => q c σ H' ρ' x y z vx vy Q E' b1 b2 w k
/-- a truth value read as one -/
def asB : D → Option Bool
  | .bl b => some b
  | _ => none
def mTb (m : Mm D) : Mm Bool := bd m fun d => lf (asB d)
theorem asB_some {b : Bool} (h : asB d = some b) : d = .bl b := by
  cases d with
  | bl k =>
    have h : some k = some b := h
    cases h
    rfl
  | _ => cases h
theorem tT_of {m : Mm D} {Q : Bool → Hp → Prop} (h : tTm K (mTb m) σ H Q) : tE K m σ H fun x H' => ∃ k, x = .bl k ∧ Q k H' := by
  obtain ⟨c, ρ, b, ρ', E, e, k⟩ := h
  obtain ⟨d, ρ1, e1, f1⟩ := bd_some e
  obtain ⟨e3, rfl⟩ := lf_some f1
  cases asB_some e3
  exact ⟨c, ρ, _, ρ1, E, e1, fun v H' E' r => ⟨b, by unfold Rp at r; exact r, k H' E'⟩⟩
theorem ct_cmp {op : CmpOp} {g : D → D → Option D} (h : HasR2 X (compareOp op) g) (ha : PD X e1 oa) (hb : PD X e2 ob) (hm : behindInMarks op e2 = false) : CT X (.Compare e1 [op] [e2] pos) (mTb (m2 oa ob g)) := by
  obtain ⟨r, o, q⟩ := h
  refine pt_imp (pt_cmpR o ha hb hm) fun σ H Q h => ?_
  obtain ⟨c, ρ, z, ρ', E, e, k⟩ := tT_of h
  exact op2 E e fun x y vx vy H' E' b1 b2 w => q c σ H' ρ' x y z vx vy _ E' b1 b2 w k

def gAddI : D → D → Option D
  | .int i, .int j => some (.int (i + j))
  | _, _ => none
def gAddS : D → D → Option D
  | .str a, .str b => if a.length + b.length ≤ 16777216 then some (.str (a ++ b)) else none
  | _, _ => none
def gAddT : D → D → Option D
  | .tup a, .tup b => if a.length + b.length ≤ 16777216 then some (.tup (a ++ b)) else none
  | _, _ => none
theorem r_addI : HasR2 X (binaryOp .Add) gAddI := by
  refine ⟨_, op_add, fun c σ H ρ x y z vx vy Q E b1 b2 e k => ?_⟩
  unfold gAddI at e
  split at e <;> cases e
  rw [b1.int, b2.int]
  exact ⟨_, _, rfl, rfl, k _ _ E .int⟩
theorem r_addS : HasR2 X (binaryOp .Add) gAddS := by
  refine ⟨_, op_add_str, fun c σ H ρ x y z vx vy Q E b1 b2 e k => ?_⟩
  unfold gAddS at e
  split at e
  · split at e <;> cases e
    rw [b1.str, b2.str]
    exact ⟨_, _, rfl, rfl, by rw [sizeLine_eq]; assumption, k _ _ E .str⟩
  · cases e
theorem r_addT : HasR2 X (binaryOp .Add) gAddT := by
  refine ⟨_, op_catF, fun c σ H ρ x y z vx vy Q E b1 b2 e k => ?_⟩
  unfold gAddT at e
  split at e
  · split at e
    · cases e
      obtain ⟨a, xs, rfl, t1, r1⟩ := b1.tup
      obtain ⟨b, ys, rfl, t2, r2⟩ := b2.tup
      refine ⟨a, b, xs, ys, rfl, rfl, t1.sq, t2.sq, by rw [sizeLine_eq, r1.length, r2.length]; assumption, fun z => ?_, fun _ z => ?_, fun _ _ => E.newT (r1.app r2) k⟩
      · subst z
        have z := r1.length
        rw [List.eq_nil_of_length_eq_zero z.symm] at k
        refine k _ _ E ?_
        unfold Rp
        exact ⟨b, ys, rfl, t2, r2⟩
      · subst z
        have z := r2.length
        rw [List.eq_nil_of_length_eq_zero z.symm, List.append_nil] at k
        refine k _ _ E ?_
        unfold Rp
        exact ⟨a, xs, rfl, t1, r1⟩
    · cases e
  · cases e
def dAdd (x y : D) : Option D := match x, y with
  | .int i, .int j => some (.int (i + j))
  | .str a, .str b => if a.length + b.length ≤ 16777216 then some (.str (a ++ b)) else none
  | .tup a, .tup b => if a.length + b.length ≤ 16777216 then some (.tup (a ++ b)) else none
  | _, _ => none
theorem r_add : HasR2 X (binaryOp .Add) dAdd := (r_addI.or (r_addS.or r_addT)).to fun x y z h => by
  unfold dAdd at h
  split at h
  · exact h
  · show Option.or none (Option.or (gAddS _ _) _) = _
    unfold gAddS
    split at h <;> cases h
    rename_i q
    simp [q]
  · exact h
  · cases h
def dSub : D → D → Option D
  | .int i, .int j => some (.int (i - j))
  | _, _ => none
theorem r_sub : HasR2 X (binaryOp .Sub) dSub := by
  refine ⟨_, op_sub, fun c σ H ρ x y z vx vy Q E b1 b2 e k => ?_⟩
  unfold dSub at e
  split at e <;> cases e
  rw [b1.int, b2.int]
  exact ⟨_, _, rfl, rfl, k _ _ E .int⟩
/-- the sizes together below a million bits -/
def dMul : D → D → Option D
  | .int i, .int j => if i.natAbs.log2 + j.natAbs.log2 < 1000000 then some (.int (i * j)) else none
  | _, _ => none
theorem r_mul : HasR2 X (binaryOp .Mult) dMul := by
  refine ⟨_, op_mulW, fun c σ H ρ x y z vx vy Q E b1 b2 e k => ?_⟩
  unfold dMul at e
  split at e
  · split at e <;> cases e
    rw [b1.int, b2.int]
    exact ⟨_, _, rfl, rfl, by unfold CMulW; assumption, k _ _ E .int⟩
  · cases e
def dFdiv : D → D → Option D
  | .int i, .int j => if 0 < j ∧ j.natAbs.log2 < 9000 then some (.int (i / j)) else none
  | _, _ => none
theorem r_fdiv : HasR2 X (binaryOp .FloorDiv) dFdiv := by
  refine ⟨_, op_fdivW, fun c σ H ρ x y z vx vy Q E b1 b2 e k => ?_⟩
  unfold dFdiv at e
  split at e
  · split at e <;> cases e
    rw [b1.int, b2.int]
    exact ⟨_, _, rfl, rfl, by unfold CDivW; assumption, k _ _ E .int⟩
  · cases e
def dMod : D → D → Option D
  | .int i, .int j => if 0 < j then some (.int (i % j)) else none
  | _, _ => none
theorem r_mod : HasR2 X (binaryOp .Mod) dMod := by
  refine ⟨_, op_mod, fun c σ H ρ x y z vx vy Q E b1 b2 e k => ?_⟩
  unfold dMod at e
  split at e
  · split at e <;> cases e
    rw [b1.int, b2.int]
    exact ⟨_, _, rfl, rfl, by assumption, k _ _ E .int⟩
  · cases e
def dPow : D → D → Option D
  | .int i, .int j => if 0 ≤ j ∧ j ≤ 1000000 ∧ i.natAbs < 18446744073709551616 then some (.int (i ^ j.toNat)) else none
  | _, _ => none
theorem r_pow : HasR2 X (binaryOp .Pow) dPow := by
  refine ⟨_, op_pow, fun c σ H ρ x y z vx vy Q E b1 b2 e k => ?_⟩
  unfold dPow at e
  split at e
  · split at e <;> cases e
    rw [b1.int, b2.int]
    exact ⟨_, _, rfl, rfl, by unfold CPow; assumption, k _ _ E .int⟩
  · cases e
def dShl : D → D → Option D
  | .int i, .int j => if 0 ≤ j ∧ j ≤ 1000000 ∧ i.natAbs < 18446744073709551616 then some (.int (i * 2 ^ j.toNat)) else none
  | _, _ => none
theorem r_shl : HasR2 X (binaryOp .LShift) dShl := by
  refine ⟨_, op_shl, fun c σ H ρ x y z vx vy Q E b1 b2 e k => ?_⟩
  unfold dShl at e
  split at e
  · split at e <;> cases e
    rw [b1.int, b2.int]
    exact ⟨_, _, rfl, rfl, by unfold CPow; assumption, k _ _ E .int⟩
  · cases e
/-- a list of two lists: a new one -/
def HasO2 (X : Cx) (f : Value → Value → Sem Value) (g : D → D → Option Ow) : Prop := ∃ r : R2, OpR X f r ∧ ∀ c σ H ρ x y z vx vy Q, ER X.K c σ H ρ → Bo X.K (Xo c σ ρ) H x vx → Bo X.K (Xo c σ ρ) H y vy → g x y = some z →
  (∀ p H', ER X.K (c.ex p) σ H' ρ → OwAt X.K (Xo (c.ex p) σ ρ) H' p z → c.He p = none → ¬ c.X0 p → Q (.ref p) H') → r vx vy H Q
theorem co_op {op : Operator} {g : D → D → Option Ow} (h : HasO2 X (binaryOp op) g) (ha : PD X e1 oa) (hb : PD X e2 ob) : CO X (.BinOp e1 op e2 pos) (m2 oa ob g) := by
  obtain ⟨r, o, q⟩ := h
  refine pe_imp (pe_op o ha hb) fun σ H Q h => ?_
  obtain ⟨c, ρ, z, ρ', E, e, k⟩ := h
  exact op2 E e fun x y vx vy H' E' b1 b2 w => q c σ H' ρ' x y z vx vy Q E' b1 b2 w k
def rCatR : R2 := fun x y H Q => ∃ l b xs zs, x = .ref l ∧ y = .ref b ∧ Rd H l (.lst xs) ∧ Rd H b (.lst zs) ∧ xs.length + zs.length ≤ sizeLine ∧ ∀ p, H p = none → Q (.ref p) (upd H p (.lst (xs ++ zs)))
theorem op_catR : OpR X (binaryOp .Add) rCatR := by
  intro pins s σ H x y v u Q I rx ry h
  obtain ⟨l, b, xs, zs, rfl, rfl, hH, hB, hz, q⟩ := h
  cases rx
  cases ry
  obtain ⟨z, its, n, r, e⟩ := hH.ok I.hok
  obtain ⟨z2, its2, n2, r2, e2⟩ := hB.ok I.hok
  have hl := r.length
  have hl2 := r2.length
  refine PySem.P.add_list e e2 ?_ (by rw [List.size_toArray, List.size_toArray]; omega)
  have ea : its.toArray ++ its2.toArray = (its ++ its2).toArray := by simp
  rw [ea]
  exact ⟨.ref _, _, I.lnew (t' := s.toks) (r.append r2) (by rw [List.length_append]; omega), rfl, q _ I.fresh⟩
def dCat : D → D → Option Ow
  | .lst a, .lst b => if a.length + b.length ≤ 16777216 then some (.lst (a ++ b)) else none
  | _, _ => none
theorem Bo.lst {Xx : AP} (h : Bo K Xx H (.lst ds) v) : ∃ a vs, v = .ref a ∧ Rd H a (.lst vs) ∧ RpL K Xx H ds vs := by
  unfold Bo at h
  exact h
theorem Bo.dct {Xx : AP} {ks : List Key} (h : Bo K Xx H (.dct ks ds) v) : ∃ a kvs, v = .ref a ∧ Rd H a (.dK kvs) ∧ kvs.map (·.1) = ks ∧ RpL K Xx H ds (kvs.map (·.2)) := by
  unfold Bo at h
  exact h
theorem r_cat : HasO2 X (binaryOp .Add) dCat := by
  refine ⟨_, op_catR, fun c σ H ρ x y z vx vy Q E b1 b2 e k => ?_⟩
  unfold dCat at e
  split at e
  · split at e <;> cases e
    obtain ⟨a, xs, rfl, t1, r1⟩ := b1.lst
    obtain ⟨b, ys, rfl, t2, r2⟩ := b2.lst
    refine ⟨a, b, xs, ys, rfl, rfl, t1, t2, by rw [sizeLine_eq, r1.length, r2.length]; assumption, fun p np => ?_⟩
    obtain ⟨h1, h2, h3, h4⟩ := E.newLst np (r1.app r2)
    exact k _ _ h1 h2 h3 h4
  · cases e
end
end DL

set_option Elab.async false
set_option linter.all false
set_option maxRecDepth 100000
namespace DL
open PySem PySem.Spec PyProof.Rows L2

/-! ### data as the library's data -/
mutual
def D.py : D → PyData
  | .non => .none
  | .bl b => .bool b
  | .int i => .int i
  | .str x => .str x
  | .tup ds => .tuple (pyL ds)
  | .lst ds => .list (pyL ds)
  | .dct _ _ => .none
  | .scr _ => .none
def pyL : List D → List PyData
  | [] => []
  | d :: ds => d.py :: pyL ds
end
mutual
/-- no dict within -/
def D.pl : D → Bool
  | .tup ds => plL ds
  | .lst ds => plL ds
  | .dct _ _ => false
  | .scr _ => false
  | _ => true
def plL : List D → Bool
  | [] => true
  | d :: ds => d.pl && plL ds
end
theorem pyL_map : ∀ ds : List D, pyL ds = ds.map D.py
  | [] => by unfold pyL; rfl
  | d :: ds => by unfold pyL; rw [pyL_map ds]; rfl

section
variable {X : Cx} {K : PySem.W.Frag} {c : Fx} {σ : Sg} {H H' : Hp} {ρ ρ' : En} {i j : Nat} {a p : Addr} {o : Ow} {d x y z : D} {v vx vy : V} {Q : VK} {ds : List D} {vs : List V} {Xx : AP}
mutual
theorem Rp.dp : ∀ {d : D} {v : V}, Rp K Xx H d v → d.pl = true → Dp K H v d.py
  | .non, v, h, _ => by unfold Rp at h; subst h; unfold D.py; exact .non
  | .bl b, v, h, _ => by unfold Rp at h; subst h; unfold D.py; exact .bl b
  | .int i, v, h, _ => by unfold Rp at h; subst h; unfold D.py; exact .int i
  | .str z, v, h, _ => by unfold Rp at h; subst h; unfold D.py; exact .str z
  | .tup ds, v, h, q => by
    unfold Rp at h
    obtain ⟨a, vs, rfl, t, l⟩ := h
    unfold D.pl at q
    unfold D.py
    exact .tup t.sq (RpL.dp l q)
  | .lst ds, v, h, q => by
    unfold Rp at h
    obtain ⟨a, vs, rfl, t, l⟩ := h
    unfold D.pl at q
    unfold D.py
    exact .lst (.inl t.1) (RpL.dp l q)
  | .dct ks ds, v, h, q => by unfold D.pl at q; cases q
  | .scr ds, v, h, q => by unfold D.pl at q; cases q
theorem RpL.dp : ∀ {ds : List D} {vs : List V}, RpL K Xx H ds vs → plL ds = true → DpAll K H vs (pyL ds)
  | [], vs, h, _ => by rw [h.of_nil]; unfold pyL; exact .nil
  | d :: ds, vs, h, q => by
    obtain ⟨v, ws, rfl, h1, h2⟩ := h.of_cons
    unfold plL at q
    rw [Bool.and_eq_true] at q
    unfold pyL
    exact .cons (Rp.dp h1 q.1) (RpL.dp h2 q.2)
end
theorem Bo.dp (h : Bo K Xx H d v) (q : d.pl = true) : Dp K H v d.py := by
  cases d with
  | lst ds =>
    obtain ⟨a, vs, rfl, t, l⟩ := h.lst
    unfold D.pl at q
    unfold D.py
    exact .lst (.inl t) (l.dp q)
  | dct ks ds => unfold D.pl at q; cases q
  | _ => exact Rp.dp (show Rp K Xx H _ v from h) q

/-! ### == and != -/
def eqOk (x y : D) : Bool := x.pl && y.pl && SeqAt.shaped x.py && SeqAt.shaped y.py
def gEqS (x y : D) : Option Bool := match x, y with
  | .int i, .int j => some (i == j)
  | .str i, .str j => some (i == j)
  | .bl i, .bl j => some (i == j)
  | .non, .non => some true
  | .str _, .int _ => some false
  | .int _, .str _ => some false
  | .str _, .bl _ => some false
  | .bl _, .str _ => some false
  | .non, .int _ => some false
  | .int _, .non => some false
  | .non, .bl _ => some false
  | .bl _, .non => some false
  | .non, .str _ => some false
  | .str _, .non => some false
  | _, _ => none
def gEqB (x y : D) : Option Bool := match gEqS x y with
  | some b => some b
  | none => if eqOk x y then some (PyData.eqv x.py y.py) else none
def dEq (x y : D) : Option D := (gEqB x y).map .bl
def dNe (x y : D) : Option D := (gEqB x y).map fun b => .bl !b
theorem beq_dec {α : Type} [DecidableEq α] (a b : α) : (a == b) = decide (a = b) := by
  rw [Bool.eq_iff_iff]
  simp
theorem gEqS_ok {b : Bool} (b1 : Bo K Xx H x vx) (b2 : Bo K Xx H y vy) (h : gEqS x y = some b) : scal vx vy = true ∧ b = decide (vx = vy) := by
  unfold gEqS at h
  split at h
  · cases h; have e1 := b1.int; have e2 := b2.int; subst e1 e2; exact ⟨rfl, dec_int.symm⟩
  · cases h; have e1 := b1.str; have e2 := b2.str; subst e1 e2; exact ⟨rfl, dec_str.symm⟩
  · cases h; have e1 := b1.bl; have e2 := b2.bl; subst e1 e2; exact ⟨rfl, dec_bl.symm⟩
  · cases h; have e1 := b1.non; have e2 := b2.non; subst e1 e2; exact ⟨rfl, rfl⟩
  · cases h; have e1 := b1.str; have e2 := b2.int; subst e1 e2; exact ⟨rfl, rfl⟩
  · cases h; have e1 := b1.int; have e2 := b2.str; subst e1 e2; exact ⟨rfl, rfl⟩
  · cases h; have e1 := b1.str; have e2 := b2.bl; subst e1 e2; exact ⟨rfl, rfl⟩
  · cases h; have e1 := b1.bl; have e2 := b2.str; subst e1 e2; exact ⟨rfl, rfl⟩
  · cases h; have e1 := b1.non; have e2 := b2.int; subst e1 e2; exact ⟨rfl, rfl⟩
  · cases h; have e1 := b1.int; have e2 := b2.non; subst e1 e2; exact ⟨rfl, rfl⟩
  · cases h; have e1 := b1.non; have e2 := b2.bl; subst e1 e2; exact ⟨rfl, rfl⟩
  · cases h; have e1 := b1.bl; have e2 := b2.non; subst e1 e2; exact ⟨rfl, rfl⟩
  · cases h; have e1 := b1.non; have e2 := b2.str; subst e1 e2; exact ⟨rfl, rfl⟩
  · cases h; have e1 := b1.str; have e2 := b2.non; subst e1 e2; exact ⟨rfl, rfl⟩
  · cases h
theorem eqOk_parts {x y : D} (h : eqOk x y = true) : x.pl = true ∧ y.pl = true ∧ SeqAt.shaped x.py = true ∧ SeqAt.shaped y.py = true := by
  unfold eqOk at h
  simp only [Bool.and_eq_true] at h
  exact ⟨h.1.1.1, h.1.1.2, h.1.2, h.2⟩
theorem r_eq (hu : X.A.units + 64 < cLine) : HasR2 X (compareOp .Eq) dEq := by
  refine ⟨_, op_eq.or (op_eqD hu), fun c σ H ρ x y z vx vy Q E b1 b2 e k => ?_⟩
  unfold dEq gEqB at e
  cases w : gEqS x y with
  | some b =>
    rw [w] at e
    cases e
    obtain ⟨h1, h2⟩ := gEqS_ok b1 b2 w
    refine .inl ⟨h1, ?_⟩
    rw [← h2]
    exact k _ _ E .bl
  | none =>
    rw [w] at e
    dsimp only at e
    split at e
    · cases e
      obtain ⟨q1, q2, q3, q4⟩ := eqOk_parts (by assumption)
      exact .inr ⟨_, _, b1.dp q1, b2.dp q2, q3, q4, k _ _ E .bl⟩
    · cases e
theorem r_ne (hu : X.A.units + 64 < cLine) : HasR2 X (compareOp .NotEq) dNe := by
  refine ⟨_, op_ne.or (op_neD hu), fun c σ H ρ x y z vx vy Q E b1 b2 e k => ?_⟩
  unfold dNe gEqB at e
  cases w : gEqS x y with
  | some b =>
    rw [w] at e
    cases e
    obtain ⟨h1, h2⟩ := gEqS_ok b1 b2 w
    refine .inl ⟨h1, ?_⟩
    rw [← h2]
    exact k _ _ E .bl
  | none =>
    rw [w] at e
    dsimp only at e
    split at e
    · cases e
      obtain ⟨q1, q2, q3, q4⟩ := eqOk_parts (by assumption)
      exact .inr ⟨_, _, b1.dp q1, b2.dp q2, q3, q4, k _ _ E .bl⟩
    · cases e
/-! ### the order of ints and texts -/
def dLtI : D → D → Option D
  | .int i, .int j => some (.bl (decide (i < j)))
  | _, _ => none
def dLtS : D → D → Option D
  | .str i, .str j => some (.bl (decide (i.cps.toList < j.cps.toList)))
  | _, _ => none
theorem r_ltI : HasR2 X (compareOp .Lt) dLtI := by
  refine ⟨_, op_lt, fun c σ H ρ x y z vx vy Q E b1 b2 e k => ?_⟩
  unfold dLtI at e
  split at e <;> cases e
  rw [b1.int, b2.int]
  exact ⟨_, _, rfl, rfl, k _ _ E .bl⟩
theorem r_ltS : HasR2 X (compareOp .Lt) dLtS := by
  refine ⟨_, op_lt_str, fun c σ H ρ x y z vx vy Q E b1 b2 e k => ?_⟩
  unfold dLtS at e
  split at e <;> cases e
  rw [b1.str, b2.str]
  exact ⟨_, _, rfl, rfl, k _ _ E .bl⟩
def dLt (x y : D) : Option D := match x, y with
  | .int i, .int j => some (.bl (decide (i < j)))
  | .str i, .str j => some (.bl (decide (i.cps.toList < j.cps.toList)))
  | _, _ => none
theorem r_lt : HasR2 X (compareOp .Lt) dLt := (r_ltI.or r_ltS).to fun x y z h => by
  unfold dLt at h
  split at h
  · exact h
  · exact h
  · cases h
def dLe (x y : D) : Option D := match x, y with
  | .int i, .int j => some (.bl (decide (i ≤ j)))
  | _, _ => none
theorem r_le : HasR2 X (compareOp .LtE) dLe := by
  refine ⟨_, op_le, fun c σ H ρ x y z vx vy Q E b1 b2 e k => ?_⟩
  unfold dLe at e
  split at e <;> cases e
  rw [b1.int, b2.int]
  exact ⟨_, _, rfl, rfl, k _ _ E .bl⟩
def dGt (x y : D) : Option D := match x, y with
  | .int i, .int j => some (.bl (decide (j < i)))
  | _, _ => none
theorem r_gt : HasR2 X (compareOp .Gt) dGt := by
  refine ⟨_, op_gt, fun c σ H ρ x y z vx vy Q E b1 b2 e k => ?_⟩
  unfold dGt at e
  split at e <;> cases e
  rw [b1.int, b2.int]
  exact ⟨_, _, rfl, rfl, k _ _ E .bl⟩
def dGe (x y : D) : Option D := match x, y with
  | .int i, .int j => some (.bl (decide (j ≤ i)))
  | _, _ => none
theorem r_ge : HasR2 X (compareOp .GtE) dGe := by
  refine ⟨_, op_ge, fun c σ H ρ x y z vx vy Q E b1 b2 e k => ?_⟩
  unfold dGe at e
  split at e <;> cases e
  rw [b1.int, b2.int]
  exact ⟨_, _, rfl, rfl, k _ _ E .bl⟩
/-! ### is -/
def D.isNon : D → Bool
  | .non => true
  | _ => false
theorem rp_non_dec (b : Bo K Xx H d v) : decide (v = .non) = d.isNon := by
  cases d with
  | non => have e := b.non; subst e; rfl
  | bl _ => have e := b.bl; subst e; rfl
  | int _ => have e := b.int; subst e; rfl
  | str _ => have e := b.str; subst e; rfl
  | tup _ => obtain ⟨_, _, e, _⟩ := b.tup; subst e; rfl
  | lst _ => obtain ⟨_, _, e, _⟩ := b.lst; subst e; rfl
  | dct _ _ => obtain ⟨_, _, e, _⟩ := b.dct; subst e; rfl
  | scr _ => obtain ⟨_, _, e, _⟩ := b.scr; subst e; rfl
def dIsN (x y : D) : Option D := match y with
  | .non => some (.bl x.isNon)
  | _ => none
def dNotN (x y : D) : Option D := match y with
  | .non => some (.bl (!x.isNon))
  | _ => none
theorem r_isN : HasR2 X (compareOp .Is) dIsN := by
  refine ⟨_, op_isN, fun c σ H ρ x y z vx vy Q E b1 b2 e k => ?_⟩
  unfold dIsN at e
  split at e <;> cases e
  rw [b2.non]
  refine ⟨rfl, ?_⟩
  rw [rp_non_dec b1]
  exact k _ _ E .bl
theorem r_notN : HasR2 X (compareOp .IsNot) dNotN := by
  refine ⟨_, op_notN, fun c σ H ρ x y z vx vy Q E b1 b2 e k => ?_⟩
  unfold dNotN at e
  split at e <;> cases e
  rw [b2.non]
  refine ⟨rfl, ?_⟩
  rw [rp_non_dec b1]
  exact k _ _ E .bl
def dIsB (x y : D) : Option D := match x, y with
  | .bl a, .bl b => some (.bl (a == b))
  | _, _ => none
def dNotB (x y : D) : Option D := match x, y with
  | .bl a, .bl b => some (.bl (a != b))
  | _, _ => none
theorem op_isB : OpR X (compareOp .Is) (fun x y H Q => ∃ a b, x = .bl a ∧ y = .bl b ∧ Q (.bl (a == b)) H) := by
  intro pins s σ H x y v u Q I rx ry h
  obtain ⟨a, b, rfl, rfl, q⟩ := h
  cases rx
  cases ry
  exact is_bool (fin_bl I q rfl)
theorem op_notB : OpR X (compareOp .IsNot) (fun x y H Q => ∃ a b, x = .bl a ∧ y = .bl b ∧ Q (.bl (a != b)) H) := by
  intro pins s σ H x y v u Q I rx ry h
  obtain ⟨a, b, rfl, rfl, q⟩ := h
  cases rx
  cases ry
  exact isnot_bool (fin_bl I q rfl)
theorem r_isB : HasR2 X (compareOp .Is) dIsB := by
  refine ⟨_, op_isB, fun c σ H ρ x y z vx vy Q E b1 b2 e k => ?_⟩
  unfold dIsB at e
  split at e <;> cases e
  rw [b1.bl, b2.bl]
  exact ⟨_, _, rfl, rfl, k _ _ E .bl⟩
theorem r_notB : HasR2 X (compareOp .IsNot) dNotB := by
  refine ⟨_, op_notB, fun c σ H ρ x y z vx vy Q E b1 b2 e k => ?_⟩
  unfold dNotB at e
  split at e <;> cases e
  rw [b1.bl, b2.bl]
  exact ⟨_, _, rfl, rfl, k _ _ E .bl⟩

/-! ### in -/
/-- x in a list or tuple of flat things -/
def flD : D → Bool
  | .non => true
  | .bl _ => true
  | .int _ => true
  | .str _ => true
  | _ => false
def toV : D → V
  | .bl b => .bl b
  | .int i => .int i
  | .str x => .str x
  | _ => .non
theorem Rp.toV (r : Rp K Xx H d v) (f : flD d = true) : v = toV d ∧ flatV v = true := by
  cases d with
  | non => unfold Rp at r; subst r; exact ⟨rfl, rfl⟩
  | bl _ => unfold Rp at r; subst r; exact ⟨rfl, rfl⟩
  | int _ => unfold Rp at r; subst r; exact ⟨rfl, rfl⟩
  | str _ => unfold Rp at r; subst r; exact ⟨rfl, rfl⟩
  | _ => cases f
theorem RpL.toV : ∀ {ds : List D} {vs : List V}, RpL K Xx H ds vs → ds.all flD = true → vs = ds.map DL.toV ∧ vs.all flatV = true
  | [], vs, h, _ => by rw [h.of_nil]; exact ⟨rfl, rfl⟩
  | d :: ds, vs, h, f => by
    obtain ⟨v, ws, rfl, h1, h2⟩ := h.of_cons
    rw [List.all_cons, Bool.and_eq_true] at f
    obtain ⟨e1, e2⟩ := h1.toV f.1
    obtain ⟨e3, e4⟩ := RpL.toV h2 f.2
    rw [e1] at e2 ⊢
    rw [e3] at e4 ⊢
    exact ⟨rfl, by rw [List.all_cons, e2, e4]; rfl⟩
def eqF (x y : D) : Bool := eqV (toV x) (toV y)
def inF (x : D) (ys : List D) : Bool := ys.any fun y => eqF y x
theorem inF_V (x : D) (ys : List D) : inV (toV x) (ys.map toV) = inF x ys := by
  unfold inV inF
  rw [List.any_map]
  rfl
def keyOf : D → Option Key
  | .int i => some (.inl i)
  | .str x => some (.inr x)
  | _ => none
theorem Rp.key {k : Key} (b : Bo K Xx H d v) (h : keyOf d = some k) : v = kV k := by
  cases d with
  | int i => cases h; rw [b.int]; rfl
  | str i => cases h; rw [b.str]; rfl
  | _ => cases h
def hasK (ks : List Key) (k : Key) : Bool := ks.any fun x => decide (x = k)
def lk : List Key → List D → Key → Option D
  | a :: ks, d :: ds, k => if a = k then some d else lk ks ds k
  | _, _, _ => none
def dInB (x y : D) : Option Bool := match y with
  | .lst ds => if flD x && ds.all flD then some (inF x ds) else none
  | .tup ds => if flD x && ds.all flD then some (inF x ds) else none
  | .dct ks _ => (keyOf x).map (hasK ks)
  | _ => none
def dIn (x y : D) : Option D := (dInB x y).map .bl
def dNotIn (x y : D) : Option D := (dInB x y).map fun b => .bl !b
theorem Bo.flat (b : Bo K Xx H d v) (f : flD d = true) : v = toV d ∧ flatV v = true := by
  cases d with
  | lst _ => cases f
  | dct _ _ => cases f
  | _ => exact Rp.toV (show Rp K Xx H _ v from b) f
theorem valV_isSome {kvs : List (Key × V)} {k : Key} : (valV kvs k).isSome = hasK (kvs.map (·.1)) k := by
  unfold valV hasK
  rw [Option.isSome_map, List.any_map, Bool.eq_iff_iff, List.find?_isSome]
  simp
theorem op_dIn (hu : X.A.units + 1 < cLine) : OpR X (compareOp .In) (fun x y H Q => ∃ a o, y = .ref a ∧ DGet H a x o ∧ Q (.bl o.isSome) H) := by
  intro pins s σ H x y v u Q I rx ry h
  obtain ⟨a, o, rfl, g, q⟩ := h
  obtain rfl : u = Value.ref a := ry
  exact d_in hu I g rx fun s3 I3 => ⟨.bl o.isSome, H, I3, rfl, q⟩
theorem op_dNotIn (hu : X.A.units + 1 < cLine) : OpR X (compareOp .NotIn) (fun x y H Q => ∃ a o, y = .ref a ∧ DGet H a x o ∧ Q (.bl !o.isSome) H) := by
  intro pins s σ H x y v u Q I rx ry h
  obtain ⟨a, o, rfl, g, q⟩ := h
  obtain rfl : u = Value.ref a := ry
  exact d_notIn hu I g rx fun s3 I3 => ⟨.bl !o.isSome, H, I3, rfl, q⟩
theorem dInB_ok {neg : Bool} {b : Bool} (b1 : Bo K Xx H x vx) (b2 : Bo K Xx H y vy) (h : dInB x y = some b) (q : Q (.bl (if neg = true then !b else b)) H) :
    rIn K neg vx vy H Q ∨ ∃ a o, vy = .ref a ∧ DGet H a vx o ∧ Q (.bl (if neg = true then !o.isSome else o.isSome)) H := by
  unfold dInB at h
  split at h
  · split at h <;> cases h
    rename_i f
    rw [Bool.and_eq_true] at f
    obtain ⟨a, vs, rfl, t, l⟩ := b2.lst
    obtain ⟨e1, e2⟩ := b1.flat f.1
    obtain ⟨e3, e4⟩ := l.toV f.2
    refine .inl ⟨a, vs, rfl, .inl (.inl t), e2, e4, ?_⟩
    rw [e1, e3, inF_V]
    exact q
  · split at h <;> cases h
    rename_i f
    rw [Bool.and_eq_true] at f
    obtain ⟨a, vs, rfl, t, l⟩ := b2.tup
    obtain ⟨e1, e2⟩ := b1.flat f.1
    obtain ⟨e3, e4⟩ := l.toV f.2
    refine .inl ⟨a, vs, rfl, .inr t.sq, e2, e4, ?_⟩
    rw [e1, e3, inF_V]
    exact q
  · obtain ⟨a, kvs, rfl, t, e2, l⟩ := b2.dct
    cases w : keyOf x with
    | none => rw [w] at h; cases h
    | some k =>
      rw [w] at h
      cases h
      refine .inr ⟨a, valV kvs k, rfl, .inl ⟨kvs, k, t, Rp.key b1 w, rfl⟩, ?_⟩
      rw [valV_isSome, e2]
      exact q
  · cases h
theorem r_in (hu : X.A.units + 1 < cLine) : HasR2 X (compareOp .In) dIn := by
  refine ⟨_, op_in_seq.or (op_dIn hu), fun c σ H ρ x y z vx vy Q E b1 b2 e k => ?_⟩
  unfold dIn at e
  obtain ⟨b, e1, rfl⟩ := Option.map_eq_some_iff.mp e
  exact dInB_ok (neg := false) b1 b2 e1 (k _ _ E .bl)
theorem r_notIn (hu : X.A.units + 1 < cLine) : HasR2 X (compareOp .NotIn) dNotIn := by
  refine ⟨_, op_notIn_seq.or (op_dNotIn hu), fun c σ H ρ x y z vx vy Q E b1 b2 e k => ?_⟩
  unfold dNotIn at e
  obtain ⟨b, e1, rfl⟩ := Option.map_eq_some_iff.mp e
  exact dInB_ok (neg := true) b1 b2 e1 (k _ _ E .bl)
end
end DL

set_option Elab.async false
set_option linter.all false
set_option maxRecDepth 100000
namespace DL
open PySem PySem.Spec PyProof.Rows L2

section
variable {X : Cx} {K : PySem.W.Frag} {c : Fx} {σ : Sg} {H H' : Hp} {ρ ρ' : En} {i j : Nat} {a p : Addr} {o : Ow} {d x y z : D} {v vx vy : V} {Q : VK} {ds : List D} {vs : List V} {Xx : AP}
variable {e1 e2 e3 : Expr} {es : List Expr} {oa ob : Opd} {pos : Pos} {ma mb : Mm D} {ta tb tc : Mm Bool}
/-! ### truth, tests -/
def dTru : D → Option Bool
  | .non => some false
  | .bl b => some b
  | .int i => some (i != 0)
  | .str x => if x.length ≤ 16777216 then some ((x.length : Int) != 0) else none
  | .tup ds => some (!ds.isEmpty)
  | .lst ds => some (!ds.isEmpty)
  | .scr ds => some (!ds.isEmpty)
  | .dct ks _ => none
theorem RpL.emp (l : RpL K Xx H ds vs) : ds.isEmpty = vs.isEmpty := by
  have e := l.length
  cases ds with
  | nil => cases vs with
    | nil => rfl
    | cons _ _ => cases e
  | cons _ _ => cases vs with
    | nil => cases e
    | cons _ _ => rfl
theorem dTru_ok {b : Bool} (h : dTru d = some b) (r : Bo K Xx H d v) : TruV K v H b := by
  cases d with
  | non => cases h; rw [r.non]; exact rfl
  | bl _ => cases h; rw [r.bl]; exact rfl
  | int _ => cases h; rw [r.int]; exact rfl
  | str z =>
    have h : (if z.length ≤ 16777216 then some ((z.length : Int) != 0) else none) = some b := h
    by_cases q : z.length ≤ 16777216
    · rw [if_pos q] at h
      cases h
      rw [r.str]
      exact ⟨by rw [sizeLine_eq]; exact q, rfl⟩
    · rw [if_neg q] at h
      cases h
  | tup ds => cases h; obtain ⟨a, vs, rfl, t, l⟩ := r.tup; exact .inr (.inl ⟨vs, t.sq, by rw [l.emp]⟩)
  | lst ds => cases h; obtain ⟨a, vs, rfl, t, l⟩ := r.lst; exact .inl ⟨vs, .inl t, by rw [l.emp]⟩
  | scr ds => cases h; obtain ⟨a, vs, rfl, t, l⟩ := r.scr; exact .inl ⟨vs, t.sq, by rw [l.emp]⟩
  | dct _ _ => cases h
theorem ct_tru (h : PD X e1 oa) (he : ∀ whole, isTrue e1 X.env whole = (do let v ← whole; standAt e1.pos; holding [v] (truthy v)) := by intro _; rfl) : CT X e1 (m1 oa dTru) := by
  refine pt_imp (pt_truth h he) fun σ H Q q => ?_
  obtain ⟨c, ρ, b, ρ', E, e, k⟩ := q
  exact op1 E e fun x vx H' E' b1 w => ⟨b, dTru_ok w b1, k H' E'⟩
def mNot (m : Mm Bool) : Mm Bool := bd m fun b => ret (!b)
theorem ct_not (h : CT X e1 ta) : CT X (.UnaryOp .Not e1 pos) (mNot ta) := by
  refine pt_imp (pt_not h) fun σ H Q q => ?_
  obtain ⟨c, ρ, b, ρ', E, e, k⟩ := q
  obtain ⟨b1, ρ1, g1, f1⟩ := bd_some e
  cases f1
  exact ⟨c, ρ, b1, _, E, g1, fun H' E' => k H' E'⟩
def CW (X : Cx) (e : Expr) (m : Mm Bool) : Prop := PW X e (tTm X.K m)
def mAnd (m m' : Mm Bool) : Mm Bool := bd m fun b => if b then m' else ret false
def mOr (m m' : Mm Bool) : Mm Bool := bd m fun b => if b then ret true else m'
theorem cw_and1 (h : CT X e1 ta) : CW X (.BoolOp .And [e1] pos) ta := pw_and1 h
theorem cw_or1 (h : CT X e1 ta) : CW X (.BoolOp .Or [e1] pos) ta := pw_or1 h
theorem cw_and (h : CT X e1 ta) (h2 : CW X (.BoolOp .And (e2 :: es) pos) tb) : CW X (.BoolOp .And (e1 :: e2 :: es) pos) (mAnd ta tb) := by
  refine pw_imp (pw_and h h2) fun σ H Q q => ?_
  obtain ⟨c, ρ, b, ρ', E, e, k⟩ := q
  obtain ⟨b1, ρ1, g1, f1⟩ := bd_some e
  refine ⟨c, ρ, b1, ρ1, E, g1, fun H' E' => ?_⟩
  cases b1 with
  | true => exact iteT ⟨c, ρ1, b, ρ', E', f1, k⟩
  | false =>
    cases f1
    exact iteF (k H' E')
theorem cw_or (h : CT X e1 ta) (h2 : CW X (.BoolOp .Or (e2 :: es) pos) tb) : CW X (.BoolOp .Or (e1 :: e2 :: es) pos) (mOr ta tb) := by
  refine pw_imp (pw_or h h2) fun σ H Q q => ?_
  obtain ⟨c, ρ, b, ρ', E, e, k⟩ := q
  obtain ⟨b1, ρ1, g1, f1⟩ := bd_some e
  refine ⟨c, ρ, b1, ρ1, E, g1, fun H' E' => ?_⟩
  cases b1 with
  | false => exact iteF ⟨c, ρ1, b, ρ', E', f1, k⟩
  | true =>
    cases f1
    exact iteT (k H' E')
theorem CW.ct (h : CW X e1 ta) : CT X e1 ta := PW.pt h
/-! ### and, or, not, if as values -/
def mAndV (m m' : Mm D) : Mm D := bd m fun x => bd (lf (dTru x)) fun b => if b then m' else ret x
def mOrV (m m' : Mm D) : Mm D := bd m fun x => bd (lf (dTru x)) fun b => if b then ret x else m'
def mNotV (m : Mm D) : Mm D := bd m fun x => bd (lf (dTru x)) fun b => ret (.bl !b)
theorem ce_one {op} (h : CE X e1 ma) : CE X (.BoolOp op [e1] pos) ma := pe_one h
theorem ce_and (h : CE X e1 ma) (h2 : CE X (.BoolOp .And (e2 :: es) pos) mb) : CE X (.BoolOp .And (e1 :: e2 :: es) pos) (mAndV ma mb) := by
  refine pe_imp (pe_andT h h2) fun σ H Q q => ?_
  obtain ⟨c, ρ, z, ρ', E, e, k⟩ := q
  obtain ⟨x, ρ1, g1, f1⟩ := bd_some e
  obtain ⟨b, ρ2, g2, f2⟩ := bd_some f1
  obtain ⟨g3, rfl⟩ := lf_some g2
  refine ⟨c, ρ, x, ρ1, E, g1, fun v H' E' r => ⟨b, dTru_ok g3 r.bo, ?_⟩⟩
  cases b with
  | true => exact iteT ⟨c, ρ1, z, ρ', E', f2, k⟩
  | false =>
    cases f2
    exact iteF (k _ _ E' r)
theorem ce_or (h : CE X e1 ma) (h2 : CE X (.BoolOp .Or (e2 :: es) pos) mb) : CE X (.BoolOp .Or (e1 :: e2 :: es) pos) (mOrV ma mb) := by
  refine pe_imp (pe_orT h h2) fun σ H Q q => ?_
  obtain ⟨c, ρ, z, ρ', E, e, k⟩ := q
  obtain ⟨x, ρ1, g1, f1⟩ := bd_some e
  obtain ⟨b, ρ2, g2, f2⟩ := bd_some f1
  obtain ⟨g3, rfl⟩ := lf_some g2
  refine ⟨c, ρ, x, ρ1, E, g1, fun v H' E' r => ⟨b, dTru_ok g3 r.bo, ?_⟩⟩
  cases b with
  | false => exact iteF ⟨c, ρ1, z, ρ', E', f2, k⟩
  | true =>
    cases f2
    exact iteT (k _ _ E' r)
theorem ce_not (h : CE X e1 ma) : CE X (.UnaryOp .Not e1 pos) (mNotV ma) := by
  refine pe_imp (pe_notT h) fun σ H Q q => ?_
  obtain ⟨c, ρ, z, ρ', E, e, k⟩ := q
  obtain ⟨x, ρ1, g1, f1⟩ := bd_some e
  obtain ⟨b, ρ2, g2, f2⟩ := bd_some f1
  obtain ⟨g3, rfl⟩ := lf_some g2
  cases f2
  exact ⟨c, ρ, x, _, E, g1, fun v H' E' r => ⟨b, dTru_ok g3 r.bo, k _ _ E' .bl⟩⟩
def mIf {α : Type} (t : Mm Bool) (m m' : Mm α) : Mm α := bd t fun b => if b then m else m'
theorem ce_if (h : CT X e3 tc) (h1 : CE X e1 ma) (h2 : CE X e2 mb) : CE X (.IfExp e3 e1 e2 pos) (mIf tc ma mb) := by
  refine pe_imp (pe_ifExp h h1 h2) fun σ H Q q => ?_
  obtain ⟨c, ρ, z, ρ', E, e, k⟩ := q
  obtain ⟨b, ρ1, g1, f1⟩ := bd_some e
  refine ⟨c, ρ, b, ρ1, E, g1, fun H' E' => ?_⟩
  cases b with
  | true => exact iteT ⟨c, ρ1, z, ρ', E', f1, k⟩
  | false => exact iteF ⟨c, ρ1, z, ρ', E', f1, k⟩
theorem co_if {oa ob : Mm Ow} (h : CT X e3 tc) (h1 : CO X e1 oa) (h2 : CO X e2 ob) : CO X (.IfExp e3 e1 e2 pos) (mIf tc oa ob) := by
  refine pe_imp (pe_ifExp h h1 h2) fun σ H Q q => ?_
  obtain ⟨c, ρ, z, ρ', E, e, k⟩ := q
  obtain ⟨b, ρ1, g1, f1⟩ := bd_some e
  refine ⟨c, ρ, b, ρ1, E, g1, fun H' E' => ?_⟩
  cases b with
  | true => exact iteT ⟨c, ρ1, z, ρ', E', f1, k⟩
  | false => exact iteF ⟨c, ρ1, z, ρ', E', f1, k⟩
/-- -i -/
def dNeg : D → Option D
  | .int i => some (.int (-i))
  | _ => none
theorem ce_neg (h : PD X e1 oa) : CE X (.UnaryOp .USub e1 pos) (m1 oa dNeg) := by
  refine pe_imp (pe_un un_neg h) fun σ H Q q => ?_
  obtain ⟨c, ρ, z, ρ', E, e, k⟩ := q
  refine op1 E e fun x vx H' E' b1 w => ?_
  unfold dNeg at w
  split at w <;> cases w
  rw [b1.int]
  exact ⟨_, rfl, k _ _ E' .int⟩
/-! ### argument lists, displays -/
def mNil : Mm (List D) := ret []
def mCons (m : Mm D) (m' : Mm (List D)) : Mm (List D) := bd m fun x => bd m' fun xs => ret (x :: xs)
theorem ca_nil : CA X [] mNil := pa_imp pa_nil fun σ H Q q => by
  obtain ⟨c, ρ, z, ρ', E, e, k⟩ := q
  cases e
  exact k [] H E .nil
theorem ca_cons {m' : Mm (List D)} (h : CE X e1 ma) (h2 : CA X es m') (hs : starEach (e1 :: es) X.env = (false, eval e1 X.env) :: starEach es X.env := by rfl) : CA X (e1 :: es) (mCons ma m') := by
  refine pa_imp (pa_cons h h2 hs) fun σ H Q q => ?_
  obtain ⟨c, ρ, z, ρ', E, e, k⟩ := q
  obtain ⟨x, ρ1, g1, f1⟩ := bd_some e
  obtain ⟨xs, ρ2, g2, f2⟩ := bd_some f1
  cases f2
  exact ⟨c, ρ, x, ρ1, E, g1, fun v H1 E1 r1 => ⟨c.push x v, ρ1, xs, _, E1.push r1, g2, fun vs H2 E2 r2 => k _ _ E2.pop.1 (.cons E2.pop.2 r2)⟩⟩
def szOk {α : Type} (l : List α) : Bool := decide (l.length ≤ 16777216)
def mTup (m : Mm (List D)) : Mm D := bd m fun xs => if szOk xs then ret (.tup xs) else fun _ => none
def mLst (m : Mm (List D)) : Mm Ow := bd m fun xs => if szOk xs then ret (.lst xs) else fun _ => none
theorem szOk_le {α : Type} {l : List α} (h : szOk l = true) : l.length ≤ sizeLine := by
  rw [sizeLine_eq]
  exact of_decide_eq_true h
theorem ce_tup {m : Mm (List D)} {k : Nat} (h : CA X es m) : CE X (.Tuple es k pos) (mTup m) := by
  refine pe_imp (pe_tupF h) fun σ H Q q => ?_
  obtain ⟨c, ρ, z, ρ', E, e, k⟩ := q
  obtain ⟨xs, ρ1, g1, f1⟩ := bd_some e
  split at f1
  · cases f1
    refine ⟨c, ρ, xs, _, E, g1, fun vs H1 E1 r1 => ⟨by rw [r1.length]; exact szOk_le (by assumption), E1.newT r1 k⟩⟩
  · cases f1
theorem co_lst {m : Mm (List D)} (h : CA X es m) : CO X (.List es pos) (mLst m) := by
  refine pe_imp (pe_lst h) fun σ H Q q => ?_
  obtain ⟨c, ρ, z, ρ', E, e, k⟩ := q
  obtain ⟨xs, ρ1, g1, f1⟩ := bd_some e
  split at f1
  · cases f1
    refine ⟨c, ρ, xs, _, E, g1, fun vs H1 E1 r1 => ⟨by rw [r1.length]; exact szOk_le (by assumption), fun p np => ?_⟩⟩
    obtain ⟨h1, h2, h3, h4⟩ := E1.newLst np r1
    exact k _ _ h1 h2 h3 h4
  · cases f1
/-- {} -/
def mDct0 : Mm Ow := ret (.dct [] [])
theorem co_dct0 : CO X (.Dict [] [] pos) mDct0 := pe_imp pe_dnewK fun σ H Q q => by
  obtain ⟨c, ρ, z, ρ', E, e, k⟩ := q
  cases e
  intro p np
  obtain ⟨h1, h2, h3, h4⟩ := E.newDct (kvs := []) np (ds := []) .nil
  exact k _ _ h1 h2 h3 h4
/-! ### subscripts -/
def dAt {α : Type} (xs : List α) (i : Int) : Option α := atI xs i
theorem atI_lt {α : Type} {xs : List α} {i : Int} {v : α} (h : atI xs i = some v) : ∃ j, ixN xs.length i = some j ∧ xs[j]? = some v := by
  unfold atI at h
  exact Option.bind_eq_some_iff.mp h
theorem RpL.at_ {i : Int} (l : RpL K Xx H ds vs) (h : dAt ds i = some d) : ∃ v, atI vs i = some v ∧ Rp K Xx H d v := by
  obtain ⟨j, e1, e2⟩ := atI_lt h
  obtain ⟨v, e3, r⟩ := l.get e2
  refine ⟨v, ?_, r⟩
  unfold atI
  rw [l.length, e1]
  exact e3
def dIx (x y : D) : Option D := match x, y with
  | .lst ds, .int i => dAt ds i
  | .tup ds, .int i => dAt ds i
  | .scr ds, .int i => dAt ds i
  | .str z, .int i => if z.length ≤ 16777216 then (dAt z.cps.toList i).map fun c => .str ⟨#[c]⟩ else none
  | .dct ks ds, y => (keyOf y).bind fun k => lk ks ds k
  | _, _ => none
theorem ix_dict (hu : X.A.units + 1 < cLine) : IxR X (fun x y H Q => ∃ a v, x = .ref a ∧ DGet H a y (some v) ∧ Q v H) := by
  intro value slice pins s σ H x y v u Q I rx ry h hs
  obtain ⟨a, w, rfl, g, q⟩ := h
  obtain rfl : v = Value.ref a := rx
  exact tail_any (dict_typeIs I g) PySem.F.slot_dict_getitem.lookup (d_getItem hu I g ry fun w' s3 I3 rw' => ⟨w, H, I3, rw', q⟩) hs
theorem lk_val {kvs : List (Key × V)} {k : Key} : ∀ {ds : List D}, RpL K Xx H ds (kvs.map (·.2)) → lk (kvs.map (·.1)) ds k = some d → ∃ v, valV kvs k = some v ∧ Rp K Xx H d v := by
  induction kvs with
  | nil => intro ds l h; unfold lk at h; cases h
  | cons kv kvs ih =>
    intro ds l h
    cases ds with
    | nil =>
      have q := l.length
      cases q
    | cons d' ds =>
      obtain ⟨v, ws, e, h1, h2⟩ := l.of_cons
      obtain ⟨rfl, rfl⟩ := List.cons.inj e
      have h : (if kv.1 = k then some d' else lk (kvs.map (·.1)) ds k) = some d := h
      unfold valV
      rw [List.find?_cons]
      by_cases q : kv.1 = k
      · rw [if_pos q] at h
        cases h
        rw [decide_eq_true q]
        exact ⟨_, rfl, h1⟩
      · rw [if_neg q] at h
        rw [decide_eq_false q]
        exact ih h2 h
theorem dIx_ok (b1 : Bo K Xx H x vx) (b2 : Bo K Xx H y vy) (h : dIx x y = some z) (q : ∀ v, Rp K Xx H z v → Q v H) :
    rIx K vx vy H Q ∨ ∃ a v, vx = .ref a ∧ DGet H a vy (some v) ∧ Q v H := by
  unfold dIx at h
  split at h
  · obtain ⟨a, vs, rfl, t, l⟩ := b1.lst
    rw [b2.int]
    obtain ⟨v, e, r⟩ := l.at_ h
    exact .inl (.inl ⟨a, vs, _, v, rfl, rfl, .inl t, e, q v r⟩)
  · obtain ⟨a, vs, rfl, t, l⟩ := b1.tup
    rw [b2.int]
    obtain ⟨v, e, r⟩ := l.at_ h
    exact .inl (.inr (.inl ⟨a, vs, _, v, rfl, rfl, t.sq, e, q v r⟩))
  · obtain ⟨a, vs, rfl, t, l⟩ := b1.scr
    rw [b2.int]
    obtain ⟨v, e, r⟩ := l.at_ h
    exact .inl (.inl ⟨a, vs, _, v, rfl, rfl, t.sq, e, q v r⟩)
  · split at h
    · obtain ⟨cd, e, rfl⟩ := Option.map_eq_some_iff.mp h
      rw [b1.str, b2.int]
      exact .inl (.inr (.inr ⟨_, _, cd, rfl, rfl, by rw [sizeLine_eq]; assumption, e, q _ .str⟩))
    · cases h
  · obtain ⟨k, e1, e2⟩ := Option.bind_eq_some_iff.mp h
    obtain ⟨a, kvs, rfl, t, e3, l⟩ := b1.dct
    rw [← e3] at e2
    obtain ⟨v, e4, r⟩ := lk_val l e2
    exact .inr ⟨a, v, rfl, .inl ⟨kvs, k, t, Rp.key b2 e1, e4.symm⟩, q v r⟩
  · cases h
theorem ce_ix (hu : X.A.units + 1 < cLine) (ha : PD X e1 oa) (hb : PD X e2 ob) (hs : PlainIx e2 := by exact fun _ _ => rfl) : CE X (.Subscript e1 e2 pos) (m2 oa ob dIx) := by
  refine pe_imp (pe_ix (ix_seq.or (ix_dict hu)) ha hb hs) fun σ H Q h => ?_
  obtain ⟨c, ρ, z, ρ', E, e, k⟩ := h
  exact op2 E e fun x y vx vy H' E' b1 b2 w => dIx_ok b1 b2 w fun v r => k v H' E' r
end
end DL

set_option Elab.async false
set_option linter.all false
set_option maxRecDepth 100000
namespace DL
open PySem PySem.Spec PyProof.Rows L2

section
variable {X : Cx} {K : PySem.W.Frag} {c : Fx} {σ : Sg} {H H' : Hp} {ρ ρ' : En} {i j : Nat} {a p : Addr} {o : Ow} {d x y z : D} {v vx vy : V} {Q : VK} {ds : List D} {vs : List V} {Xx : AP}
variable {e1 e2 e3 : Expr} {es : List Expr} {oa ob : Opd} {pos np : Pos} {nm : Str} {bid : String}
/-! ### calls of built-ins with one argument -/
def HasC (X : Cx) (f : Value) (g : D → Option D) : Prop := ∃ r, CallR X f r ∧ ∀ c σ H ρ x z vx Q, ER X.K c σ H ρ → Bo X.K (Xo c σ ρ) H x vx → g x = some z →
  (∀ v H', ER X.K c σ H' ρ → Rp X.K (Xo c σ ρ) H' z v → Q v H') → r [vx] H Q
def HasCO (X : Cx) (f : Value) (g : D → Option Ow) : Prop := ∃ r, CallR X f r ∧ ∀ c σ H ρ x z vx Q, ER X.K c σ H ρ → Bo X.K (Xo c σ ρ) H x vx → g x = some z →
  (∀ p H', ER X.K (c.ex p) σ H' ρ → OwAt X.K (Xo (c.ex p) σ ρ) H' p z → c.He p = none → ¬ c.X0 p → Q (.ref p) H') → r [vx] H Q
theorem HasC.or {f : Value} {g g' : D → Option D} (h : HasC X f g) (h' : HasC X f g') : HasC X f fun x => (g x).or (g' x) := by
  obtain ⟨r, o, q⟩ := h
  obtain ⟨r', o', q'⟩ := h'
  refine ⟨_, o.or o', fun c σ H ρ x z vx Q E b1 e k => ?_⟩
  have e : (g x).or (g' x) = some z := e
  cases w : g x with
  | some z1 =>
    rw [w] at e
    exact .inl (q c σ H ρ x z vx Q E b1 (by rw [w]; exact e) k)
  | none =>
    rw [w] at e
    exact .inr (q' c σ H ρ x z vx Q E b1 e k)
theorem HasC.to {f : Value} {g g' : D → Option D} (h : HasC X f g) (w : ∀ x z, g' x = some z → g x = some z) : HasC X f g' := by
  obtain ⟨r, o, q⟩ := h
  exact ⟨r, o, fun c σ H ρ x z vx Q E b1 e k => q c σ H ρ x z vx Q E b1 (w _ _ e) k⟩
theorem HasCO.or {f : Value} {g g' : D → Option Ow} (h : HasCO X f g) (h' : HasCO X f g') : HasCO X f fun x => (g x).or (g' x) := by
  obtain ⟨r, o, q⟩ := h
  obtain ⟨r', o', q'⟩ := h'
  refine ⟨_, o.or o', fun c σ H ρ x z vx Q E b1 e k => ?_⟩
  have e : (g x).or (g' x) = some z := e
  cases w : g x with
  | some z1 =>
    rw [w] at e
    exact .inl (q c σ H ρ x z vx Q E b1 (by rw [w]; exact e) k)
  | none =>
    rw [w] at e
    exact .inr (q' c σ H ρ x z vx Q E b1 e k)
theorem HasCO.to {f : Value} {g g' : D → Option Ow} (h : HasCO X f g) (w : ∀ x z, g' x = some z → g x = some z) : HasCO X f g' := by
  obtain ⟨r, o, q⟩ := h
  exact ⟨r, o, fun c σ H ρ x z vx Q E b1 e k => q c σ H ρ x z vx Q E b1 (w _ _ e) k⟩
section
variable (hg : Gl X nm) (hm : X.mg nm = none) (ha : PD X e1 oa) (hn : nm ≠ "__name__" := by decide) (hdb : (nm == ("__debug__" : Str)) = false := by decide)
  (he : starEach (e1 :: []) X.env = (false, eval e1 X.env) :: starEach [] X.env := by rfl) (hpl : (backTo pos (starEach [] X.env)).any (·.1) = false := by rfl)
theorem ce_callB {g : D → Option D} (h : HasC X (.builtin bid) g) (hg : Gl X nm) (hm : X.mg nm = none) (hv : bootBuiltins nm = some (.builtin bid)) (ha : PD X e1 oa) (hn : nm ≠ "__name__" := by decide) (hdb : (nm == ("__debug__" : Str)) = false := by decide)
  (he : starEach (e1 :: []) X.env = (false, eval e1 X.env) :: starEach [] X.env := by rfl) (hpl : (backTo pos (starEach [] X.env)).any (·.1) = false := by rfl) : CE X (.Call (.Name nm np) [e1] [] pos) (m1 oa g) := by
  obtain ⟨r, o, q⟩ := h
  refine pe_imp (pe_callB o hg hm hv (pa_cons ha pa_nil he) hn hdb he hpl) fun σ H Q h => ?_
  obtain ⟨c, ρ, z, ρ', E, e, k⟩ := h
  exact op1 E e fun x vx H' E' b1 w => q c σ H' ρ' x z vx Q E' b1 w k
theorem ce_callT {g : D → Option D} (h : HasC X (.type bid) g) (hg : Gl X nm) (hm : X.mg nm = none) (hv : bootBuiltins nm = some (.type bid)) (ha : PD X e1 oa) (hn : nm ≠ "__name__" := by decide) (hdb : (nm == ("__debug__" : Str)) = false := by decide)
  (he : starEach (e1 :: []) X.env = (false, eval e1 X.env) :: starEach [] X.env := by rfl) (hpl : (backTo pos (starEach [] X.env)).any (·.1) = false := by rfl) : CE X (.Call (.Name nm np) [e1] [] pos) (m1 oa g) := by
  obtain ⟨r, o, q⟩ := h
  refine pe_imp (pe_callTy o hg hm hv (pa_cons ha pa_nil he) hn hdb he hpl) fun σ H Q h => ?_
  obtain ⟨c, ρ, z, ρ', E, e, k⟩ := h
  exact op1 E e fun x vx H' E' b1 w => q c σ H' ρ' x z vx Q E' b1 w k
theorem co_callB {g : D → Option Ow} (h : HasCO X (.builtin bid) g) (hg : Gl X nm) (hm : X.mg nm = none) (hv : bootBuiltins nm = some (.builtin bid)) (ha : PD X e1 oa) (hn : nm ≠ "__name__" := by decide) (hdb : (nm == ("__debug__" : Str)) = false := by decide)
  (he : starEach (e1 :: []) X.env = (false, eval e1 X.env) :: starEach [] X.env := by rfl) (hpl : (backTo pos (starEach [] X.env)).any (·.1) = false := by rfl) : CO X (.Call (.Name nm np) [e1] [] pos) (m1 oa g) := by
  obtain ⟨r, o, q⟩ := h
  refine pe_imp (pe_callB o hg hm hv (pa_cons ha pa_nil he) hn hdb he hpl) fun σ H Q h => ?_
  obtain ⟨c, ρ, z, ρ', E, e, k⟩ := h
  exact op1 E e fun x vx H' E' b1 w => q c σ H' ρ' x z vx Q E' b1 w k
theorem co_callT {g : D → Option Ow} (h : HasCO X (.type bid) g) (hg : Gl X nm) (hm : X.mg nm = none) (hv : bootBuiltins nm = some (.type bid)) (ha : PD X e1 oa) (hn : nm ≠ "__name__" := by decide) (hdb : (nm == ("__debug__" : Str)) = false := by decide)
  (he : starEach (e1 :: []) X.env = (false, eval e1 X.env) :: starEach [] X.env := by rfl) (hpl : (backTo pos (starEach [] X.env)).any (·.1) = false := by rfl) : CO X (.Call (.Name nm np) [e1] [] pos) (m1 oa g) := by
  obtain ⟨r, o, q⟩ := h
  refine pe_imp (pe_callTy o hg hm hv (pa_cons ha pa_nil he) hn hdb he hpl) fun σ H Q h => ?_
  obtain ⟨c, ρ, z, ρ', E, e, k⟩ := h
  exact op1 E e fun x vx H' E' b1 w => q c σ H' ρ' x z vx Q E' b1 w k
end
/-! ### len, abs, int, bool, str -/
def dLen : D → Option D
  | .lst ds => some (.int ds.length)
  | .tup ds => some (.int ds.length)
  | .scr ds => some (.int ds.length)
  | .str z => if z.length ≤ 16777216 then some (.int z.length) else none
  | .dct ks _ => some (.int ks.length)
  | _ => none
theorem call_lenR : CallR X (.builtin "len") (fun xs H Q => ∃ a kvs, xs = [V.ref a] ∧ Rd H a (.dK kvs) ∧ Q (.int kvs.length) H) := by
  intro pins s σ H xs us Q I r h
  obtain ⟨a, kvs, rfl, ha, q⟩ := h
  obtain ⟨u, rfl, ru⟩ := vals1 r
  cases ru
  exact d_len I ha fun t s' I' => ⟨.int kvs.length, H, I', ⟨t, rfl⟩, q⟩
theorem c_len : HasC X (.builtin "len") dLen := by
  refine ⟨_, call_len_seq.or (call_len_str.or call_lenR), fun c σ H ρ x z vx Q E b e k => ?_⟩
  unfold dLen at e
  split at e
  · cases e
    obtain ⟨a, vs, rfl, t, l⟩ := b.lst
    exact .inl ⟨a, vs, rfl, .inl (.inl t), by rw [l.length]; exact k _ _ E .int⟩
  · cases e
    obtain ⟨a, vs, rfl, t, l⟩ := b.tup
    exact .inl ⟨a, vs, rfl, .inr t.sq, by rw [l.length]; exact k _ _ E .int⟩
  · cases e
    obtain ⟨a, vs, rfl, t, l⟩ := b.scr
    exact .inl ⟨a, vs, rfl, .inl t.sq, by rw [l.length]; exact k _ _ E .int⟩
  · split at e <;> cases e
    rw [b.str]
    exact .inr (.inl ⟨_, rfl, by rw [sizeLine_eq]; assumption, k _ _ E .int⟩)
  · cases e
    obtain ⟨a, kvs, rfl, t, e2, l⟩ := b.dct
    refine .inr (.inr ⟨a, kvs, rfl, t, ?_⟩)
    rw [← e2, List.length_map] at k
    exact k _ _ E .int
  · cases e
def dAbs : D → Option D
  | .int i => some (.int (if i < 0 then -i else i))
  | _ => none
theorem c_abs : HasC X (.builtin "abs") dAbs := by
  refine ⟨_, call_abs, fun c σ H ρ x z vx Q E b e k => ?_⟩
  unfold dAbs at e
  split at e <;> cases e
  rw [b.int]
  exact ⟨_, rfl, k _ _ E .int⟩
def dInt : D → Option D
  | .int i => some (.int i)
  | .bl b => some (.int (if b then 1 else 0))
  | _ => none
theorem c_int : HasC X (.type "int") dInt := by
  refine ⟨_, call_int1, fun c σ H ρ x z vx Q E b e k => ?_⟩
  unfold dInt at e
  split at e <;> cases e
  · rw [b.int]
    exact .inl ⟨_, rfl, k _ _ E .int⟩
  · rw [b.bl]
    exact .inr ⟨_, rfl, k _ _ E .int⟩
def dStr : D → Option D
  | .int i => if i.natAbs.log2 < 1920 then some (.str (toString i)) else none
  | _ => none
theorem c_str : HasC X (.type "str") dStr := by
  refine ⟨_, call_str_int, fun c σ H ρ x z vx Q E b e k => ?_⟩
  unfold dStr at e
  split at e
  · split at e <;> cases e
    rw [b.int]
    exact ⟨_, rfl, by assumption, k _ _ E .str⟩
  · cases e
/-! ### tuple, list -/
def dTuple : D → Option D
  | .lst ds => some (.tup ds)
  | .tup ds => some (.tup ds)
  | .scr ds => some (.tup ds)
  | _ => none
theorem c_tuple : HasC X (.type "tuple") dTuple := by
  refine ⟨_, call_tupF, fun c σ H ρ x z vx Q E b e k => ?_⟩
  unfold dTuple at e
  split at e <;> cases e
  · obtain ⟨a, vs, rfl, t, l⟩ := b.lst
    exact ⟨a, vs, rfl, .inl ⟨.inl t, E.newT l k⟩⟩
  · obtain ⟨a, vs, rfl, t, l⟩ := b.tup
    exact ⟨a, vs, rfl, .inr ⟨t.sq, k _ _ E b⟩⟩
  · obtain ⟨a, vs, rfl, t, l⟩ := b.scr
    exact ⟨a, vs, rfl, .inl ⟨t.sq, E.newT l k⟩⟩
def dList : D → Option Ow
  | .lst ds => some (.lst ds)
  | .tup ds => some (.lst ds)
  | .scr ds => some (.lst ds)
  | _ => none
theorem c_list : HasCO X (.type "list") dList := by
  refine ⟨_, call_list_of, fun c σ H ρ x z vx Q E b e k => ?_⟩
  unfold dList at e
  split at e <;> cases e
  · obtain ⟨a, vs, rfl, t, l⟩ := b.lst
    refine ⟨a, vs, rfl, .inl (.inl t), fun p np => ?_⟩
    obtain ⟨h1, h2, h3, h4⟩ := E.newLst np l
    exact k _ _ h1 h2 h3 h4
  · obtain ⟨a, vs, rfl, t, l⟩ := b.tup
    refine ⟨a, vs, rfl, .inr t.sq, fun p np => ?_⟩
    obtain ⟨h1, h2, h3, h4⟩ := E.newLst np l
    exact k _ _ h1 h2 h3 h4
  · obtain ⟨a, vs, rfl, t, l⟩ := b.scr
    refine ⟨a, vs, rfl, .inl t.sq, fun p np => ?_⟩
    obtain ⟨h1, h2, h3, h4⟩ := E.newLst np l
    exact k _ _ h1 h2 h3 h4
/-! ### sum, all, any -/
def intsOf : List D → Option (List Int)
  | [] => some []
  | .int i :: ds => (intsOf ds).map (i :: ·)
  | _ => none
theorem intsOf_ok : ∀ {ds : List D} {vs : List V} {ns : List Int}, RpL K Xx H ds vs → intsOf ds = some ns → vs = ns.map V.int
  | [], vs, ns, l, e => by
    cases e
    rw [l.of_nil]
    rfl
  | d :: ds, vs, ns, l, e => by
    obtain ⟨v, ws, rfl, h1, h2⟩ := l.of_cons
    unfold intsOf at e
    split at e
    · rename_i q
      cases q
    · rename_i q
      cases q
      obtain ⟨ms, e1, rfl⟩ := Option.map_eq_some_iff.mp e
      rw [intsOf_ok h2 e1]
      unfold Rp at h1
      rw [h1]
      rfl
    · cases e
def blsOf : List D → Option (List Bool)
  | [] => some []
  | .bl i :: ds => (blsOf ds).map (i :: ·)
  | _ => none
theorem blsOf_ok : ∀ {ds : List D} {vs : List V} {ns : List Bool}, RpL K Xx H ds vs → blsOf ds = some ns → vs = ns.map V.bl
  | [], vs, ns, l, e => by
    cases e
    rw [l.of_nil]
    rfl
  | d :: ds, vs, ns, l, e => by
    obtain ⟨v, ws, rfl, h1, h2⟩ := l.of_cons
    unfold blsOf at e
    split at e
    · rename_i q
      cases q
    · rename_i q
      cases q
      obtain ⟨ms, e1, rfl⟩ := Option.map_eq_some_iff.mp e
      rw [blsOf_ok h2 e1]
      unfold Rp at h1
      rw [h1]
      rfl
    · cases e
def dSum : D → Option D
  | .lst ds => (intsOf ds).map fun ns => .int ns.sum
  | _ => none
theorem c_sum (hc : X.calm = true) : HasC X (.builtin "sum") dSum := by
  refine ⟨_, cr_sum hc, fun c σ H ρ x z vx Q E b e k => ?_⟩
  unfold dSum at e
  split at e
  · obtain ⟨ns, e1, rfl⟩ := Option.map_eq_some_iff.mp e
    obtain ⟨a, vs, rfl, t, l⟩ := b.lst
    have q := intsOf_ok l e1
    subst q
    exact ⟨a, ns, rfl, .inl t, k _ _ E .int⟩
  · cases e
def dAll : D → Option D
  | .lst ds => (blsOf ds).map fun ns => .bl (ns.all id)
  | _ => none
def dAny : D → Option D
  | .lst ds => (blsOf ds).map fun ns => .bl (ns.any id)
  | _ => none
theorem c_all (hc : X.calm = true) : HasC X (.builtin "all") dAll := by
  refine ⟨_, cr_all hc, fun c σ H ρ x z vx Q E b e k => ?_⟩
  unfold dAll at e
  split at e
  · obtain ⟨ns, e1, rfl⟩ := Option.map_eq_some_iff.mp e
    obtain ⟨a, vs, rfl, t, l⟩ := b.lst
    have q := blsOf_ok l e1
    subst q
    exact ⟨a, ns, rfl, .inl t, k _ _ E .bl⟩
  · cases e
theorem c_any (hc : X.calm = true) : HasC X (.builtin "any") dAny := by
  refine ⟨_, cr_any hc, fun c σ H ρ x z vx Q E b e k => ?_⟩
  unfold dAny at e
  split at e
  · obtain ⟨ns, e1, rfl⟩ := Option.map_eq_some_iff.mp e
    obtain ⟨a, vs, rfl, t, l⟩ := b.lst
    have q := blsOf_ok l e1
    subst q
    exact ⟨a, ns, rfl, .inl t, k _ _ E .bl⟩
  · cases e
def dMax : D → Option D
  | .lst ds => (intsOf ds).bind fun ns => ns.max?.map .int
  | _ => none
end
end DL

set_option Elab.async false
set_option linter.all false
set_option maxRecDepth 100000
/-! sorted of data, tuples with nothing in them among them -/
namespace DLS
open PySem PySem.W PySem.Calls PyProof.Rows PySem.SeqAt
section
variable {prog : Program} {w : World} {A : Around} {E : Value → Shared → Prop} {s : Shared}
theorem tup_call_lt {Q : Value → Shared → Prop} {l b : Addr} {items items2 : Array Value} {e r : Nat → Bool} (hl : s.heap.IsTuple l items) (hb : s.heap.IsTuple b items2)
    (he : ∀ j (h1 : j < items.size) (h2 : j < items2.size), EqAt A.in1 s items[j] items2[j] (e j)) (hr : ∀ j (h1 : j < items.size) (h2 : j < items2.size), e j = false → RcLt A.in1 s items[j] items2[j] (r j))
    (h : Q (.bool (firstLt e r (decide (items.size < items2.size)) (List.range (min items.size items2.size)))) s) : wpAny (model prog w) A (call (.builtin "tuple.__lt__") [.ref l, .ref b]) Q E s := by
  obtain ⟨⟨cls, dd, data, sl⟩, ho, hc, n, hd⟩ := id hl
  obtain ⟨⟨cls2, dd2, data2, sl2⟩, ho2, hc2, n2, hd2⟩ := id hb
  simp only at hc hd hc2 hd2
  subst hc hd hc2 hd2
  exact call_meets F.slot_tuple_lt ⟨_, ho, rfl⟩ F.entry_tuple_lt (F.args_tuple_lt_2 _ _) (tuple_ltAt l b items items2 n n2 dd dd2 sl sl2 e r) ⟨ho, ho2, he, hr, h⟩
/-- one tuple against another -/
theorem one_tup {f : Bool} {xs ys : List PyData} {a b : Value} {as bs : List Addr} {Q : Bool → Shared → Prop} (ra : Reads s.heap a (.tuple xs) as) (rb : Reads s.heap b (.tuple ys) bs) (hal : alikeAll xs ys = true)
    (hu : A.units + min (PyData.tuple xs).depth (PyData.tuple ys).depth < cLine) (hq : Q (dataLt (.tuple xs) (.tuple ys)) s) : wpAny (model prog w) A (oneLt' f a b) Q E s := by
  cases f with
  | false =>
    rw [oneLt'_eq]
    simp only [Bool.false_eq_true, if_false]
    exact wpAny_bind (rcLt_alike _ _ A s a b as bs ra rb (by simpa [alike] using hal) (by simp) hu prog w E _ (wpAny_truthy_bool hq))
  | true =>
    cases ra with
    | @tuple l o vs n _ as₁ h1 h2 h3 h4 =>
      cases rb with
      | @tuple l' o' vs' n' _ bs₁ k1 k2 k3 k4 =>
        have n1 : vs.size = xs.length := by simpa using ReadsAll.length _ _ _ h4
        have n2 : vs'.size = ys.length := by simpa using ReadsAll.length _ _ _ k4
        rw [dataLt_tuple, ← firstLt_toks xs ys hal, ← n1, ← n2] at hq
        rw [oneLt'_eq]
        simp only [if_true]
        refine wpAny_bind (wpAny_cRoomFor (room_here hu) ?_)
        refine wpAny_bind (wpAny_callSpecialIfBound?_slot (T := "tuple") ⟨_, h1, h2⟩ F.slot_tuple_lt (tup_call_lt (e := pairEq xs ys) (r := fun j => dataLt (xs.getD j .none) (ys.getD j .none)) ⟨_, h1, h2, _, h3⟩ ⟨_, k1, k2, _, k3⟩ (fun j j1 j2 => ?_) (fun j j1 j2 hj => ?_) ?_))
        · have := eqAt_alikeAll xs ys A.in1 s vs.toList vs'.toList _ _ h4 k4 hal (room_in hu) j (by simpa using j1) (by simpa using j2)
          simpa using this
        · have := rcLt_alikeAll xs ys A.in1 s vs.toList vs'.toList _ _ h4 k4 hal (room_in hu) j (by simpa using j1) (by simpa using j2) hj
          simpa using this
        · exact wpAny_truthy_bool hq
def hasItem : PyData → Bool
  | .tuple (_ :: _) => true
  | _ => false
theorem firsts_tup {M : Model} : ∀ (vs : List Value) (ds : List PyData) {Q : List (Option Value) → Shared → Prop}, EachIs (fun v d => ∃ as, Reads s.heap v d as) vs ds → (∀ d ∈ ds, ∃ xs, d = .tuple xs) →
    (∀ os : List (Option Value), os.map Option.isSome = ds.map hasItem → Q os s) → wpAny M A (vs.mapM firstOfTuple') Q E s
  | [], ds, Q, e, _, h => by
    cases e
    rw [List.mapM_nil]
    exact wpAny_pure (h [] rfl)
  | v :: vs, ds, Q, e, ht, h => by
    cases e with
    | @cons _ d _ ds r t =>
      obtain ⟨as, r⟩ := r
      obtain ⟨xs, rfl⟩ := ht d (List.mem_cons_self ..)
      rw [List.mapM_cons]
      refine wpAny_bind ?_
      cases r with
      | @tuple a o ws n _ _ ho hc hd hr =>
        rw [kas_first_eq]
        refine wpAny_bind (Looks.here (show Looks M s.heap (typeOf (.ref a)) o.cls from (Looks.ld ho).andThen .now) ?_)
        rw [hc, if_neg (by first | decide | simp)]
        refine wpAny_bind (listItems_at ho hd (wpAny_pure ?_))
        refine wpAny_bind (firsts_tup vs ds (Q := fun bs s' => wpAny M A (pure (ws[0]? :: bs)) Q E s') t (fun d hd => ht d (List.mem_cons_of_mem _ hd)) fun os ho2 => wpAny_pure (h _ ?_))
        rw [List.map_cons, List.map_cons, ho2]
        congr 1
        have q := ReadsAll.length _ _ _ hr
        rw [← Array.getElem?_toList]
        cases xs with
        | nil =>
          have e0 : ws.toList = [] := List.eq_nil_of_length_eq_zero q
          rw [e0]
          rfl
        | cons x xs =>
          cases e1 : ws.toList with
          | nil => rw [e1] at q; cases q
          | cons y ys => rfl
theorem kind_tup {vs : List Value} {ds : List PyData} {Q : SortKind → Shared → Prop} (h2 : 2 ≤ vs.length) (e : EachIs (fun v d => ∃ as, Reads s.heap v d as) vs ds) (ht : ∀ d ∈ ds, ∃ xs, d = .tuple xs) (hn : ds.all hasItem = false)
    (h : Q (if (ds.head?.map hasItem) = some true then general' else oneType') s) : wpAny (model prog w) A (keyKind' vs.toArray) Q E s := by
  rw [keyKind'_eq, List.mapM_toArray, map_eq_pure_bind]
  refine wpAny_bind (wpAny_bind (firsts_tup vs ds e ht fun os ho => wpAny_pure ?_))
  have hall : ¬ (os.toArray.all fun x => x.isSome) = true := by
    rw [List.all_toArray]
    intro q
    have q2 : (os.map Option.isSome).all (fun b => b) = true := by rw [List.all_map]; exact q
    rw [ho, List.all_map] at q2
    have q3 : ds.all hasItem = true := q2
    rw [hn] at q3
    cases q3
  rw [if_neg hall]
  have h0 : (os.toArray[0]?.bind id).isSome = decide ((ds.head?.map hasItem) = some true) := by
    cases os with
    | nil =>
      cases ds with
      | nil => rfl
      | cons d ds => cases ho
    | cons x os =>
      cases ds with
      | nil => cases ho
      | cons d ds =>
        rw [List.map_cons, List.map_cons] at ho
        obtain ⟨e1, _⟩ := List.cons.inj ho
        show x.isSome = decide (some (hasItem d) = some true)
        rw [e1]
        cases hasItem d <;> rfl
  rw [h0]
  by_cases hc : (ds.head?.map hasItem) = some true
  · rw [if_pos hc] at h
    rw [decide_eq_true hc, if_pos rfl]
    exact wpAny_pure h
  · rw [if_neg hc] at h
    rw [decide_eq_false hc, if_neg (by decide)]
    rw [oneTypeOnly'_eq, List.mapM_toArray, map_eq_pure_bind]
    refine wpAny_bind (wpAny_bind (wpAny_bind (kas_mapM (r := Value.type "tuple") _ (fun v hv Q' hq => ?_) (wpAny_pure ?_))))
    · obtain ⟨d, hd, as, r⟩ := e.left v hv
      obtain ⟨xs, rfl⟩ := ht d hd
      exact (looks_reads r).here hq
    · have hall2 : ((List.map (fun _ => Value.type "tuple") vs).toArray.all fun x => x == Value.type "tuple") = true := by
        simp only [List.all_toArray, List.all_map, List.all_eq_true]
        intro _ _
        rfl
      have h3 : (List.map (fun _ => Value.type "tuple") vs).toArray[0]? = some (Value.type "tuple") := by
        match vs, h2 with
        | _ :: _, _ => rfl
      rw [h3]
      simp only [hall2, if_true]
      exact wpAny_pure (wpAny_pure h)
/-- values that read as tuples (some of them empty) can be sorted -/
theorem sorts_tup {vs : List Value} {ds : List PyData} (e : EachIs (fun v d => ∃ as, Reads s.heap v d as) vs ds) (hal : AllAlike ds) (ht : ∀ d ∈ ds, ∃ xs, d = .tuple xs) (hn : ds.all hasItem = false) (hu : ∀ d, d ∈ ds → A.units + d.depth < cLine) :
    SortsAt prog w A s (dataKind s.heap ds) vs := by
  have room : ∀ {d d' : PyData}, d ∈ ds → A.units + min d.depth d'.depth < cLine := fun {d d'} hd => Nat.lt_of_le_of_lt (Nat.add_le_add_left (Nat.min_le_left _ _) _) (hu d hd)
  refine ⟨fun v hv => ?_, if (ds.head?.map hasItem) = some true then general' else oneType', ?_, fun h2 E Q hq => kind_tup h2 e ht hn hq⟩
  · obtain ⟨d, hd, as, r⟩ := e.left v hv
    exact ⟨_, dataKind_some hal hd r⟩
  · intro E x y a b Q ha hb hq
    obtain ⟨d, as, hd, ra, rfl⟩ := dataKind_inv ha
    obtain ⟨d', as', hd', rb, rfl⟩ := dataKind_inv hb
    have hdd := hal d hd d' hd'
    have hroom := room (d' := d') hd
    obtain ⟨xs, rfl⟩ := ht d hd
    obtain ⟨ys, rfl⟩ := ht d' hd'
    have hx : alikeAll xs ys = true := by simpa [alike] using hdd
    have fin : ∀ f, wpAny (model prog w) A (oneLt' f x y) Q E s := fun f => one_tup ra rb hx hroom hq
    split
    · exact fin false
    · exact fin true
def CanSort (ds : List PyData) : Prop := Sortable ds ∨ ((∀ d ∈ ds, ∃ xs, d = .tuple xs) ∧ ds.all hasItem = false)
theorem sorts_any {vs : List Value} {ds : List PyData} (e : EachIs (fun v d => ∃ as, Reads s.heap v d as) vs ds) (hal : AllAlike ds) (hk : CanSort ds) (hu : ∀ d, d ∈ ds → A.units + d.depth < cLine) : SortsAt prog w A s (dataKind s.heap ds) vs := by
  rcases hk with hk | ⟨h1, h2⟩
  · exact SortsAt.data e hal hk hu
  · exact sorts_tup e hal h1 h2 hu
variable {β : Type} {vs : List Value} {bs : List β} {enc : β → PyData} {R : Value → β → Prop}
theorem sorted_any {l : Addr} {Q : Value → Shared → Prop} (hl : s.heap.IsList l vs.toArray) (e : EachIs R vs bs) (er : EachIs (fun v b => ∃ as, Reads s.heap v (enc b) as) vs bs) (hal : AllAlike (bs.map enc)) (hk : CanSort (bs.map enc)) (hL : bs.length ≤ sizeLine)
    (hu : ∀ b, b ∈ bs → A.units + 2 + (enc b).depth < cLine) (h : ∀ out, out.length = bs.length → EachIs R out (bs.mergeSort (dataLe false enc)) → Q (.ref (s.heap.objs.size + 1)) { s with heap := sortedAll s.heap vs (List.toArray out) }) :
    wpAny (model prog w) A (call (.builtin "sorted") [.ref l]) Q E s := by
  have er' : EachIs (fun v b => ∃ as, Reads (sortingHeap (copyHeap s.heap vs) (s.heap.objs.size + 1) vs) v (enc b) as) vs bs := er.mono fun _ _ ⟨as, r⟩ => ⟨as, PyProof.Rows.Reads.keeps (fun _ _ => sorting_copy_old) r⟩
  exact sorted_vals hl (sorts_any (s := { s with heap := sortingHeap (copyHeap s.heap vs) (s.heap.objs.size + 1) vs }) (each_map (R := fun v d => ∃ as, Reads (sortingHeap (copyHeap s.heap vs) (s.heap.objs.size + 1) vs) v d as) enc er') hal hk (bound_map hu)) (by rw [e.length]; exact hL)
    (h _ (by rw [sortVals_length false rfl]; exact e.length) (sortVals_data false e er' hal))
end
end DLS

set_option Elab.async false
set_option linter.all false
set_option maxRecDepth 100000
namespace DL
open PySem PySem.Spec PyProof.Rows L2

section
variable {X : Cx} {K : PySem.W.Frag} {c : Fx} {σ : Sg} {H H' : Hp} {ρ ρ' : En} {i j : Nat} {a p : Addr} {o : Ow} {d x y z : D} {v vx vy : V} {Q : VK} {ds : List D} {vs : List V} {Xx : AP}
/-! ### sorted -/
abbrev pk (q : D × V) : PyData := q.1.py
def leP (q r : D × V) : Bool := PySem.W.dataLe false pk q r
def leD (x y : D) : Bool := PySem.W.dataLe false D.py x y
def rSortD (K : PySem.W.Frag) : List V → Hp → VK → Prop := fun xs H Q => ∃ (a : Addr) (ps : List (D × V)), xs = [.ref a] ∧ (SqL K H a (ps.map (·.2))) ∧ (∀ q ∈ ps, Dp K H q.2 q.1.py) ∧ PySem.W.AllAlike (ps.map pk) ∧ DLS.CanSort (ps.map pk) ∧
  (∀ q ∈ ps, q.1.py.depth ≤ 60) ∧ ∀ l, H l = none → Q (.ref l) (upd H l (.lst ((ps.mergeSort leP).map (·.2))))
theorem each_vals : ∀ {ps : List (D × V)} {us : List Value}, Vals (ps.map (·.2)) us → PySem.W.EachIs (fun (u : Value) (q : D × V) => RelV q.2 u) us ps
  | [], us, r => by
    cases r
    exact .nil
  | q :: ps, us, r => by
    rw [List.map_cons] at r
    cases r with
    | cons r1 r2 => exact .cons r1 (each_vals r2)
theorem vals_each : ∀ {ps : List (D × V)} {us : List Value}, PySem.W.EachIs (fun (u : Value) (q : D × V) => RelV q.2 u) us ps → Vals (ps.map (·.2)) us
  | [], us, r => by
    cases r
    exact .nil
  | q :: ps, us, r => by
    cases r with
    | cons r1 r2 => exact .cons r1 (vals_each r2)
theorem each_reads {pins : List (Addr × Obj)} {s : Shared} (I : Inv X pins σ H s) : ∀ {ps : List (D × V)} {us : List Value}, Vals (ps.map (·.2)) us → (∀ q ∈ ps, Dp X.K H q.2 q.1.py) →
    PySem.W.EachIs (fun (u : Value) (q : D × V) => ∃ as, Reads s.heap u (pk q) as) us ps
  | [], us, r, _ => by
    cases r
    exact .nil
  | q :: ps, us, r, h => by
    rw [List.map_cons] at r
    cases r with
    | cons r1 r2 => exact .cons (Dp.reads I _ _ _ (h q List.mem_cons_self) r1) (each_reads I r2 fun q hq => h q (List.mem_cons_of_mem _ hq))
theorem cr_sortD (hu : X.A.units + 64 < cLine) : CallR X (.builtin "sorted") (rSortD X.K) := by
  intro pins s σ H xs us Q I r h
  obtain ⟨a, ps, rfl, hs, hd, hal, hk, hdep, q⟩ := h
  obtain ⟨its, rv, hl, hz⟩ := I.list hs
  rw [Vals.ref1 r]
  have hlen := rv.length
  rw [List.length_map] at hlen hz
  refine DLS.sorted_any (enc := pk) (R := fun (u : Value) (q : D × V) => RelV q.2 u) hl.isList (each_vals rv) (each_reads I rv hd) hal hk hz (fun q hq => by have := hdep q hq; show X.A.units + 2 + q.1.py.depth < cLine; omega) fun out ho eo => ?_
  obtain ⟨ep, he'⟩ := PyProof.Rows.sortedAll_at s.heap its out.toArray
  have hz2 : ((ps.mergeSort leP).map (·.2)).length ≤ sizeLine := by rw [List.length_map, List.length_mergeSort]; exact hz
  refine ⟨.ref _, upd H (s.heap.objs.size + 1) (.lst ((ps.mergeSort leP).map (·.2))), I.laid (t' := s.toks) (fun _ _ => PyProof.Rows.sortedAll_old) (Nat.le_succ _) ⟨hz2, out, ep, vals_each eo, he'⟩, rfl, q _ (I.hok.fresh (Nat.le_succ _))⟩

/-- what may be sorted, told by looking -/
def alikeB (ds : List D) : Bool := ds.all fun d => ds.all fun e => PySem.W.alike d.py e.py
def tupB : D → Bool
  | .tup _ => true
  | _ => false
def noTupB : D → Bool
  | .tup _ => false
  | .non => false
  | .dct _ _ => false
  | .scr _ => false
  | _ => true
def sortOk (ds : List D) : Bool := plL ds && alikeB ds && (ds.all fun d => decide (d.py.depth ≤ 60)) && (ds.all tupB || ds.all noTupB)
def dSorted : D → Option Ow
  | .lst ds => if sortOk ds then some (.lst (ds.mergeSort leD)) else none
  | _ => none
theorem zip_snd : ∀ {ds : List D} {vs : List V}, vs.length = ds.length → (ds.zip vs).map (·.2) = vs ∧ (ds.zip vs).map (·.1) = ds
  | [], [], _ => ⟨rfl, rfl⟩
  | d :: ds, v :: vs, h => by
    obtain ⟨h1, h2⟩ := zip_snd (ds := ds) (vs := vs) (by simpa using h)
    exact ⟨by rw [List.zip_cons_cons, List.map_cons, h1], by rw [List.zip_cons_cons, List.map_cons, h2]⟩
  | [], v :: vs, h => by cases h
  | d :: ds, [], h => by cases h
theorem zip_rp : ∀ {ds : List D} {vs : List V}, RpL K Xx H ds vs → ∀ q ∈ ds.zip vs, Rp K Xx H q.1 q.2
  | [], vs, h, q, hq => by simp at hq
  | d :: ds, vs, h, q, hq => by
    obtain ⟨v, ws, rfl, h1, h2⟩ := h.of_cons
    rw [List.zip_cons_cons] at hq
    rcases List.mem_cons.mp hq with e | hq
    · subst e
      exact h1
    · exact zip_rp h2 q hq
theorem rpL_of_pairs : ∀ {ps : List (D × V)}, (∀ q ∈ ps, Rp K Xx H q.1 q.2) → RpL K Xx H (ps.map (·.1)) (ps.map (·.2))
  | [], _ => .nil
  | q :: ps, h => .cons (h q List.mem_cons_self) (rpL_of_pairs fun r hr => h r (List.mem_cons_of_mem _ hr))
theorem plL_mem : ∀ {ds : List D}, plL ds = true → ∀ d ∈ ds, d.pl = true
  | [], _, d, hd => by cases hd
  | e :: ds, h, d, hd => by
    unfold plL at h
    rw [Bool.and_eq_true] at h
    rcases List.mem_cons.mp hd with q | hd
    · rw [q]
      exact h.1
    · exact plL_mem h.2 d hd
theorem canSort_of (h : (ds.all tupB || ds.all noTupB) = true) : DLS.CanSort (ds.map D.py) := by
  rw [Bool.or_eq_true] at h
  rcases h with h | h
  · have ht : ∀ e ∈ ds.map D.py, ∃ xs, e = .tuple xs := fun e he => by
      obtain ⟨d, hd, rfl⟩ := List.mem_map.mp he
      have q := List.all_eq_true.mp h d hd
      cases d with
      | tup xs => exact ⟨pyL xs, by unfold D.py; rfl⟩
      | _ => cases q
    by_cases hn : (ds.map D.py).all DLS.hasItem = true
    · refine .inl (.inl fun e he => ?_)
      obtain ⟨xs, rfl⟩ := ht e he
      have q := List.all_eq_true.mp hn _ he
      cases xs with
      | nil => cases q
      | cons x xs => exact ⟨x, xs, rfl⟩
    · exact .inr ⟨ht, by simpa using hn⟩
  · refine .inl (.inr fun e he => ?_)
    obtain ⟨d, hd, rfl⟩ := List.mem_map.mp he
    have q := List.all_eq_true.mp h d hd
    cases d <;> first | exact absurd q Bool.false_ne_true | (unfold D.py; exact ⟨(fun z => by cases z), fun _ z => by cases z⟩)
theorem leP_leD (q r : D × V) : leP q r = leD q.1 r.1 := rfl
theorem c_sorted (hu : X.A.units + 64 < cLine) : HasCO X (.builtin "sorted") dSorted := by
  refine ⟨_, cr_sortD hu, fun c σ H ρ x z vx Q E b e k => ?_⟩
  unfold dSorted at e
  split at e
  · split at e <;> cases e
    rename_i ds hs
    unfold sortOk at hs
    simp only [Bool.and_eq_true] at hs
    obtain ⟨⟨⟨h1, h2⟩, h3⟩, h4⟩ := hs
    obtain ⟨a, vs, rfl, t, l⟩ := b.lst
    obtain ⟨z1, z2⟩ := zip_snd l.length
    have zr := zip_rp l
    have ey : (ds.zip vs).map pk = ds.map D.py := by
      rw [← z2, List.map_map, z2]
      rfl
    refine ⟨a, ds.zip vs, rfl, ?_, fun q hq => ?_, ?_, ?_, fun q hq => ?_, fun p np => ?_⟩
    · rw [z1]
      exact .inl t
    · exact (zr q hq).dp (plL_mem h1 _ (by rw [← z2]; exact List.mem_map_of_mem hq))
    · rw [ey]
      intro d1 hd1 d2 hd2
      obtain ⟨x1, hx1, rfl⟩ := List.mem_map.mp hd1
      obtain ⟨x2, hx2, rfl⟩ := List.mem_map.mp hd2
      exact List.all_eq_true.mp (List.all_eq_true.mp h2 x1 hx1) x2 hx2
    · rw [ey]
      exact canSort_of h4
    · exact of_decide_eq_true (List.all_eq_true.mp h3 q.1 (by rw [← z2]; exact List.mem_map_of_mem hq))
    · have es : ((ds.zip vs).mergeSort leP).map (·.1) = ds.mergeSort leD := by
        rw [PySem.W.sort_maps (r := leP) (s := leD) (fun q : D × V => q.1) (fun _ _ _ _ => rfl), z2]
      have rs : RpL X.K (Xo c σ ρ) H (((ds.zip vs).mergeSort leP).map (·.1)) (((ds.zip vs).mergeSort leP).map (·.2)) :=
        rpL_of_pairs fun q hq => zr q (List.mem_mergeSort.mp hq)
      rw [es] at rs
      obtain ⟨g1, g2, g3, g4⟩ := E.newLst np rs
      exact k _ _ g1 g2 g3 g4
  · cases e

/-! ### dict(pairs) -/
theorem leD_total : PySem.W.TotalLe leD := PySem.W.sortLe_total (PyProof.Rows.listOrd PyProof.Rows.itemOrd) false fun d : D => PySem.W.keyToks d.py
theorem leD_str (a b : Str) : leD (.str a) (.str b) = !decide (b.cps.toList < a.cps.toList) := by
  show (!PyProof.Rows.lexLt PyProof.Rows.itemOrd (PySem.W.keyToks (D.str b).py) (PySem.W.keyToks (D.str a).py)) = _
  unfold D.py
  show (!(PyProof.Rows.itemOrd.blt (.inr b.cps.toList) (.inr a.cps.toList) || (!PyProof.Rows.itemOrd.blt (.inr a.cps.toList) (.inr b.cps.toList) && false))) = _
  rw [Bool.and_false, Bool.or_false]
  show (!PyProof.Rows.itemLt (.inr b.cps.toList) (.inr a.cps.toList)) = _
  unfold PyProof.Rows.itemLt
  rfl
theorem ltCps_dec : ∀ l m : List Nat, ltCps l m = decide (l < m)
  | [], [] => rfl
  | [], _ :: _ => by
    unfold ltCps
    exact (decide_eq_true (List.nil_lt_cons _ _)).symm
  | _ :: _, [] => by
    unfold ltCps
    exact (decide_eq_false (List.not_lt_nil _)).symm
  | a :: r, b :: t => by
    unfold ltCps
    rw [ltCps_dec r t, Bool.eq_iff_iff]
    simp only [Bool.or_eq_true, Bool.and_eq_true, decide_eq_true_eq, beq_iff_eq, List.cons_lt_cons_iff]
theorem leD_antisymm_str {a b : Str} (h1 : leD (.str a) (.str b) = true) (h2 : leD (.str b) (.str a) = true) : a = b := by
  rw [leD_str, Bool.not_eq_true', decide_eq_false_iff_not] at h1 h2
  have e := List.le_antisymm (List.not_lt.mp h1) (List.not_lt.mp h2)
  cases a
  cases b
  rw [Array.toList_inj] at e
  cases e
  rfl
theorem risingS_leD : ∀ {p : Str} {l : List Str}, risingS p l = true → (∀ x ∈ l, leD (.str p) (.str x) = true) ∧ l.Pairwise fun a b => leD (.str a) (.str b) = true
  | p, [], _ => ⟨(fun _ h => by cases h), .nil⟩
  | p, x :: r, h => by
    unfold risingS at h
    rw [Bool.and_eq_true, ltCps_dec] at h
    obtain ⟨h1, h2⟩ := h
    obtain ⟨g1, g2⟩ := risingS_leD h2
    have h0 : leD (.str p) (.str x) = true := by rw [leD_str]; exact h1
    refine ⟨fun y hy => ?_, .cons g1 g2⟩
    rcases List.mem_cons.mp hy with e | hy
    · rw [e]; exact h0
    · exact leD_total.trans _ _ _ h0 (g1 y hy)
theorem sortedS_leD {l : List Str} (h : sortedS l = true) : (l.map D.str).Pairwise fun a b => leD a b = true := by
  rw [List.pairwise_map]
  cases l with
  | nil => exact .nil
  | cons x r =>
    obtain ⟨g1, g2⟩ := risingS_leD (show risingS x r = true from h)
    exact .cons g1 g2
theorem sort_pw (ds : List D) : (ds.mergeSort leD).Pairwise fun a b => leD a b = true :=
  List.pairwise_mergeSort leD_total.trans (fun a b => by rw [Bool.or_eq_true]; exact leD_total.total a b) ds
theorem sort_strs {ys ks : List Str} (hp : ys.Perm ks) (hs : sortedS ys = true) : ys.map D.str = (ks.map D.str).mergeSort leD := by
  refine List.Perm.eq_of_pairwise (fun a b ha hb h1 h2 => ?_) (sortedS_leD hs) (sort_pw _) ((hp.map _).trans (List.mergeSort_perm _ _).symm)
  obtain ⟨x, _, rfl⟩ := List.mem_map.mp ha
  obtain ⟨y, _, rfl⟩ := List.mem_map.mp (List.mem_mergeSort.mp hb)
  rw [leD_antisymm_str h1 h2]
def strsOf : List Key → Option (List Str)
  | [] => some []
  | .inr x :: ks => (strsOf ks).map (x :: ·)
  | .inl _ :: _ => none
theorem strsOf_ok : ∀ {ks : List Key} {xs : List Str}, strsOf ks = some xs → ks = xs.map Sum.inr
  | [], xs, h => by cases h; rfl
  | .inr x :: ks, xs, h => by
    unfold strsOf at h
    obtain ⟨ys, h1, rfl⟩ := Option.map_eq_some_iff.mp h
    rw [strsOf_ok h1]
    rfl
  | .inl _ :: _, xs, h => by cases h
def dSortedK : D → Option Ow
  | .dct ks _ => (strsOf ks).bind fun xs => if xs.length < 64 then some (.lst ((xs.map D.str).mergeSort leD)) else none
  | _ => none
theorem rpL_strs : ∀ ys : List Str, RpL K Xx H (ys.map D.str) (ys.map V.str)
  | [] => .nil
  | y :: ys => .cons .str (rpL_strs ys)
theorem c_sortedK (hc : X.calm = true) : HasCO X (.builtin "sorted") dSortedK := by
  refine ⟨_, call_sortedD hc, fun c σ H ρ x z vx Q E b e k => ?_⟩
  unfold dSortedK at e
  split at e
  · obtain ⟨xs, e1, e2⟩ := Option.bind_eq_some_iff.mp e
    split at e2 <;> cases e2
    obtain ⟨a, kvs, rfl, t, e3, l⟩ := b.dct
    refine ⟨a, kvs, xs, rfl, t, by rw [e3, strsOf_ok e1], by assumption, fun ys p hp hs np => ?_⟩
    have r := rpL_strs (K := X.K) (Xx := Xo c σ ρ) (H := H) ys
    rw [sort_strs hp hs] at r
    obtain ⟨g1, g2, g3, g4⟩ := E.newLst np r
    exact k _ _ g1 g2 g3 g4
  · cases e
def dSort (x : D) : Option Ow := match x with
  | .lst ds => if sortOk ds then some (.lst (ds.mergeSort leD)) else none
  | .dct ks _ => (strsOf ks).bind fun xs => if xs.length < 64 then some (.lst ((xs.map D.str).mergeSort leD)) else none
  | _ => none
theorem c_sort (hc : X.calm = true) (hu : X.A.units + 64 < cLine) : HasCO X (.builtin "sorted") dSort := ((c_sorted hu).or (c_sortedK hc)).to fun x z h => by
  cases x with
  | lst ds =>
    have h : (if sortOk ds then some (Ow.lst (ds.mergeSort leD)) else none) = some z := h
    show Option.or (if sortOk ds then some (Ow.lst (ds.mergeSort leD)) else none) none = some z
    rw [h]
    rfl
  | dct ks ds => exact h
  | _ => cases h
def putKs (ks : List Key) (k : Key) : List Key := if hasK ks k then ks else ks ++ [k]
def putDs (ks : List Key) (ds : List D) (k : Key) (d : D) : List D := if hasK ks k then (ks.zip ds).map fun q => if q.1 = k then d else q.2 else ds ++ [d]
theorem put_ok {kvs : List (Key × V)} {k : Key} (l : RpL K Xx H ds (kvs.map (·.2))) (r : Rp K Xx H d v) : (putK kvs k v).map (·.1) = putKs (kvs.map (·.1)) k ∧ RpL K Xx H (putDs (kvs.map (·.1)) ds k d) ((putK kvs k v).map (·.2)) := by
  have e : (kvs.any fun kv => decide (kv.1 = k)) = hasK (kvs.map (·.1)) k := by
    unfold hasK
    rw [List.any_map]
    rfl
  unfold putK putKs putDs
  rw [e]
  cases hasK (kvs.map (·.1)) k with
  | true =>
    rw [if_pos rfl, if_pos rfl, if_pos rfl]
    constructor
    · rw [List.map_map]
      refine List.map_congr_left fun q _ => ?_
      show (if q.1 = k then (q.1, v) else q).1 = q.1
      by_cases h : q.1 = k
      · rw [if_pos h]
      · rw [if_neg h]
    · clear e
      induction kvs generalizing ds with
      | nil =>
        have q := l.length
        cases ds with
        | nil => exact .nil
        | cons _ _ => cases q
      | cons kv kvs ih =>
        cases ds with
        | nil => exact absurd l.length (by simp)
        | cons d0 ds =>
          obtain ⟨v0, ws, e1, h1, h2⟩ := l.of_cons
          obtain ⟨rfl, rfl⟩ := List.cons.inj e1
          refine .cons ?_ (ih h2)
          show Rp K Xx H (if kv.1 = k then d else d0) (if kv.1 = k then (kv.1, v) else kv).2
          by_cases h : kv.1 = k
          · rw [if_pos h, if_pos h]
            exact r
          · rw [if_neg h, if_neg h]
            exact h1
  | false =>
    rw [if_neg (by decide), if_neg (by decide), if_neg (by decide)]
    constructor
    · rw [List.map_append]
      rfl
    · rw [List.map_append]
      exact l.app (.cons r .nil)
/-- pairs of keys and things -/
def pairsOf : List D → Option (List (Key × D))
  | [] => some []
  | .tup [x, y] :: ds => (keyOf x).bind fun k => (pairsOf ds).map ((k, y) :: ·)
  | _ => none
def mergeD (ks : List Key) (ds : List D) : List (Key × D) → List Key × List D
  | [] => (ks, ds)
  | q :: qs => mergeD (putKs ks q.1) (putDs ks ds q.1 q.2) qs
def dDict : D → Option Ow
  | .tup ps => (pairsOf ps).map fun qs => .dct (mergeD [] [] qs).1 (mergeD [] [] qs).2
  | .lst ps => (pairsOf ps).map fun qs => .dct (mergeD [] [] qs).1 (mergeD [] [] qs).2
  | _ => none
theorem pairsOf_ok : ∀ {ds : List D} {vs : List V} {qs : List (Key × D)}, RpL K Xx H ds vs → pairsOf ds = some qs →
    ∃ (ps : List Addr) (kvs : List (Key × V)), vs = ps.map V.ref ∧ Paired (fun p kv => SqT K H p [kV kv.1, kv.2]) ps kvs ∧ kvs.map (·.1) = qs.map (·.1) ∧ RpL K Xx H (qs.map (·.2)) (kvs.map (·.2))
  | [], vs, qs, l, e => by
    cases e
    rw [l.of_nil]
    exact ⟨[], [], rfl, .nil, rfl, .nil⟩
  | d :: ds, vs, qs, l, e => by
    obtain ⟨v, ws, rfl, h1, h2⟩ := l.of_cons
    unfold pairsOf at e
    split at e
    · rename_i q
      cases q
    · rename_i q
      cases q
      obtain ⟨k, e1, e2⟩ := Option.bind_eq_some_iff.mp e
      obtain ⟨qs', e3, rfl⟩ := Option.map_eq_some_iff.mp e2
      obtain ⟨ps, kvs, rfl, p1, p2, p3⟩ := pairsOf_ok h2 e3
      unfold Rp at h1
      obtain ⟨a, us, rfl, t, l1⟩ := h1
      obtain ⟨u1, us1, rfl, r1, l2⟩ := l1.of_cons
      obtain ⟨u2, us2, rfl, r2, l3⟩ := l2.of_cons
      have e4 := l3.of_nil
      subst e4
      have e5 := Rp.key r1.bo e1
      subst e5
      exact ⟨a :: ps, (k, u2) :: kvs, rfl, .cons t.sq p1, by rw [List.map_cons, List.map_cons, p2], .cons r2 p3⟩
    · cases e
theorem merge_ok : ∀ {qs : List (Key × D)} {more kvs : List (Key × V)} {ds : List D}, more.map (·.1) = qs.map (·.1) → RpL K Xx H (qs.map (·.2)) (more.map (·.2)) → RpL K Xx H ds (kvs.map (·.2)) →
    (mergeK kvs more).map (·.1) = (mergeD (kvs.map (·.1)) ds qs).1 ∧ RpL K Xx H (mergeD (kvs.map (·.1)) ds qs).2 ((mergeK kvs more).map (·.2))
  | [], more, kvs, ds, e, l, l2 => by
    cases more with
    | nil => exact ⟨rfl, l2⟩
    | cons _ _ => cases e
  | q :: qs, more, kvs, ds, e, l, l2 => by
    cases more with
    | nil => cases e
    | cons kv more =>
      obtain ⟨e1, e2⟩ := List.cons.inj e
      obtain ⟨v, ws, e3, r, l3⟩ := l.of_cons
      obtain ⟨rfl, rfl⟩ := List.cons.inj e3
      obtain ⟨h1, h2⟩ := put_ok (k := kv.1) l2 r
      have q2 := merge_ok (kvs := putK kvs kv.1 kv.2) e2 l3 h2
      rw [h1] at q2
      have e1 : kv.1 = q.1 := e1
      unfold mergeD
      rw [← e1]
      exact q2
def rDictT (K : PySem.W.Frag) : List V → Hp → VK → Prop := fun xs H Q => ∃ (a : Addr) (ps : List Addr) (kvs : List (Key × V)), xs = [.ref a] ∧ (∃ Xx, TpAt K Xx H a (ps.map V.ref)) ∧ Paired (fun p kv => SqT K H p [kV kv.1, kv.2]) ps kvs ∧
    ∀ p, H p = none → Q (.ref p) (upd H p (.dK (mergeK [] kvs)))
theorem call_dictT (hcalm : X.calm = true) : CallR X (.type "dict") (rDictT X.K) := by
  intro pins s σ H xs us Q I r q
  obtain ⟨a, ps, kvs, ex, ⟨Xx, hq⟩, hp, q⟩ := q
  subst ex
  obtain ⟨u, eu, rx⟩ := vals1 r
  subst eu
  cases rx
  obtain ⟨its, rv, pl, hz⟩ := I.tuple hq.sq
  have ei := refs_at rv
  subst ei
  rw [List.length_map] at hz
  obtain ⟨prs, rel, hl, hpr⟩ := pairs_of I hp
  have plain : PlainSeq "tuple" s.heap a (ps.map Value.ref).toArray := by
    obtain ⟨o, ho, hc, n, hd⟩ := pl
    refine ⟨o, n, ho, hc, ?_, hd⟩
    rcases hq with ⟨ob, h1, h2, _⟩ | ⟨_, ob, h1, h2⟩
    · obtain ⟨h3, _⟩ := I.hok a _ h1
      rw [ho] at h3
      cases h3
      exact h2
    · have h3 := I.kIn a ob h1
      rw [ho] at h3
      cases h3
      exact h2
  have items : ∃ (us : List Value), us.length = prs.length ∧ PairItems s.heap (ps.map Value.ref).toArray (fun j => ps.getD j 0) (us.zip (prs.map (·.2))) ∧ ∀ (j : Nat) (u : Value), us[j]? = some u → ∃ q, prs[j]? = some q ∧ keyIs q.1 u = true := by
    have each : ∀ j : Nat, ∃ u : Value, ∀ q : Key × Value, prs[j]? = some q → ∃ b, ps[j]? = some b ∧ IsTup s.heap b #[u, q.2] ∧ keyIs q.1 u = true := fun j => by
      cases e : prs[j]? with
      | none => exact ⟨.none, fun q hq => by cases hq⟩
      | some q =>
        obtain ⟨b, u, h1, h2, h3⟩ := hpr j q e
        exact ⟨u, fun q' hq' => by cases hq'; exact ⟨b, h1, h2, h3⟩⟩
    refine ⟨(List.range prs.length).map fun j => (each j).choose, by simp, ⟨by simp [hl], fun j k v hj => ?_⟩, fun j u hu => ?_⟩
    · obtain ⟨e1, e2⟩ := List.getElem?_zip_eq_some.mp hj
      rw [List.getElem?_map] at e1 e2
      obtain ⟨j', e3, e4⟩ := Option.map_eq_some_iff.mp e1
      obtain ⟨q, e5, e6⟩ := Option.map_eq_some_iff.mp e2
      have e7 : j' = j := by
        rw [List.getElem?_range (List.getElem?_eq_some_iff.mp e5).1] at e3
        exact (Option.some.inj e3).symm
      subst e7
      obtain ⟨b, h1, h2, h3⟩ := (each j').choose_spec q e5
      refine ⟨by simp [h1], .inl ?_⟩
      have eb : ps.getD j' 0 = b := by simp [h1]
      show s.heap.IsTuple (ps.getD j' 0) #[k, v]
      have e8 : (each j').choose = k := e4
      have e9 : q.2 = v := e6
      rw [eb, ← e8, ← e9]
      exact h2
    · rw [List.getElem?_map] at hu
      obtain ⟨j', e3, e4⟩ := Option.map_eq_some_iff.mp hu
      have hlt : j < prs.length := by
        have := (List.getElem?_eq_some_iff.mp e3).1
        simpa using this
      have e7 : j' = j := by
        rw [List.getElem?_range hlt] at e3
        exact (Option.some.inj e3).symm
      subst e7
      obtain ⟨b, h1, h2, h3⟩ := (each j').choose_spec _ (List.getElem?_eq_getElem hlt)
      exact ⟨_, List.getElem?_eq_getElem hlt, by rw [← e4]; exact h3⟩
  obtain ⟨us, hus, hit, hkey⟩ := items
  have hzl : (us.zip (prs.map (·.2))).length = prs.length := by rw [List.length_zip, List.length_map, hus, Nat.min_self]
  refine PySem.call_dict_pairs (knd := mixKind X.prog X.w) (kvs := prs) (PairArg.tuple a (ps.map Value.ref).toArray (fun j => ps.getD j 0) (us.zip (prs.map (·.2)))) (I.ok.hd hcalm) ⟨plain, hit⟩ ⟨hzl.symm, fun j key v hj => ?_⟩ (by rw [hzl, hl]; exact hz) fun h' tk hd' kp => ?_
  · have hj : (us.zip (prs.map (·.2)))[j]? = some (key, v) := hj
    obtain ⟨e1, e2⟩ := List.getElem?_zip_eq_some.mp hj
    obtain ⟨q, e3, e4⟩ := hkey j key e1
    rw [List.getElem?_map, e3] at e2
    refine ⟨q.1, ?_, e4⟩
    have e5 : q.2 = v := Option.some.inj e2
    rw [e3, ← e5]
  · have hm : (s.heap.objs.size == sysModules) = false := beq_eq_false_iff_ne.mpr (Nat.ne_of_gt I.big)
    have hlen : (mergeK [] kvs).length ≤ sizeLine := by
      refine Nat.le_trans (length_mergeK kvs []) ?_
      rw [List.length_nil, Nat.zero_add, rel.length, hl]
      exact hz
    exact ⟨.ref s.heap.objs.size, upd H s.heap.objs.size (.dK (mergeK [] kvs)), I.laid (t' := tk) (fun b o e => kp b o (by simp) e) (Nat.le_refl _) (show ObjOk X.prog X.w _ _ _ (.dK (mergeK [] kvs)) from ⟨hlen, hm, merged [] prs, KV.merge rel .nil, hd'⟩), rfl, q _ (I.hok.fresh (Nat.le_refl _))⟩
theorem c_dict (hc : X.calm = true) : HasCO X (.type "dict") dDict := by
  refine ⟨_, (call_dictT hc).or (call_dictP hc), fun c σ H ρ x z vx Q E b e k => ?_⟩
  unfold dDict at e
  split at e
  · obtain ⟨qs, e1, rfl⟩ := Option.map_eq_some_iff.mp e
    obtain ⟨a, vs, rfl, t, l⟩ := b.tup
    obtain ⟨ps, kvs, rfl, p1, p2, p3⟩ := pairsOf_ok l e1
    obtain ⟨m1, m2⟩ := merge_ok (kvs := []) (ds := []) p2 p3 .nil
    refine .inl ⟨a, ps, kvs, rfl, ⟨_, t⟩, p1, fun p np => ?_⟩
    obtain ⟨g1, g2, g3, g4⟩ := E.newDct np m2
    rw [m1] at g2
    exact k _ _ g1 g2 g3 g4
  · obtain ⟨qs, e1, rfl⟩ := Option.map_eq_some_iff.mp e
    obtain ⟨a, vs, rfl, t, l⟩ := b.lst
    obtain ⟨ps, kvs, rfl, p1, p2, p3⟩ := pairsOf_ok l e1
    obtain ⟨m1, m2⟩ := merge_ok (kvs := []) (ds := []) p2 p3 .nil
    refine .inr ⟨a, ps, kvs, rfl, .inl t, p1, fun p np => ?_⟩
    obtain ⟨g1, g2, g3, g4⟩ := E.newDct np m2
    rw [m1] at g2
    exact k _ _ g1 g2 g3 g4
  · cases e
end
end DL

set_option Elab.async false
set_option linter.all false
set_option maxRecDepth 100000
namespace DL
open PySem PySem.Spec PyProof.Rows L2

section
variable {X : Cx} {K : PySem.W.Frag} {c : Fx} {σ : Sg} {H H' : Hp} {ρ ρ' : En} {i j : Nat} {a p : Addr} {o : Ow} {d x y z : D} {v vx vy : V} {Q : VK} {ds : List D} {vs : List V} {Xx : AP}
variable {e1 e2 e3 : Expr} {es : List Expr} {oa ob : Opd} {pos np : Pos} {nm : Str} {bid : String} {ma mb : Mm D} {ta tb : Mm Bool}
/-! ### isinstance -/
def tyN : D → String
  | .non => "NoneType"
  | .bl _ => "bool"
  | .int _ => "int"
  | .str _ => "str"
  | .tup _ => "tuple"
  | .lst _ => "list"
  | .dct _ _ => "dict"
  | .scr _ => "list"
def isiB (n : String) : D → Bool
  | .bl _ => n == "bool" || n == "int"
  | d => n == tyN d
theorem tyX_of (b : Bo K Xx H d v) : TyX K H v (.type (tyN d)) := by
  cases d with
  | non => have e := b.non; subst e; exact .base .non
  | bl _ => have e := b.bl; subst e; exact .base (.bl _)
  | int _ => have e := b.int; subst e; exact .base (.int _)
  | str _ => have e := b.str; subst e; exact .base (.str _)
  | tup _ =>
    obtain ⟨a, vs, rfl, t, _⟩ := b.tup
    rcases t with ⟨ob, h, _⟩ | ⟨(h | ⟨o, h⟩) | ⟨o, its, n, h1, h2, _⟩, _⟩
    · exact .fTuple h
    · cases h
    · cases h
    · exact .kTuple h1 h2
  | lst _ =>
    obtain ⟨a, vs, rfl, t, _⟩ := b.lst
    rcases t with h | ⟨o, h⟩
    · exact .base (.lst h)
    · exact .base (.frz h)
  | dct _ _ =>
    obtain ⟨a, vs, rfl, t, _⟩ := b.dct
    rcases t with h | ⟨o, h⟩
    · exact .base (.dK h)
    · exact .fDict h
  | scr _ =>
    obtain ⟨a, vs, rfl, t, _⟩ := b.scr
    rcases t with ⟨h | ⟨o, h⟩, _⟩ | (h | ⟨o, h⟩) | ⟨o, its, n, h1, h2, _⟩
    · exact .base (.lst h)
    · exact .base (.frz h)
    · cases h
    · cases h
    · exact .kList h1 h2
def isiAll (n : String) : Bool := decide (kitB "NoneType" n = some (n == "NoneType")) && decide (kitB "bool" n = some (n == "bool" || n == "int")) && decide (kitB "int" n = some (n == "int")) && decide (kitB "str" n = some (n == "str")) &&
  decide (kitB "tuple" n = some (n == "tuple")) && decide (kitB "list" n = some (n == "list")) && decide (kitB "dict" n = some (n == "dict"))
theorem isi_ok {n : String} (h : isiAll n = true) (d : D) : PySem.W.kitOne K (.type (tyN d)) (.type n) = some (isiB n d) := by
  unfold isiAll at h
  simp only [Bool.and_eq_true, decide_eq_true_eq] at h
  obtain ⟨⟨⟨⟨⟨⟨h1, h2⟩, h3⟩, h4⟩, h5⟩, h6⟩, h7⟩ := h
  cases d with
  | non => exact kit_ty h1
  | bl _ => exact kit_ty h2
  | int _ => exact kit_ty h3
  | str _ => exact kit_ty h4
  | tup _ => exact kit_ty h5
  | lst _ => exact kit_ty h6
  | dct _ _ => exact kit_ty h7
  | scr _ => exact kit_ty h6
theorem isi_int : isiAll "int" = true := by decide +kernel
theorem isi_bool : isiAll "bool" = true := by decide +kernel
theorem isi_str : isiAll "str" = true := by decide +kernel
theorem isi_tuple : isiAll "tuple" = true := by decide +kernel
theorem isi_list : isiAll "list" = true := by decide +kernel
theorem isi_dict : isiAll "dict" = true := by decide +kernel
def dIsi (n : String) (x : D) : Option D := some (.bl (isiB n x))
theorem ce_isi {n : String} {cn : Str} {cp : Pos} (hn : isiAll n = true) (ha : PD X e1 oa) (hg : Gl X "isinstance" := by rfl) (hm : X.mg "isinstance" = none) (hg2 : Gl X cn := by rfl) (hm2 : X.mg cn = none) (hv2 : bootBuiltins cn = some (.type n)) (hn2 : cn ≠ "__name__" := by decide) (hdb2 : (cn == ("__debug__" : Str)) = false := by decide)
    (hv : bootBuiltins "isinstance" = some (.builtin "isinstance")) (he : starEach (e1 :: [.Name cn cp]) X.env = (false, eval e1 X.env) :: starEach [.Name cn cp] X.env := by rfl) (he2 : starEach (.Name cn cp :: []) X.env = (false, eval (.Name cn cp) X.env) :: starEach [] X.env := by rfl)
    (hpl : (backTo pos (starEach [.Name cn cp] X.env)).any (·.1) = false := by rfl) : CE X (.Call (.Name "isinstance" np) [e1, .Name cn cp] [] pos) (m1 oa (dIsi n)) := by
  refine pe_imp (pe_callB call_isi hg hm hv (pa_cons ha (pa_cons (pe_bltn (v := .ty n) hg2 hm2 hv2 rfl hn2 hdb2) pa_nil he2) he) (by decide) (by decide) he hpl) fun σ H Q h => ?_
  obtain ⟨c, ρ, z, ρ', E, e, k⟩ := h
  refine op1 E e fun x vx H' E' b1 w => ?_
  cases w
  exact ⟨vx, .ty n, _, _, _, rfl, .ty n, tyX_of b1, isi_ok hn x, k _ _ E' .bl⟩
/-! ### slices -/
def tPm (K : PySem.W.Frag) (m : Mm (Option Int)) : TO := fun σ H Q => ∃ c ρ d ρ', ER K c σ H ρ ∧ m ρ = some (d, ρ') ∧ ∀ H', ER K c σ H' ρ' → Q d H'
def CP (X : Cx) (e : Option Expr) (m : Mm (Option Int)) : Prop := L2.PO X e (tPm X.K m)
theorem po_imp {X : Cx} {e : Option Expr} {t t' : TO} (h : L2.PO X e t) (w : ∀ σ H Q, t' σ H Q → t σ H Q) : L2.PO X e t' := ⟨fun pins s σ H Q I q => h.run pins s σ H Q I (w σ H Q q)⟩
def asI : D → Option (Option Int)
  | .int i => some (some i)
  | _ => none
def mPn : Mm (Option Int) := ret none
def mPs (m : Mm D) : Mm (Option Int) := bd m fun x => lf (asI x)
theorem cp_none : CP X none mPn := po_imp po_none fun σ H Q q => by
  obtain ⟨c, ρ, d, ρ', E, e, k⟩ := q
  cases e
  exact k H E
theorem cp_some (h : CE X e1 ma) : CP X (some e1) (mPs ma) := po_imp (po_some h) fun σ H Q q => by
  obtain ⟨c, ρ, d, ρ', E, e, k⟩ := q
  obtain ⟨x, ρ1, g1, f1⟩ := bd_some e
  obtain ⟨g2, rfl⟩ := lf_some f1
  unfold asI at g2
  split at g2 <;> cases g2
  exact ⟨c, ρ, _, ρ1, E, g1, fun v H' E' r => ⟨_, by unfold Rp at r; exact r, k H' E'⟩⟩
def mSl {α : Type} (a : Opd) (p1 p2 : Mm (Option Int)) (f : D → Option Int → Option Int → Option α) : Mm α := match a with
  | .e m => bd m fun x => bd p1 fun l => bd p2 fun u => lf (f x l u)
  | .n i => bd (mBor i) fun _ => bd p1 fun l => bd p2 fun u => bd (mBor i) fun x => lf (f x l u)
theorem op_sl {α : Type} {ma : Opd} {p1 p2 : Mm (Option Int)} {f : D → Option Int → Option Int → Option α} {z : α} {R : V → Option Int → Option Int → Hp → Prop} (E : ER K c σ H ρ) (e : mSl ma p1 p2 f ρ = some (z, ρ'))
    (h : ∀ x l u vx H', ER K c σ H' ρ' → Bo K (Xo c σ ρ') H' x vx → f x l u = some z → R vx l u H') :
    tOpd K ma σ H fun vx H1 => tPm K p1 σ H1 fun l H2 => tPm K p2 σ H2 fun u H3 => R vx l u H3 := by
  cases ma with
  | e m =>
    obtain ⟨x, ρ1, e1, f1⟩ := bd_some e
    obtain ⟨l, ρ2, e2, f2⟩ := bd_some f1
    obtain ⟨u, ρ3, e3, f3⟩ := bd_some f2
    obtain ⟨e4, e5⟩ := lf_some f3
    rw [← e5] at h
    exact ⟨c, ρ, x, ρ1, E, e1, fun vx H1 E1 r1 => ⟨c.push x vx, ρ1, l, ρ2, E1.push r1, e2, fun H2 E2 => ⟨c.push x vx, ρ2, u, ρ3, E2, e3, fun H3 E3 => h x l u vx H3 E3.pop.1 E3.pop.2.bo e4⟩⟩⟩
  | n i =>
    obtain ⟨x0, ρ0, e0, f0⟩ := bd_some e
    obtain ⟨l, ρ2, e2, f2⟩ := bd_some f0
    obtain ⟨u, ρ3, e3, f3⟩ := bd_some f2
    obtain ⟨x, ρ4, e4, f4⟩ := bd_some f3
    obtain ⟨e5, e6⟩ := lf_some f4
    obtain ⟨z0, vx, hx, _⟩ := E.bor e0
    rw [z0] at e2
    refine ⟨vx, hx, c, ρ, l, ρ2, E, e2, fun H2 E2 => ⟨c, ρ2, u, ρ3, E2, e3, fun H3 E3 => ?_⟩⟩
    obtain ⟨z1, vx', hx', b⟩ := E3.bor e4
    rw [hx] at hx'
    cases hx'
    rw [← e6, z1] at h
    exact h x l u vx H3 E3 b e5
def cutD (ds : List D) (lo hi : Option Int) : List D := (ds.drop (HT.sIx ds.length 0 lo)).take (HT.sIx ds.length ds.length hi - HT.sIx ds.length 0 lo)
theorem RpL.cut (l : RpL K Xx H ds vs) (lo hi : Option Int) : RpL K Xx H (cutD ds lo hi) (cutV vs lo hi) := by
  unfold cutD cutV
  rw [l.length]
  exact (l.drop _).take _
def dSlV (x : D) (lo hi : Option Int) : Option D := match x with
  | .tup ds => some (.tup (cutD ds lo hi))
  | .str z => if z.length ≤ 16777216 then some (.str (cutS z lo hi)) else none
  | _ => none
def dSlL (x : D) (lo hi : Option Int) : Option Ow := match x with
  | .lst ds => some (.lst (cutD ds lo hi))
  | .scr ds => some (.lst (cutD ds lo hi))
  | _ => none
theorem ce_slice {l u : Option Expr} {p1 p2 : Mm (Option Int)} {sp : Pos} (ha : PD X e1 oa) (hl : CP X l p1) (hu : CP X u p2) : CE X (.Subscript e1 (.Slice l u none sp) pos) (mSl oa p1 p2 dSlV) := by
  refine pe_imp (pe_slice (sl_tupF.or sl_str) ha hl hu) fun σ H Q h => ?_
  obtain ⟨c, ρ, z, ρ', E, e, k⟩ := h
  refine op_sl E e fun x l u vx H' E' b w => ?_
  unfold dSlV at w
  split at w
  · cases w
    obtain ⟨a, vs, rfl, t, l1⟩ := b.tup
    refine .inl ⟨a, vs, rfl, t.sq, fun hw => ?_, fun _ => E'.newT (l1.cut _ _) k⟩
    refine k _ _ E' ?_
    unfold cutD
    rw [l1.length] at hw
    rw [hw.1, hw.2, List.drop_zero, Nat.sub_zero, List.take_length]
    unfold Rp
    exact ⟨a, vs, rfl, t, l1⟩
  · split at w <;> cases w
    rw [b.str]
    exact .inr ⟨_, rfl, by rw [sizeLine_eq]; assumption, k _ _ E' .str⟩
  · cases w
theorem co_slice {l u : Option Expr} {p1 p2 : Mm (Option Int)} {sp : Pos} (ha : PD X e1 oa) (hl : CP X l p1) (hu : CP X u p2) : CO X (.Subscript e1 (.Slice l u none sp) pos) (mSl oa p1 p2 dSlL) := by
  refine pe_imp (pe_slice sl_list ha hl hu) fun σ H Q h => ?_
  obtain ⟨c, ρ, z, ρ', E, e, k⟩ := h
  refine op_sl E e fun x l u vx H' E' b w => ?_
  unfold dSlL at w
  split at w
  · cases w
    obtain ⟨a, vs, rfl, t, l1⟩ := b.lst
    refine ⟨a, vs, rfl, .inl t, fun p np => ?_⟩
    obtain ⟨g1, g2, g3, g4⟩ := E'.newLst np (l1.cut _ _)
    exact k _ _ g1 g2 g3 g4
  · cases w
    obtain ⟨a, vs, rfl, t, l1⟩ := b.scr
    refine ⟨a, vs, rfl, t.sq, fun p np => ?_⟩
    obtain ⟨g1, g2, g3, g4⟩ := E'.newLst np (l1.cut _ _)
    exact k _ _ g1 g2 g3 g4
  · cases w
/-! ### targets -/
inductive Tg where
  | nm (i : Nat)
  | tup (ts : List Tg)
def stV (i : Nat) (d : D) (ρ : En) : Option En := match ρ[i]? with
  | some (.io _) => none
  | some _ => some (ρ.set i (.va d))
  | none => none
mutual
def asg : Tg → D → En → Option En
  | .nm i, d, ρ => stV i d ρ
  | .tup ts, .tup ds, ρ => asgL ts ds ρ
  | .tup _, _, _ => none
def asgL : List Tg → List D → En → Option En
  | [], [], ρ => some ρ
  | t :: ts, d :: ds, ρ => (asg t d ρ).bind fun ρ1 => asgL ts ds ρ1
  | _, _, _ => none
end
def Fx.pushL (c : Fx) (ds : List D) (vs : List V) : Fx := { c with tmp := ds.zip vs ++ c.tmp }
theorem ER.pushL (E : ER K c σ H ρ) (l : RpL K (Xo c σ ρ) H ds vs) : ER K (c.pushL ds vs) σ H ρ :=
  ⟨E.len, E.va, E.ow, E.io, E.inj, E.fr, E.fz, E.hd, E.iot, E.x0, fun q hq => by
    rcases List.mem_append.mp hq with hq | hq
    · exact zip_rp l q hq
    · exact E.tmp q hq⟩
theorem ER.popL (hl : vs.length = ds.length) (E : ER K (c.pushL ds vs) σ H ρ) : ER K c σ H ρ ∧ RpL K (Xo c σ ρ) H ds vs := by
  refine ⟨⟨E.len, E.va, E.ow, E.io, E.inj, E.fr, E.fz, E.hd, E.iot, E.x0, fun q hq => E.tmp q (List.mem_append_right _ hq)⟩, ?_⟩
  obtain ⟨z1, z2⟩ := zip_snd hl
  have h := rpL_of_pairs (K := K) (H := H) (Xx := Xo c σ ρ) (ps := ds.zip vs) fun q hq => E.tmp q (List.mem_append_left _ hq)
  rw [z1, z2] at h
  exact h
/-- an item: a value; or a pair that the iterator lays anew -/
def IRp (pr : Bool) (K : PySem.W.Frag) (Xx : AP) (H : Hp) (d : D) (v : V) : Prop := match pr with
  | false => Rp K Xx H d v
  | true => ∃ a vs ds, v = .ref a ∧ d = .tup ds ∧ SqT K H a vs ∧ RpL K Xx H ds vs

mutual
def Tg.sl : Tg → List Nat
  | .nm i => [i]
  | .tup ts => Tg.sls ts
def Tg.sls : List Tg → List Nat
  | [] => []
  | t :: ts => t.sl ++ Tg.sls ts
end
def Same (l : List Nat) (σ σ' : Sg) : Prop := ∀ j, j ∉ l → σ'[j]? = σ[j]?
def tGm (K : PySem.W.Frag) (pr : Bool) (t : Tg) : TG := fun v σ H Q => ∃ c ρ d ρ', ER K c σ H ρ ∧ IRp pr K (Xo c σ ρ) H d v ∧ asg t d ρ = some ρ' ∧ ∀ σ' H', ER K c σ' H' ρ' → Same t.sl σ σ' → Q σ' H'
def tGsm (K : PySem.W.Frag) (ts : List Tg) : TGs := fun vs σ H Q => ∃ c ρ ds ρ', ER K c σ H ρ ∧ RpL K (Xo c σ ρ) H ds vs ∧ asgL ts ds ρ = some ρ' ∧ ∀ σ' H', ER K c σ' H' ρ' → Same (Tg.sls ts) σ σ' → Q σ' H'
def CG (X : Cx) (e : Expr) (pr : Bool) (t : Tg) : Prop := PG X e (tGm X.K pr t)
def CGs (X : Cx) (es : List Expr) (ts : List Tg) : Prop := PGs X es (tGsm X.K ts)
theorem pg_imp {e : Expr} {t t' : TG} (h : PG X e t) (w : ∀ v σ H Q, t' v σ H Q → t v σ H Q) : PG X e t' := ⟨fun pins s σ H v u Q I r q => h.run pins s σ H v u Q I r (w v σ H Q q)⟩
theorem pgs_imp {es : List Expr} {t t' : TGs} (h : PGs X es t) (w : ∀ vs σ H Q, t' vs σ H Q → t vs σ H Q) : PGs X es t' := ⟨fun pins s σ H v u Q I r q => h.run pins s σ H v u Q I r (w v σ H Q q)⟩
theorem stV_ok (E : ER K c σ H ρ) (r : Rp K (Xo c σ ρ) H d v) (e : stV i d ρ = some ρ') : ER K c (σ.set i (some v)) H ρ' := by
  unfold stV at e
  cases w : ρ[i]? with
  | none => rw [w] at e; cases e
  | some s =>
    have hi : i < ρ.length := (List.getElem?_eq_some_iff.mp w).1
    rw [w] at e
    cases s with
    | io _ => cases e
    | no => cases e; exact E.setVa r hi fun o z => by rw [w] at z; cases z
    | va _ => cases e; exact E.setVa r hi fun o z => by rw [w] at z; cases z
    | ow _ => cases e; exact E.setVa r hi fun o z => by rw [w] at z; cases z
theorem cg_name {nx : Str} (i : Nat) (hN : X.N.Nodup) (hi : X.N[i]? = some nx := by rfl) (hx : Loc X.env.scope nx := by first | exact .inl rfl | exact .inr rfl) (hf : X.fn nx = true ∨ X.env.scope.names.lookup nx = some .local := by first | exact .inl rfl | exact .inr rfl | assumption) : CG X (.Name nx pos) false (.nm i) := by
  refine pg_imp (pg_name hN hi hx hf) fun v σ H Q q => ?_
  obtain ⟨c, ρ, d, ρ', E, r, e, k⟩ := q
  exact k _ _ (stV_ok E r (by unfold asg at e; exact e)) fun j hj => get_set_ne fun z => hj (by unfold Tg.sl; rw [z]; exact List.mem_singleton_self _)
theorem cgs_nil : CGs X [] [] := pgs_imp pgs_nil fun vs σ H Q q => by
  obtain ⟨c, ρ, ds, ρ', E, r, e, k⟩ := q
  cases ds with
  | nil =>
    unfold asgL at e
    cases e
    exact ⟨r.of_nil, k _ _ E fun _ _ => rfl⟩
  | cons _ _ => unfold asgL at e; cases e
theorem cgs_cons {t : Tg} {ts : List Tg} (h : CG X e1 false t) (h2 : CGs X es ts) (hs : (assignEach (e1 :: es) X.env).map (·.2) = assign e1 X.env :: (assignEach es X.env).map (·.2) := by rfl) : CGs X (e1 :: es) (t :: ts) := by
  refine pgs_imp (pgs_cons h h2 hs) fun vs σ H Q q => ?_
  obtain ⟨c, ρ, ds, ρ', E, r, e, k⟩ := q
  cases ds with
  | nil => unfold asgL at e; cases e
  | cons d ds =>
    unfold asgL at e
    obtain ⟨ρ1, e1, e2⟩ := Option.bind_eq_some_iff.mp e
    obtain ⟨v, ws, rfl, h1, h2⟩ := r.of_cons
    refine ⟨v, ws, rfl, c.pushL ds ws, ρ, d, ρ1, E.pushL h2, h1, e1, fun σ1 H1 E1 s1 => ⟨c, ρ1, ds, ρ', (E1.popL h2.length).1, (E1.popL h2.length).2, e2, fun σ2 H2 E2 s2 => k _ _ E2 fun j hj => ?_⟩⟩
    unfold Tg.sls at hj
    exact (s2 j fun z => hj (List.mem_append_right _ z)).trans (s1 j fun z => hj (List.mem_append_left _ z))
theorem asgL_len : ∀ {ts : List Tg} {ds : List D} {ρ ρ' : En}, asgL ts ds ρ = some ρ' → ds.length = ts.length
  | [], [], _, _, _ => rfl
  | [], _ :: _, _, _, e => by unfold asgL at e; cases e
  | _ :: _, [], _, _, e => by unfold asgL at e; cases e
  | t :: ts, d :: ds, ρ, ρ', e => by
    unfold asgL at e
    obtain ⟨ρ1, e1, e2⟩ := Option.bind_eq_some_iff.mp e
    rw [List.length_cons, List.length_cons, asgL_len e2]
theorem cg_tup {ts : List Tg} {k : Nat} {pr : Bool} (hc : X.calm = true) (h : CGs X es ts) (hst : (assignEach es X.env).findIdx? (·.1) = none := by rfl) (hn : (assignEach es X.env).length = ts.length := by rfl) : CG X (.Tuple es k pos) pr (.tup ts) := by
  refine pg_imp (pg_tup hc h hn hst) fun v σ H Q q => ?_
  obtain ⟨c, ρ, d, ρ', E, r, e, k⟩ := q
  cases d with
  | tup ds =>
    unfold asg at e
    have hh : ∃ a vs, v = .ref a ∧ SqT X.K H a vs ∧ RpL X.K (Xo c σ ρ) H ds vs := by
      cases pr with
      | false =>
        obtain ⟨a, vs, e, t, l⟩ := (show Rp X.K _ H (.tup ds) v from r).bo.tup
        exact ⟨a, vs, e, t.sq, l⟩
      | true =>
        obtain ⟨a, vs, ds', e, e2, t, l⟩ := r
        cases e2
        exact ⟨a, vs, e, t, l⟩
    obtain ⟨a, vs, rfl, t, l⟩ := hh
    refine ⟨a, vs, rfl, t, ?_, c, ρ, ds, ρ', E, l, e, fun σ2 H2 E2 s2 => k _ _ E2 fun j hj => s2 j fun z => hj (by unfold Tg.sl; exact z)⟩
    rw [l.length, asgL_len e]
  | _ => unfold asg at e; cases e
end
end DL

set_option Elab.async false
set_option linter.all false
set_option maxRecDepth 100000
namespace DL
open PySem PySem.Spec PyProof.Rows L2

section
variable {X : Cx} {K : PySem.W.Frag} {c : Fx} {σ : Sg} {H H' : Hp} {ρ ρ' : En} {i j : Nat} {a p : Addr} {o : Ow} {d x y z : D} {v vx vy : V} {Q : VK} {ds : List D} {vs : List V} {Xx : AP} {Dn : Ends}
variable {e1 e2 e3 : Expr} {es : List Expr} {oa ob : Opd} {pos np : Pos} {nm : Str} {bid : String} {ma mb : Mm D} {ta tb : Mm Bool} {st st2 : Stmt} {sts sts2 : List Stmt} {sa sb : Ms}
/-! ### blocks -/
def mSkip : Ms := fun ρ => some (.nx, ρ)
def mSeq (a b : Ms) : Ms := fun ρ => match a ρ with
  | some (.nx, ρ1) => b ρ1
  | r => r
theorem css_nil : CSs X [] mSkip := pss_imp pss_nil fun Dn σ H q => by
  obtain ⟨c, ρ, f, ρ', E, e, k⟩ := q
  cases e
  exact k _ _ E
theorem mSeq_some {ρ ρ' : En} {f : Fl} (e : mSeq sa sb ρ = some (f, ρ')) : (∃ ρ1, sa ρ = some (.nx, ρ1) ∧ sb ρ1 = some (f, ρ')) ∨ (sa ρ = some (f, ρ') ∧ f ≠ .nx) := by
  unfold mSeq at e
  cases w : sa ρ with
  | none => rw [w] at e; cases e
  | some q =>
    obtain ⟨g, ρ1⟩ := q
    rw [w] at e
    cases g with
    | nx => exact .inl ⟨ρ1, rfl, e⟩
    | _ => cases e; exact .inr ⟨rfl, fun z => nomatch z⟩
theorem css_cons (h : CS X st sa) (h2 : CSs X sts sb) : CSs X (st :: sts) (mSeq sa sb) := by
  refine pss_imp (pss_cons h h2) fun Dn σ H q => ?_
  obtain ⟨c, ρ, f, ρ', E, e, k⟩ := q
  rcases mSeq_some e with ⟨ρ1, e1, e2⟩ | ⟨e1, ne⟩
  · exact ⟨c, ρ, .nx, ρ1, E, e1, fun σ' H' E' => ⟨c, ρ1, f, ρ', E', e2, k⟩⟩
  · refine ⟨c, ρ, f, ρ', E, e1, ?_⟩
    cases f with
    | nx => exact absurd rfl ne
    | _ => exact k
theorem css_one (h : CS X st sa) : CSs X [st] sa := pss_one h
theorem cs_pass : CS X (.Pass pos) mSkip := ps_imp ps_pass fun Dn σ H q => by
  obtain ⟨c, ρ, f, ρ', E, e, k⟩ := q
  cases e
  exact k _ _ E
theorem cs_doc {x j pos pos'} : CS X (.Expr (.Constant (.str x) j pos) pos') mSkip := ps_imp ps_doc fun Dn σ H q => by
  obtain ⟨c, ρ, f, ρ', E, e, k⟩ := q
  cases e
  exact k _ _ E
theorem cs_break : CS X (.Break pos) (fun ρ => some (.bk, ρ)) := ps_imp ps_break fun Dn σ H q => by
  obtain ⟨c, ρ, f, ρ', E, e, k⟩ := q
  cases e
  exact k _ _ E
theorem cs_continue : CS X (.Continue pos) (fun ρ => some (.ct, ρ)) := ps_imp ps_continue fun Dn σ H q => by
  obtain ⟨c, ρ, f, ρ', E, e, k⟩ := q
  cases e
  exact k _ _ E
def mExpr (m : Mm D) : Ms := fun ρ => match m ρ with
  | some (_, ρ1) => some (.nx, ρ1)
  | none => none
theorem cs_expr (h : CE X e1 ma) (hs : swapsWith e1 none pos.line X.env = pure false := by rfl) : CS X (.Expr e1 pos) (mExpr ma) := by
  refine ps_imp (ps_expr h hs) fun Dn σ H q => ?_
  obtain ⟨c, ρ, f, ρ', E, e, k⟩ := q
  unfold mExpr at e
  cases w : ma ρ with
  | none => rw [w] at e; cases e
  | some q =>
    obtain ⟨d, ρ1⟩ := q
    rw [w] at e
    cases e
    exact ⟨c, ρ, _, _, E, w, fun v H' E' _ => k _ _ E'⟩
def mRet (m : Mm D) : Ms := fun ρ => match m ρ with
  | some (d, ρ1) => some (.rv d, ρ1)
  | none => none
def mRetO (m : Mm Ow) : Ms := fun ρ => match m ρ with
  | some (o, ρ1) => some (.ro o, ρ1)
  | none => none
theorem cs_ret (h : CE X e1 ma) : CS X (.Return (some e1) pos) (mRet ma) := by
  refine ps_imp (ps_ret h) fun Dn σ H q => ?_
  obtain ⟨c, ρ, f, ρ', E, e, k⟩ := q
  unfold mRet at e
  cases w : ma ρ with
  | none => rw [w] at e; cases e
  | some q =>
    obtain ⟨d, ρ1⟩ := q
    rw [w] at e
    cases e
    exact ⟨c, ρ, _, _, E, w, fun v H' E' r => k σ H' v E' r⟩
theorem cs_retO {m : Mm Ow} (h : CO X e1 m) : CS X (.Return (some e1) pos) (mRetO m) := by
  refine ps_imp (ps_ret h) fun Dn σ H q => ?_
  obtain ⟨c, ρ, f, ρ', E, e, k⟩ := q
  unfold mRetO at e
  cases w : m ρ with
  | none => rw [w] at e; cases e
  | some q =>
    obtain ⟨d, ρ1⟩ := q
    rw [w] at e
    cases e
    exact ⟨c, ρ, _, _, E, w, fun p H' E' r n1 n2 => k σ H' p E' r n1 n2⟩
theorem cs_retN : CS X (.Return none pos) (fun ρ => some (.rv .non, ρ)) := ps_imp ps_retN fun Dn σ H q => by
  obtain ⟨c, ρ, f, ρ', E, e, k⟩ := q
  cases e
  exact k σ H .non E .non
def mIfS (t : Mm Bool) (a b : Ms) : Ms := fun ρ => match t ρ with
  | some (true, ρ1) => a ρ1
  | some (false, ρ1) => b ρ1
  | none => none
theorem cs_if (h : CT X e1 ta) (h1 : CSs X sts sa) (h2 : CSs X sts2 sb) : CS X (.If e1 sts sts2 pos) (mIfS ta sa sb) := by
  refine ps_imp (ps_if h h1 h2) fun Dn σ H q => ?_
  obtain ⟨c, ρ, f, ρ', E, e, k⟩ := q
  unfold mIfS at e
  cases w : ta ρ with
  | none => rw [w] at e; cases e
  | some q =>
    obtain ⟨b, ρ1⟩ := q
    rw [w] at e
    refine ⟨c, ρ, b, ρ1, E, w, fun H' E' => ?_⟩
    cases b with
    | true => exact iteT ⟨c, ρ1, f, ρ', E', e, k⟩
    | false => exact iteF ⟨c, ρ1, f, ρ', E', e, k⟩
/-! ### stores -/
def mAsg (m : Mm D) (t : Tg) : Ms := fun ρ => match m ρ with
  | some (d, ρ1) => (asg t d ρ1).map fun ρ2 => (.nx, ρ2)
  | none => none
theorem cs_asg {t : Tg} (h : CE X e1 ma) (hg : CG X e2 false t) (hs : swapsWithSole [e2] e1 pos.line X.env = pure false := by rfl) (hw : swappedStores [e2] e1 X.env = pure none := by rfl)
    (h1 : (assignEach [e2] X.env).map (·.2) = [assign e2 X.env] := by rfl) : CS X (.Assign [e2] e1 pos) (mAsg ma t) := by
  refine ps_imp (ps_asg h hg hs hw h1) fun Dn σ H q => ?_
  obtain ⟨c, ρ, f, ρ', E, e, k⟩ := q
  unfold mAsg at e
  cases w : ma ρ with
  | none => rw [w] at e; cases e
  | some q =>
    obtain ⟨d, ρ1⟩ := q
    rw [w] at e
    obtain ⟨ρ2, e1, e2⟩ := Option.map_eq_some_iff.mp e
    cases e2
    exact ⟨c, ρ, d, ρ1, E, w, fun v H' E' r => ⟨c, ρ1, d, ρ', E', r, e1, fun σ2 H2 E2 _ => k σ2 H2 E2⟩⟩
/-- a name gets a new own thing -/
def stO (i : Nat) (o : Ow) (ρ : En) : Option En := match ρ[i]? with
  | some (.io _) => none
  | some _ => some (ρ.set i (.ow o))
  | none => none
theorem stO_ok (E : ER K (c.ex p) σ H ρ) (r : OwAt K (Xo (c.ex p) σ ρ) H p o) (np : c.He p = none) (nx : ¬ c.X0 p) (e : stO i o ρ = some ρ') : ER K c (σ.set i (some (.ref p))) H ρ' := by
  unfold stO at e
  cases w : ρ[i]? with
  | none => rw [w] at e; cases e
  | some s =>
    have hi : i < ρ.length := (List.getElem?_eq_some_iff.mp w).1
    rw [w] at e
    cases s with
    | io _ => cases e
    | no => cases e; exact E.setOw r np nx hi
    | va _ => cases e; exact E.setOw r np nx hi
    | ow _ => cases e; exact E.setOw r np nx hi
def mSetO (m : Mm Ow) (i : Nat) : Ms := fun ρ => match m ρ with
  | some (o, ρ1) => (stO i o ρ1).map fun ρ2 => (.nx, ρ2)
  | none => none
theorem tset_o {m : Mm Ow} {t : TE} (w : ∀ Q, tO K m σ H Q → t σ H Q) (q : tSm K (mSetO m i) Dn σ H) : tAsg t (gName i) Dn σ H := by
  obtain ⟨c, ρ, f, ρ', E, e, k⟩ := q
  unfold mSetO at e
  cases w' : m ρ with
  | none => rw [w'] at e; cases e
  | some q =>
    obtain ⟨o, ρ1⟩ := q
    rw [w'] at e
    obtain ⟨ρ2, e1, e2⟩ := Option.map_eq_some_iff.mp e
    cases e2
    exact w _ ⟨c, ρ, o, ρ1, E, w', fun p H' E' r np nx => k _ _ (stO_ok E' r np nx e1)⟩
theorem cs_setO {m : Mm Ow} {nx : Str} {pos' : Pos} (i : Nat) (hN : X.N.Nodup) (h : CO X e1 m) (hi : X.N[i]? = some nx := by rfl) (hx : Loc X.env.scope nx := by first | exact .inl rfl | exact .inr rfl) (hs : swapsWith e1 (some (.Name nx pos')) pos.line X.env = pure false := by rfl)
    (hf : X.fn nx = true ∨ X.env.scope.names.lookup nx = some .local := by first | exact .inl rfl | exact .inr rfl | assumption) : CS X (.Assign [.Name nx pos'] e1 pos) (mSetO m i) :=
  ps_imp (ps_set hN hi hx h hs hf) fun Dn σ H q => tset_o (fun _ q => q) q
/-- x op= e, a value -/
def mAug (i : Nat) (m : Mm D) (f : D → D → Option D) : Ms := fun ρ => match ρ[i]? with
  | some (.va x) => match m ρ with
    | some (y, ρ1) => match f x y with
      | some z => (stV i z ρ1).map fun ρ2 => (.nx, ρ2)
      | none => none
    | none => none
  | _ => none
def HasP (X : Cx) (op : Operator) (g : D → D → Option D) : Prop := ∃ r : TIp, PIp X op r ∧ ∀ c σ H ρ x y z vx vy Q, ER X.K c σ H ρ → Bo X.K (Xo c σ ρ) H x vx → Bo X.K (Xo c σ ρ) H y vy → g x y = some z →
  (∀ v H', ER X.K c σ H' ρ → Rp X.K (Xo c σ ρ) H' z v → Q v H') → r vx vy H Q
theorem p_add : HasP X .Add gAddI := by
  refine ⟨_, ip_add, fun c σ H ρ x y z vx vy Q E b1 b2 e k => ?_⟩
  unfold gAddI at e
  split at e <;> cases e
  rw [b1.int, b2.int]
  exact ⟨_, _, rfl, rfl, k _ _ E .int⟩
theorem p_sub : HasP X .Sub dSub := by
  refine ⟨_, ip_sub, fun c σ H ρ x y z vx vy Q E b1 b2 e k => ?_⟩
  unfold dSub at e
  split at e <;> cases e
  rw [b1.int, b2.int]
  exact ⟨_, _, rfl, rfl, k _ _ E .int⟩
theorem cs_aug {nx : Str} {op : Operator} {g : D → D → Option D} {pos' : Pos} (i : Nat) (hN : X.N.Nodup) (h : CE X e1 ma) (hp : HasP X op g) (hi : X.N[i]? = some nx := by rfl) (hx : Loc X.env.scope nx := by first | exact .inl rfl | exact .inr rfl)
    (hf : X.fn nx = true ∨ X.env.scope.names.lookup nx = some .local := by first | exact .inl rfl | exact .inr rfl | assumption) : CS X (.AugAssign (.Name nx pos') op e1 pos) (mAug i ma g) := by
  obtain ⟨r, o, w⟩ := hp
  refine ps_imp (ps_aug hN hi hx h o hf) fun Dn σ H q => ?_
  obtain ⟨c, ρ, f, ρ', E, e, k⟩ := q
  unfold mAug at e
  cases z1 : ρ[i]? with
  | none => rw [z1] at e; cases e
  | some s =>
    rw [z1] at e
    cases s with
    | va x =>
      obtain ⟨vx, hvx, rx⟩ := E.va i x z1
      cases z2 : ma ρ with
      | none => rw [z2] at e; cases e
      | some q =>
        obtain ⟨y, ρ1⟩ := q
        rw [z2] at e
        dsimp only at e
        cases z3 : g x y with
        | none => rw [z3] at e; cases e
        | some z =>
          rw [z3] at e
          obtain ⟨ρ2, e1, e2⟩ := Option.map_eq_some_iff.mp e
          cases e2
          exact ⟨vx, hvx, c.push x vx, ρ, y, ρ1, E.push rx, z2, fun vy H1 E1 r1 => w c σ H1 ρ1 x y z vx vy _ E1.pop.1 E1.pop.2.bo r1.bo z3 fun v H2 E2 r2 => k _ _ (stV_ok E2 r2 e1)⟩
    | _ => cases e
/-! ### stores into an own thing -/
/-- the own thing of a slot -/
def getO (i : Nat) (ρ : En) : Option Ow := match ρ[i]? with
  | some (.ow o) => some o
  | some (.io o) => some o
  | _ => none
def putO (i : Nat) (o : Ow) (ρ : En) : En := ρ.set i ((ρ.getD i .no).put o)
theorem getO_own (E : ER K c σ H ρ) (h : getO i ρ = some o) : ∃ a, OwnAt σ ρ i a ∧ OwAt K (Xo c σ ρ) H a o := by
  unfold getO at h
  cases w : ρ[i]? with
  | none => rw [w] at h; cases h
  | some s =>
    rw [w] at h
    cases s with
    | ow o' =>
      cases h
      obtain ⟨a, e, r, _⟩ := E.ow i o w
      exact ⟨a, ⟨e, o, .inl w⟩, r⟩
    | io o' =>
      cases h
      obtain ⟨a, e, r, _⟩ := E.io i o w
      exact ⟨a, ⟨e, o, .inr w⟩, r⟩
    | _ => cases h
theorem RpL.past (h : RpL K (Xo c σ ρ) H ds vs) {u : HO} (own : OwnAt σ ρ i a) : RpL K (Xo c σ ρ) (upd H a u) ds vs := h.keep (fun _ z => z) ⟨fun b w _ q n => by
  have hb : b ≠ a := fun z => n (.inr ⟨i, by rw [z]; exact own⟩)
  rcases q with q | ⟨z, q⟩
  · exact .inl (by rw [upd_ne hb]; exact q)
  · exact .inr ⟨z, by rw [upd_ne hb]; exact q⟩, fun b ob ws q n => by
  have hb : b ≠ a := fun z => n (.inr ⟨i, by rw [z]; exact own⟩)
  rw [upd_ne hb]
  exact q⟩
theorem ER.putL (E : ER K c σ H ρ) (own : OwnAt σ ρ i a) (r : RpL K (Xo c σ ρ) H ds vs) : ER K c σ (upd H a (.lst vs)) (putO i (.lst ds) ρ) :=
  E.mut (u := .lst vs) own (fun b w hb q => by rw [upd_ne hb]; exact q) ⟨vs, upd_same, r.past own⟩
theorem ER.putD {kvs : List (Key × V)} {ks : List Key} (E : ER K c σ H ρ) (own : OwnAt σ ρ i a) (e : kvs.map (·.1) = ks) (r : RpL K (Xo c σ ρ) H ds (kvs.map (·.2))) : ER K c σ (upd H a (.dK kvs)) (putO i (.dct ks ds) ρ) :=
  E.mut (u := .dK kvs) own (fun b w hb q => by rw [upd_ne hb]; exact q) ⟨kvs, upd_same, e, r.past own⟩
theorem Xo_put (E : ER K c σ H ρ) (own : OwnAt σ ρ i a) : ∀ b, Xo c σ (putO i o ρ) b → Xo c σ ρ b := fun b h => by
  rcases h with h | ⟨j, e, o2, q⟩
  · exact .inl h
  · unfold putO at q
    by_cases hj : j = i
    · subst hj
      exact .inr ⟨j, e, own.2⟩
    · rw [get_set_ne hj] at q
      exact .inr ⟨j, e, o2, q⟩
/-- o[k] = d by the thing -/
def setO (o : Ow) (k d : D) : Option Ow := match o with
  | .lst ds => match k with
    | .int i => (ixN ds.length i).map fun j => .lst (ds.set j d)
    | _ => none
  | .dct ks ds => match keyOf k with
    | some key => if ks.length < 16777216 then some (.dct (putKs ks key) (putDs ks ds key d)) else none
    | none => none
theorem set_dict (hu : X.A.units + 1 < cLine) : PSet X (fun o i v H Q => ∃ a H1, o = .ref a ∧ DPut H a i v H1 ∧ Q H1) := by
  intro pins s σ H o i v ov iv u Q I ro ri rv h
  obtain ⟨a, H1, rfl, g, q⟩ := h
  obtain rfl : ov = Value.ref a := ro
  exact d_setItem hu I g ri rv fun s' I' => ⟨H1, I', q⟩
theorem set_or {t t' : TSet} (h : PSet X t) (h' : PSet X t') : PSet X (fun o i v H Q => t o i v H Q ∨ t' o i v H Q) := by
  intro pins s σ H o i v ov iv u Q I ro ri rv q
  rcases q with q | q
  · exact h pins s σ H o i v ov iv u Q I ro ri rv q
  · exact h' pins s σ H o i v ov iv u Q I ro ri rv q
theorem set_any (hu : X.A.units + 1 < cLine) : PSet X (fun o i v H Q => rSetL o i v H Q ∨ ∃ a H1, o = .ref a ∧ DPut H a i v H1 ∧ Q H1) := set_or set_list (set_dict hu)
theorem length_putK2 {kvs : List (Key × V)} (h : kvs.map (·.1) = ks) : kvs.length = ks.length := by rw [← h, List.length_map]
theorem setO_ok {o2 : Ow} {k : D} {vk : V} {Qh : Hp → Prop} (E : ER K c σ H ρ) (own : OwnAt σ ρ i a) (ho : OwAt K (Xo c σ ρ) H a o) (bk : Rp K (Xo c σ ρ) H k vk) (r : Rp K (Xo c σ ρ) H d v) (e : setO o k d = some o2)
    (q : ∀ H', ER K c σ H' (putO i o2 ρ) → Qh H') : rSetL (.ref a) vk v H Qh ∨ ∃ b H1, V.ref a = .ref b ∧ DPut H b vk v H1 ∧ Qh H1 := by
  cases o with
  | lst ds =>
    unfold setO at e
    dsimp only at e
    split at e
    · obtain ⟨j, e1, rfl⟩ := Option.map_eq_some_iff.mp e
      obtain ⟨vs, h1, l⟩ := ho
      rw [bk.bo.int]
      refine .inl ⟨a, vs, _, j, rfl, rfl, h1, by rw [l.length]; exact e1, q _ ?_⟩
      exact E.putL own (l.set r j)
    · cases e
  | dct ks ds =>
    unfold setO at e
    dsimp only at e
    split at e
    · rename_i key hk
      split at e
      · cases e
        rename_i hz
        obtain ⟨kvs, h1, h2, l⟩ := ho
        obtain ⟨p1, p2⟩ := put_ok (k := key) l r
        rw [h2] at p1 p2
        refine .inr ⟨a, _, rfl, .inl ⟨kvs, key, h1, Rp.key bk.bo hk, ?_, rfl⟩, q _ ?_⟩
        · rw [sizeLine_eq, length_putK2 h2]
          exact hz
        · exact E.putD own p1 p2
      · cases e
    · cases e
/-- name[k] = e: the value first, then the name, then the place -/
def mSetIx (m : Mm D) (i : Nat) (mk : Mm D) : Ms := fun ρ => match m ρ with
  | some (d, ρ1) => match getO i ρ1 with
    | some _ => match mk ρ1 with
      | some (k, ρ2) => match getO i ρ2 with
        | some o => match setO o k d with
          | some o2 => some (.nx, putO i o2 ρ2)
          | none => none
        | none => none
      | none => none
    | none => none
  | none => none
theorem mSetIx_some {m mk : Mm D} {f : Fl} (h : mSetIx m i mk ρ = some (f, ρ')) : ∃ d ρ1 o1 k ρ2 o o2, m ρ = some (d, ρ1) ∧ getO i ρ1 = some o1 ∧ mk ρ1 = some (k, ρ2) ∧ getO i ρ2 = some o ∧ setO o k d = some o2 ∧ f = .nx ∧ ρ' = putO i o2 ρ2 := by
  unfold mSetIx at h
  split at h
  · rename_i d ρ1 w1
    split at h
    · rename_i o1 w2
      split at h
      · rename_i k ρ2 w3
        split at h
        · rename_i o w4
          split at h
          · rename_i o2 w5
            cases h
            exact ⟨d, ρ1, o1, k, ρ2, o, o2, w1, w2, w3, w4, w5, rfl, rfl⟩
          · cases h
        · cases h
      · cases h
    · cases h
  · cases h
theorem cs_setIx {mk : Mm D} {nx : Str} {p1 p2 : Pos} (i : Nat) (hu : X.A.units + 1 < cLine) (h : CE X e1 ma) (hk : CE X e2 mk) (hN : X.N[i]? = some nx := by rfl) (hv : Vis X.env.scope nx := by first | exact Or.inl rfl | exact Or.inr (Or.inl rfl) | exact Or.inr (Or.inr rfl))
    (hd : (nx == ("__debug__" : Str)) = false := by decide) (hcd : (nx == ("__classdict__" : Str)) = false := by decide)
    (ha : ∀ v, assign (.Subscript (.Name nx p1) e2 p2) X.env v = (do
      let ov ← holding [v] (eval (.Name nx p1) X.env)
      let iv ← holding [v, ov] (eval e2 X.env)
      standAt p2
      holding [v, ov, iv] (setItem ov iv v)
      release [v, ov, iv] []) := by intro _; rfl)
    (hs : swapsWithSole [.Subscript (.Name nx p1) e2 p2] e1 pos.line X.env = pure false := by rfl) (hw : swappedStores [.Subscript (.Name nx p1) e2 p2] e1 X.env = pure none := by rfl)
    (h1 : (assignEach [.Subscript (.Name nx p1) e2 p2] X.env).map (·.2) = [assign (.Subscript (.Name nx p1) e2 p2) X.env] := by rfl) :
    CS X (.Assign [.Subscript (.Name nx p1) e2 p2] e1 pos) (mSetIx ma i mk) := by
  refine ps_imp (ps_asg h (pg_sub (pe_var (i := i) hN hv hd hcd) hk (set_any hu) ha) hs hw h1) fun Dn σ H q => ?_
  obtain ⟨c, ρ, f, ρ', E, e, k⟩ := q
  obtain ⟨d, ρ1, o1, kd, ρ2, o, o2, w1, w2, w3, w4, w5, rfl, rfl⟩ := mSetIx_some e
  refine ⟨c, ρ, d, ρ1, E, w1, fun v H1 E1 r1 => ?_⟩
  obtain ⟨a, own1, _⟩ := getO_own E1 w2
  refine ⟨.ref a, own1.1, c.push d v, ρ1, kd, ρ2, E1.push r1, w3, fun vk H2 E2 r2 => ?_⟩
  obtain ⟨E3, r3⟩ := E2.pop
  obtain ⟨a', own2, ho⟩ := getO_own E3 w4
  have ea : a' = a := by
    have q1 := own1.1
    have q2 := own2.1
    rw [q1] at q2
    cases q2
    rfl
  subst ea
  exact setO_ok E3 own2 ho r2 r3 w5 fun H' E' => k σ H' E'
end
end DL

set_option Elab.async false
set_option linter.all false
set_option maxRecDepth 100000
namespace DL
open PySem PySem.Spec PyProof.Rows L2

section
variable {X : Cx} {K : PySem.W.Frag} {c : Fx} {σ : Sg} {H H' : Hp} {ρ ρ' : En} {i j : Nat} {a p : Addr} {o : Ow} {d x y z : D} {v vx vy : V} {Q : VK} {ds : List D} {vs : List V} {Xx : AP} {Dn : Ends}
variable {e1 e2 e3 : Expr} {es : List Expr} {oa ob : Opd} {pos np apos cpos : Pos} {nm nx : Str} {bid : String} {ma mb : Mm D} {ta tb : Mm Bool} {st st2 : Stmt} {sts sts2 : List Stmt} {sa sb : Ms}
/-! ### lists by their methods -/
/-- the list of a slot -/
def getL (i : Nat) (ρ : En) : Option (List D) := match getO i ρ with
  | some (.lst ds) => some ds
  | _ => none
theorem getL_own (E : ER K c σ H ρ) (h : getL i ρ = some ds) : ∃ a vs, OwnAt σ ρ i a ∧ H a = some (.lst vs) ∧ RpL K (Xo c σ ρ) H ds vs := by
  unfold getL at h
  split at h
  · rename_i w
    cases h
    obtain ⟨a, own, vs, h1, l⟩ := getO_own E w
    exact ⟨a, vs, own, h1, l⟩
  · cases h
theorem own_eq {b : Addr} {ρ1 ρ2 : En} (h1 : OwnAt σ ρ1 i a) (h2 : OwnAt σ ρ2 i b) : b = a := by
  have q1 := h1.1
  have q2 := h2.1
  rw [q1] at q2
  cases q2
  rfl
/-- a method of the list at a name, one argument: f, from the list and the argument, gives the answer and the list behind it -/
def mM1 (i : Nat) (m : Mm D) (f : List D → D → Option (D × List D)) : Mm D := fun ρ => match getL i ρ with
  | some _ => match m ρ with
    | some (x, ρ1) => match getL i ρ1 with
      | some ds => match f ds x with
        | some (r, ds2) => some (r, putO i (.lst ds2) ρ1)
        | none => none
      | none => none
    | none => none
  | none => none
def mM0 (i : Nat) (f : List D → Option (D × List D)) : Mm D := fun ρ => match getL i ρ with
  | some ds => match f ds with
    | some (r, ds2) => some (r, putO i (.lst ds2) ρ)
    | none => none
  | none => none
theorem mM1_some {m : Mm D} {f : List D → D → Option (D × List D)} (h : mM1 i m f ρ = some (d, ρ')) : ∃ ds0 x ρ1 ds ds2, getL i ρ = some ds0 ∧ m ρ = some (x, ρ1) ∧ getL i ρ1 = some ds ∧ f ds x = some (d, ds2) ∧ ρ' = putO i (.lst ds2) ρ1 := by
  unfold mM1 at h
  split at h
  · rename_i ds0 w1
    split at h
    · rename_i x ρ1 w2
      split at h
      · rename_i ds w3
        split at h
        · rename_i r ds2 w4
          cases h
          exact ⟨ds0, x, ρ1, ds, ds2, w1, w2, w3, w4, rfl⟩
        · cases h
      · cases h
    · cases h
  · cases h
theorem mM0_some {f : List D → Option (D × List D)} (h : mM0 i f ρ = some (d, ρ')) : ∃ ds ds2, getL i ρ = some ds ∧ f ds = some (d, ds2) ∧ ρ' = putO i (.lst ds2) ρ := by
  unfold mM0 at h
  split at h
  · rename_i ds w1
    split at h
    · rename_i r ds2 w2
      cases h
      exact ⟨ds, ds2, w1, w2, rfl⟩
    · cases h
  · cases h
/-- what a list's method does -/
def HasM1 (X : Cx) (bid : String) (f : List D → D → Option (D × List D)) : Prop := ∃ r, MtR X bid r ∧ ∀ (Xx : AP) (H : Hp) (a : Addr) (vs : List V) (ds : List D) (x : D) (vx : V) (d : D) (ds2 : List D) (Q : VK), H a = some (.lst vs) → RpL X.K Xx H ds vs → Rp X.K Xx H x vx → f ds x = some (d, ds2) →
  (∀ v vs2, Rp X.K Xx H d v → RpL X.K Xx H ds2 vs2 → Q v (upd H a (.lst vs2))) → r (.ref a) [vx] H Q
def HasM0 (X : Cx) (bid : String) (f : List D → Option (D × List D)) : Prop := ∃ r, MtR X bid r ∧ ∀ (Xx : AP) (H : Hp) (a : Addr) (vs : List V) (ds : List D) (d : D) (ds2 : List D) (Q : VK), H a = some (.lst vs) → RpL X.K Xx H ds vs → f ds = some (d, ds2) →
  (∀ v vs2, Rp X.K Xx H d v → RpL X.K Xx H ds2 vs2 → Q v (upd H a (.lst vs2))) → r (.ref a) [] H Q
theorem Rp.past {u : HO} (h : Rp K (Xo c σ ρ) H d v) (own : OwnAt σ ρ i a) : Rp K (Xo c σ ρ) (upd H a u) d v := h.keep (fun _ z => z) ⟨fun b w _ q n => by
  have hb : b ≠ a := fun z => n (.inr ⟨i, by rw [z]; exact own⟩)
  rcases q with q | ⟨z, q⟩
  · exact .inl (by rw [upd_ne hb]; exact q)
  · exact .inr ⟨z, by rw [upd_ne hb]; exact q⟩, fun b ob ws q n => by
  have hb : b ≠ a := fun z => n (.inr ⟨i, by rw [z]; exact own⟩)
  rw [upd_ne hb]
  exact q⟩
theorem ce_m1 {f : List D → D → Option (D × List D)} {px : Pos} (i : Nat) (h : HasM1 X bid f) (slot : Slot "list" nm bid) (hty : typeOf (.builtin bid) = pure (.type "method_descriptor")) (ha : CE X e1 ma)
    (hN : X.N[i]? = some nx := by rfl) (hv : Vis X.env.scope nx := by first | exact Or.inl rfl | exact Or.inr (Or.inl rfl) | exact Or.inr (Or.inr rfl))
    (hd : (nx == ("__debug__" : Str)) = false := by decide) (hcd : (nx == ("__classdict__" : Str)) = false := by decide)
    (hbase : attributeBase (.Name nx px) nm X.env (eval (.Name nx px) X.env) = eval (.Name nx px) X.env := by rfl)
    (hfew : ((backTo cpos (starEach (e1 :: []) X.env)).all (fun x => !x.1) && (backToKw cpos (keywordEach [] X.env)).all (fun x => x.1.isSome)
      && decide ((e1 :: []).length + ([] : List Keyword).length + (if ([] : List Keyword).isEmpty then 0 else 1) < 30)) = true := by rfl)
    (hline : (apos.endLine == cpos.line) = true := by rfl) (hs : starEach (e1 :: []) X.env = (false, eval e1 X.env) :: starEach [] X.env := by rfl) (hplain : (backTo cpos (starEach [] X.env)).any (·.1) = false := by rfl) :
    CE X (.Call (.Attribute (.Name nx px) nm apos) (e1 :: []) [] cpos) (mM1 i ma f) := by
  obtain ⟨r, o, w⟩ := h
  refine pe_imp (pe_bm PySem.F.plainAttrs_list slot hty o (pe_var (i := i) hN hv hd hcd) (pa_cons ha pa_nil hs) hbase hfew hline hs hplain) fun σ H Q q => ?_
  obtain ⟨c, ρ, d, ρ', E, e, k⟩ := q
  obtain ⟨ds0, x, ρ1, ds, ds2, w1, w2, w3, w4, rfl⟩ := mM1_some e
  obtain ⟨a, vs0, own0, h0, l0⟩ := getL_own E w1
  refine ⟨.ref a, own0.1, .inl ⟨rfl, vs0, SqL.of h0⟩, c, ρ, x, ρ1, E, w2, fun vx H1 E1 r1 => ?_⟩
  obtain ⟨b, vs, own, h1, l⟩ := getL_own E1 w3
  have eb := own_eq own0 own
  subst eb
  refine w (Xo c σ ρ1) H1 b vs ds x vx d ds2 Q h1 l r1 w4 fun v vs2 r2 l2 => k _ _ (E1.putL own l2) ?_
  exact (r2.past own).keep (Xo_put E1 own) Kp.refl
theorem ce_m0 {f : List D → Option (D × List D)} {px : Pos} (i : Nat) (h : HasM0 X bid f) (slot : Slot "list" nm bid) (hty : typeOf (.builtin bid) = pure (.type "method_descriptor"))
    (hN : X.N[i]? = some nx := by rfl) (hv : Vis X.env.scope nx := by first | exact Or.inl rfl | exact Or.inr (Or.inl rfl) | exact Or.inr (Or.inr rfl))
    (hd : (nx == ("__debug__" : Str)) = false := by decide) (hcd : (nx == ("__classdict__" : Str)) = false := by decide)
    (hbase : attributeBase (.Name nx px) nm X.env (eval (.Name nx px) X.env) = eval (.Name nx px) X.env := by rfl) (hline : (apos.endLine == cpos.line) = true := by rfl) :
    CE X (.Call (.Attribute (.Name nx px) nm apos) [] [] cpos) (mM0 i f) := by
  obtain ⟨r, o, w⟩ := h
  refine pe_imp (pe_bm0 PySem.F.plainAttrs_list slot hty o (pe_var (i := i) hN hv hd hcd) hbase hline) fun σ H Q q => ?_
  obtain ⟨c, ρ, d, ρ', E, e, k⟩ := q
  obtain ⟨ds, ds2, w1, w4, rfl⟩ := mM0_some e
  obtain ⟨b, vs, own, h1, l⟩ := getL_own E w1
  refine ⟨.ref b, own.1, .inl ⟨rfl, vs, SqL.of h1⟩, w (Xo c σ ρ) H b vs ds d ds2 Q h1 l w4 fun v vs2 r2 l2 => k _ _ (E.putL own l2) ?_⟩
  exact (r2.past own).keep (Xo_put E own) Kp.refl
def fApp (ds : List D) (x : D) : Option (D × List D) := if ds.length < 16777216 then some (.non, ds ++ [x]) else none
theorem m_append : HasM1 X "list.append" fApp := by
  refine ⟨_, mt_append, fun Xx H a vs ds x vx d ds2 Q h l r e k => ?_⟩
  unfold fApp at e
  split at e <;> cases e
  exact ⟨a, vs, vx, rfl, rfl, h, by rw [sizeLine_eq, l.length]; assumption, k _ _ .non (l.app (.cons r .nil))⟩
def rExtR : V → List V → Hp → VK → Prop := fun x vs H Q => ∃ l b xs zs, x = .ref l ∧ vs = [.ref b] ∧ H l = some (.lst xs) ∧ Rd H b (.lst zs) ∧ xs.length + zs.length ≤ sizeLine ∧ Q .non (upd H l (.lst (xs ++ zs)))
theorem mt_extR : MtM X "list.extend" rExtR := by
  intro pins s σ H x vs v us Q I rx rv h
  obtain ⟨l, b, xs, zs, rfl, rfl, hH, hB, hz, q⟩ := h
  cases rx
  obtain ⟨u, rfl, ru⟩ := rv.one
  cases ru
  obtain ⟨z, its, n, r, hl, e⟩ := I.lstM hH
  obtain ⟨z2, its2, n2, r2, e2⟩ := hB.ok I.hok
  have hl2 := r2.length
  have hsz : its.toArray.size + its2.toArray.size ≤ sizeLine := by rw [List.size_toArray, List.size_toArray]; omega
  have hlong : ¬ (!its.toArray.isEmpty && Builtin.List.listTooLong (its.toArray.size + its2.toArray.size)) = true := by
    rw [notLongL hsz, Bool.and_false]
    exact Bool.false_ne_true
  refine call_meets F.slot_list_extend ⟨_, e, rfl⟩ F.entry_list_extend (F.args_list_extend_2 _ _)
    (AutoSeq1.list_extend_list_list_0 l its.toArray n b its2.toArray n2 hlong (by rw [List.size_toArray]; omega) (by omega)) ⟨e, e2, ?_⟩
  refine ⟨.non, _, I.lset (its' := its ++ its2) hH e (by simp) (r.append r2) ?_, rfl, q⟩
  rw [List.length_append]
  omega
def fExt (ds : List D) (x : D) : Option (D × List D) := match x with
  | .lst es => if ds.length + es.length ≤ 16777216 then some (.non, ds ++ es) else none
  | _ => none
theorem m_extend : HasM1 X "list.extend" fExt := by
  refine ⟨_, mt_extR, fun Xx H a vs ds x vx d ds2 Q h l r e k => ?_⟩
  unfold fExt at e
  split at e
  · split at e <;> cases e
    obtain ⟨b, ws, rfl, t, l2⟩ := r.bo.lst
    exact ⟨a, b, vs, ws, rfl, rfl, h, t, by rw [sizeLine_eq, l.length, l2.length]; assumption, k _ _ .non (l.app l2)⟩
  · cases e
def fPop (ds : List D) : Option (D × List D) := match ds.getLast? with
  | some d => some (d, ds.dropLast)
  | none => none
theorem RpL.dropLast (l : RpL K Xx H ds vs) : RpL K Xx H ds.dropLast vs.dropLast := by
  rw [List.dropLast_eq_take, List.dropLast_eq_take, l.length]
  exact l.take _
theorem m_pop : HasM0 X "list.pop" fPop := by
  refine ⟨_, mt_pop, fun Xx H a vs ds d ds2 Q h l e k => ?_⟩
  unfold fPop at e
  split at e
  · rename_i d' w
    cases e
    rw [List.getLast?_eq_getElem?] at w
    obtain ⟨v, h2, r⟩ := l.get w
    exact ⟨a, vs, v, rfl, rfl, h, by rw [l.length]; exact h2, k _ _ r l.dropLast⟩
  · cases e
def fPopAt (ds : List D) (x : D) : Option (D × List D) := match x with
  | .int i => if 0 ≤ i ∧ i < 4611686018427387904 then (match ds[i.toNat]? with
    | some d => some (d, ds.eraseIdx i.toNat)
    | none => none) else none
  | _ => none
theorem m_popAt : HasM1 X "list.pop" fPopAt := by
  refine ⟨_, mt_popAt, fun Xx H a vs ds x vx d ds2 Q h l r e k => ?_⟩
  unfold fPopAt at e
  split at e
  · rename_i i
    split at e
    · rename_i hi
      split at e
      · rename_i d' w
        cases e
        obtain ⟨v, h2, r2⟩ := l.get w
        have hlt := (List.getElem?_eq_some_iff.mp h2).1
        rw [r.bo.int]
        exact ⟨a, vs, i, i.toNat, v, rfl, rfl, h, by omega, by omega, seqIndex_of hi.1 (by omega), h2, k _ _ r2 (l.erase _)⟩
      · cases e
    · cases e
  · cases e
/-! ### while -/
def whF (t : Mm Bool) (b : Ms) : Nat → En → Option (Fl × En)
  | 0, _ => none
  | n + 1, ρ => match t ρ with
    | some (true, ρ1) => (match b ρ1 with
      | some (.nx, ρ2) => whF t b n ρ2
      | some (.ct, ρ2) => whF t b n ρ2
      | some (.bk, ρ2) => some (.nx, ρ2)
      | some (f, ρ2) => some (f, ρ2)
      | none => none)
    | some (false, ρ1) => some (.nx, ρ1)
    | none => none
open Classical in
noncomputable def mWhile (t : Mm Bool) (b : Ms) : Ms := fun ρ => if h : ∃ n r, whF t b n ρ = some r then some h.choose_spec.choose else none
theorem whF_more {t : Mm Bool} {b : Ms} {r : Fl × En} : ∀ {n m : Nat} {ρ : En}, n ≤ m → whF t b n ρ = some r → whF t b m ρ = some r
  | 0, m, ρ, _, h => by unfold whF at h; cases h
  | n + 1, 0, ρ, hl, _ => absurd hl (Nat.not_succ_le_zero n)
  | n + 1, m + 1, ρ, hl, h => by
    have hl : n ≤ m := Nat.le_of_succ_le_succ hl
    unfold whF at h ⊢
    split at h
    · rename_i ρ1 w1
      split at h
      · rename_i ρ2 w2
        exact whF_more hl h
      · rename_i ρ2 w2
        exact whF_more hl h
      · exact h
      · exact h
      · exact h
    · exact h
    · exact h
theorem mWhile_of {t : Mm Bool} {b : Ms} {r : Fl × En} {n : Nat} {ρ : En} (h : whF t b n ρ = some r) : mWhile t b ρ = some r := by
  have q : ∃ n r, whF t b n ρ = some r := ⟨n, r, h⟩
  unfold mWhile
  rw [dif_pos q]
  have s := q.choose_spec.choose_spec
  have m1 := whF_more (Nat.le_max_left q.choose n) s
  have m2 := whF_more (Nat.le_max_right q.choose n) h
  rw [m1] at m2
  exact m2
theorem mWhile_to {t : Mm Bool} {b : Ms} {r : Fl × En} {ρ : En} (h : mWhile t b ρ = some r) : ∃ n, whF t b n ρ = some r := by
  unfold mWhile at h
  split at h
  · rename_i q
    cases h
    exact ⟨_, q.choose_spec.choose_spec⟩
  · cases h
theorem cs_while (hp : PassesOwn (model X.prog X.w) X.A X.env X.xe) (h : CT X e1 ta) (hb : CSs X sts sb) : CS X (.While e1 sts [] pos) (mWhile ta sb) := by
  refine ps_imp (ps_while hp h hb) fun Dn σ H q => ?_
  obtain ⟨c, ρ, f, ρ', E, e, k⟩ := q
  obtain ⟨n, e⟩ := mWhile_to e
  refine ⟨fun m σ H => ∃ ρ, ER X.K c σ H ρ ∧ whF ta sb m ρ = some (f, ρ'), ⟨n, ρ, E, e⟩, ?_⟩
  rintro m σ1 H1 ⟨ρ1, E1, w⟩
  cases m with
  | zero => unfold whF at w; cases w
  | succ m =>
    unfold whF at w
    split at w
    · rename_i ρ2 w1
      refine ⟨c, ρ1, true, ρ2, E1, w1, fun H2 E2 => iteT ?_⟩
      refine ⟨fun σ' H' => ∃ ρ, ER X.K c σ' H' ρ ∧ whF ta sb m ρ = some (f, ρ'), fun σ' H' q => ⟨m, Nat.lt_succ_self m, q⟩, ?_⟩
      split at w
      · rename_i ρ3 w2
        exact ⟨c, ρ2, .nx, ρ3, E2, w2, fun σ' H' E' => ⟨ρ3, E', w⟩⟩
      · rename_i ρ3 w2
        exact ⟨c, ρ2, .ct, ρ3, E2, w2, fun σ' H' E' => ⟨ρ3, E', w⟩⟩
      · rename_i ρ3 w2
        cases w
        exact ⟨c, ρ2, .bk, _, E2, w2, k⟩
      · rename_i f2 ρ3 n1 n2 n3 w2
        cases w
        refine ⟨c, ρ2, f, _, E2, w2, ?_⟩
        cases f with
        | nx => exact (n1 rfl).elim
        | ct => exact (n2 rfl).elim
        | bk => exact (n3 rfl).elim
        | rv d => exact k
        | ro o => exact k
      · cases w
    · rename_i ρ2 w1
      cases w
      exact ⟨c, ρ1, false, _, E1, w1, fun H2 E2 => iteF (k _ _ E2)⟩
    · cases w
end
end DL

set_option Elab.async false
set_option linter.all false
set_option maxRecDepth 100000
namespace DL
open PySem PySem.Spec PyProof.Rows L2

section
variable {X : Cx} {K : PySem.W.Frag} {c c' : Fx} {σ : Sg} {H H' : Hp} {ρ ρ' : En} {i j : Nat} {a p : Addr} {o : Ow} {d x y z : D} {v vx vy : V} {Q : VK} {ds : List D} {vs : List V} {Xx : AP} {Dn : Ends}
variable {tg iter e1 e2 e3 : Expr} {es : List Expr} {oa ob : Opd} {pos np apos cpos p1 tpos : Pos} {nm nx : Str} {bid : String} {ma mb : Mm D} {ta tb : Mm Bool} {st st2 : Stmt} {sts sts2 : List Stmt} {sa sb : Ms} {pr : Bool} {t : Tg} {ts : List Tg} {mi : Mm (List D)}
/-! ### a dict that is to be walked is locked for good -/
def tFz (te : TE) : TE := fun σ H Q => te σ H fun v H1 => (∃ a kvs, v = .ref a ∧ H1 a = some (.dK kvs) ∧ ∀ ob, Q v (upd H1 a (.frz ob (.dK kvs)))) ∨ Q v H1
theorem pe_fz {te : TE} (h : PE X e1 te) : PE X e1 (tFz te) := by
  refine ⟨fun pins s σ H Q I hw => thn (h.run pins s σ H _ I hw) fun u s1 ⟨x, H1, I1, r1, q1⟩ => ?_⟩
  rcases q1 with ⟨a, kvs, rfl, hd, q⟩ | q
  · obtain ⟨ob, I2⟩ := I1.lock hd trivial
    exact ⟨_, _, I2, r1, q ob⟩
  · exact ⟨x, H1, I1, r1, q⟩
theorem pi_or {wi wi' : TI} (h : PI X tg iter wi) (h' : PI X tg iter wi') : PI X tg iter (fun σ H R => wi σ H R ∨ wi' σ H R) :=
  ⟨fun pins s σ H R I q => q.elim (h.run pins s σ H R I) (h'.run pins s σ H R I)⟩
/-- c knows more than c', and shuts out more -/
structure Wx (c c' : Fx) : Prop where
  x0 : ∀ a, c'.X0 a → c.X0 a
  tmp : ∀ p ∈ c'.tmp, p ∈ c.tmp
  fz : ∀ p ∈ c'.fz, p ∈ c.fz
theorem Wx.refl : Wx c c := ⟨fun _ z => z, fun _ z => z, fun _ z => z⟩
def D.ofK : Key → D
  | .inl i => .int i
  | .inr x => .str x
theorem Rp.ofK {k : Key} : Rp K Xx H (.ofK k) (kV k) := by
  cases k with
  | inl i => exact .int
  | inr x => exact .str
def ItOk (K : PySem.W.Frag) (c' : Fx) (J : It) (pr : Bool) (ds : List D) : Prop := ∀ c σ H ρ, Wx c c' → ER K c σ H ρ → ∀ i, (ds.length ≤ i → J.stop i H) ∧ ∀ d, ds[i]? = some d → J.go i H ∧ ∀ x H', J.yld i H x H' → ER K c σ H' ρ ∧ IRp pr K (Xo c σ ρ) H' d x
def CI (X : Cx) (tg iter : Expr) (pr : Bool) (m : Mm (List D)) : Prop := ∃ wi, PI X tg iter wi ∧ ∀ c σ H ρ ds ρ' R, ER X.K c σ H ρ → m ρ = some (ds, ρ') → (∀ J H1 c', Wk c' c → ER X.K c' σ H1 ρ' → ItOk X.K c' J pr ds → R J H1) → wi σ H R
/-! ### a value walked -/
def itemsOf : D → Option (List D)
  | .tup ds => some ds
  | .lst ds => some ds
  | .scr ds => some ds
  | .dct ks _ => some (ks.map .ofK)
  | .str x => some (x.cps.toList.map fun c => .str ⟨#[c]⟩)
  | _ => none
def mIt (m : Mm D) : Mm (List D) := bd m fun x => lf (itemsOf x)
theorem it_lst (r : Rp K (Xo c' σ ρ) H (.lst ds) v) (he : v = .ref a) : ItOk K (c'.push (.lst ds) v) (Itl K a) false ds := by
  intro c σ H ρ w E i
  have r := E.tmp (.lst ds, v) (w.tmp _ List.mem_cons_self)
  obtain ⟨a', vs, e, t, l⟩ := (show Rp K _ H (.lst ds) v from r).bo.lst
  rw [he] at e
  cases e
  refine ⟨fun q => ⟨vs, .inl t, by rw [l.length]; exact q⟩, fun d q => ?_⟩
  obtain ⟨u, h1, h2⟩ := l.get q
  refine ⟨⟨vs, u, .inl t, h1⟩, fun x H' q => ?_⟩
  obtain ⟨rfl, q⟩ := q
  have z := q vs (.inl t)
  rw [h1] at z
  cases z
  exact ⟨E, h2⟩
theorem it_scr (he : v = .ref a) : ItOk K (c'.push (.scr ds) v) (Itl K a) false ds := by
  intro c σ H ρ w E i
  have r := E.tmp (.scr ds, v) (w.tmp _ List.mem_cons_self)
  obtain ⟨a', vs, e, t, l⟩ := (show Rp K _ H (.scr ds) v from r).bo.scr
  rw [he] at e
  cases e
  refine ⟨fun q => ⟨vs, t.sq, by rw [l.length]; exact q⟩, fun d q => ?_⟩
  obtain ⟨u, h1, h2⟩ := l.get q
  refine ⟨⟨vs, u, t.sq, h1⟩, fun x H' q => ?_⟩
  obtain ⟨rfl, q⟩ := q
  have z := q vs t.sq
  rw [h1] at z
  cases z
  exact ⟨E, h2⟩
theorem it_tup (he : v = .ref a) : ItOk K (c'.push (.tup ds) v) (Itt K a) false ds := by
  intro c σ H ρ w E i
  have r := E.tmp (.tup ds, v) (w.tmp _ List.mem_cons_self)
  obtain ⟨a', vs, e, t, l⟩ := (show Rp K _ H (.tup ds) v from r).bo.tup
  rw [he] at e
  cases e
  refine ⟨fun q => ⟨vs, t.sq, by rw [l.length]; exact q⟩, fun d q => ?_⟩
  obtain ⟨u, h1, h2⟩ := l.get q
  refine ⟨⟨vs, u, t.sq, h1⟩, fun x H' q => ?_⟩
  obtain ⟨rfl, q⟩ := q
  have z := q vs t.sq
  rw [h1] at z
  cases z
  exact ⟨E, h2⟩
theorem it_str {x : Str} : ItOk K c' (Its x) false (x.cps.toList.map fun c => .str ⟨#[c]⟩) := by
  intro c σ H ρ w E i
  refine ⟨fun q => ?_, fun d q => ?_⟩
  · rw [List.length_map, Array.length_toList] at q
    exact q
  · rw [List.getElem?_map, Array.getElem?_toList] at q
    obtain ⟨ch, q1, rfl⟩ := Option.map_eq_some_iff.mp q
    refine ⟨(Array.getElem?_eq_some_iff.mp q1).1, fun x H' q => ?_⟩
    obtain ⟨rfl, c2, q2, rfl⟩ := q
    rw [q1] at q2
    cases q2
    exact ⟨E, show Rp K (Xo c σ ρ) _ _ _ from .str⟩
theorem it_keys {ob : Obj} {kvs : List (Key × V)} : ItOk K (c'.lock a ob kvs) (Itk a ob kvs) false ((kvs.map (·.1)).map .ofK) := by
  intro c σ H ρ w E i
  have h := E.fz (a, ob, kvs) (w.fz _ List.mem_cons_self)
  refine ⟨fun q => ⟨h, by simpa using q⟩, fun d q => ?_⟩
  rw [List.getElem?_map, List.getElem?_map] at q
  obtain ⟨k, q1, rfl⟩ := Option.map_eq_some_iff.mp q
  obtain ⟨kv, q2, rfl⟩ := Option.map_eq_some_iff.mp q1
  refine ⟨⟨h, (List.getElem?_eq_some_iff.mp q2).1⟩, fun x H' q => ?_⟩
  obtain ⟨rfl, k, v, q3, rfl⟩ := q
  rw [q2] at q3
  cases q3
  exact ⟨E, show Rp K (Xo c σ ρ) _ _ _ from .ofK⟩
theorem it_vals {ob : Obj} {kvs : List (Key × V)} {ks : List Key} (he : v = .ref a) : ItOk K ((c'.push (.dct ks ds) v).lock a ob kvs) (Itd a ob kvs) false ds := by
  intro c σ H ρ w E i
  have h := E.fz (a, ob, kvs) (w.fz _ List.mem_cons_self)
  have r := E.tmp (.dct ks ds, v) (w.tmp _ List.mem_cons_self)
  obtain ⟨a', kvs', e, t, _, l⟩ := (show Rp K _ H (.dct ks ds) v from r).bo.dct
  rw [he] at e
  cases e
  have ek : kvs' = kvs := by
    rcases t with t | ⟨ob', t⟩ <;> (rw [h] at t; cases t) <;> rfl
  subst ek
  have hl := l.length
  rw [List.length_map] at hl
  refine ⟨fun q => ⟨h, by omega⟩, fun d q => ?_⟩
  obtain ⟨u, h1, h2⟩ := l.get q
  rw [List.getElem?_map] at h1
  obtain ⟨kv, q2, rfl⟩ := Option.map_eq_some_iff.mp h1
  refine ⟨⟨h, (List.getElem?_eq_some_iff.mp q2).1⟩, fun x H' q => ?_⟩
  obtain ⟨rfl, k, q3⟩ := q
  rw [q2] at q3
  cases q3
  exact ⟨E, h2⟩
theorem ER.pair {u w : V} (E : ER K c σ H ρ) (n : H p = none) (r1 : Rp K (Xo c σ ρ) H x u) (r2 : Rp K (Xo c σ ρ) H y w) : ER K c σ (upd H p (.tup [u, w])) ρ ∧ IRp true K (Xo c σ ρ) (upd H p (.tup [u, w])) (.tup [x, y]) (.ref p) :=
  ⟨E.ext (upd_keep n), p, [u, w], [x, y], rfl, rfl, .inl (.inl upd_same), .cons (r1.kept (upd_keep n)) (.cons (r2.kept (upd_keep n)) .nil)⟩
theorem it_items {ob : Obj} {kvs : List (Key × V)} {ks : List Key} (hk : kvs.map (·.1) = ks) (he : v = .ref a) : ItOk K ((c'.push (.dct ks ds) v).lock a ob kvs) (Iti a ob kvs) true ((ks.zip ds).map fun q => .tup [.ofK q.1, q.2]) := by
  intro c σ H ρ w E i
  have h := E.fz (a, ob, kvs) (w.fz _ List.mem_cons_self)
  have r := E.tmp (.dct ks ds, v) (w.tmp _ List.mem_cons_self)
  obtain ⟨a', kvs', e, t, hk', l⟩ := (show Rp K _ H (.dct ks ds) v from r).bo.dct
  rw [he] at e
  cases e
  have ek : kvs' = kvs := by
    rcases t with t | ⟨ob', t⟩ <;> (rw [h] at t; cases t) <;> rfl
  subst ek
  have hl := l.length
  rw [List.length_map] at hl
  have hl2 : ks.length = kvs'.length := by rw [← hk, List.length_map]
  refine ⟨fun q => ⟨h, ?_⟩, fun d q => ?_⟩
  · rw [List.length_map, List.length_zip] at q
    omega
  · rw [List.getElem?_map] at q
    obtain ⟨⟨k, d2⟩, q1, rfl⟩ := Option.map_eq_some_iff.mp q
    obtain ⟨qk, qd⟩ := List.getElem?_zip_eq_some.mp q1
    obtain ⟨u, h1, h2⟩ := l.get qd
    rw [List.getElem?_map] at h1
    obtain ⟨kv, q2, rfl⟩ := Option.map_eq_some_iff.mp h1
    refine ⟨⟨h, (List.getElem?_eq_some_iff.mp q2).1⟩, fun x H' q => ?_⟩
    obtain ⟨T, k', v', q3, rfl, n, rfl⟩ := q
    rw [q2] at q3
    cases q3
    have e1 : k' = k := by
      rw [← hk, List.getElem?_map, q2] at qk
      cases qk
      rfl
    subst e1
    exact E.pair n .ofK h2
theorem ci_val (h : CE X iter ma) : CI X tg iter false (mIt ma) := by
  refine ⟨_, pi_or (pi_or (pi_list h) (pi_tup h)) (pi_or (pi_str h) (pi_keys (pe_fz h))), fun c σ H ρ ds ρ' R E e k => ?_⟩
  obtain ⟨d, ρ1, g1, f1⟩ := bd_some e
  obtain ⟨g2, rfl⟩ := lf_some f1
  cases d with
  | tup ds =>
    cases g2
    refine .inl (.inr ⟨c, ρ, _, ρ1, E, g1, fun v H1 E1 r => ?_⟩)
    obtain ⟨a, vs, rfl, t, l⟩ := r.bo.tup
    exact ⟨a, rfl, ⟨vs, t.sq⟩, k _ _ (c.push _ _) .push (E1.push r) (it_tup rfl)⟩
  | lst ds =>
    cases g2
    refine .inl (.inl ⟨c, ρ, _, ρ1, E, g1, fun v H1 E1 r => ?_⟩)
    obtain ⟨a, vs, rfl, t, l⟩ := r.bo.lst
    exact ⟨a, rfl, ⟨vs, .inl t⟩, k _ _ (c.push _ _) .push (E1.push r) (it_lst r rfl)⟩
  | scr ds =>
    cases g2
    refine .inl (.inl ⟨c, ρ, _, ρ1, E, g1, fun v H1 E1 r => ?_⟩)
    obtain ⟨a, vs, rfl, t, l⟩ := r.bo.scr
    exact ⟨a, rfl, ⟨vs, t.sq⟩, k _ _ (c.push _ _) .push (E1.push r) (it_scr rfl)⟩
  | str x =>
    cases g2
    refine .inr (.inl ⟨c, ρ, _, ρ1, E, g1, fun v H1 E1 r => ?_⟩)
    exact ⟨x, r.bo.str, k _ _ c .refl E1 it_str⟩
  | dct ks es =>
    cases g2
    refine .inr (.inr ⟨c, ρ, _, ρ1, E, g1, fun v H1 E1 r => ?_⟩)
    unfold Rp at r
    obtain ⟨a, kvs, rfl, t, rfl, l⟩ := r
    rcases t with ⟨t | ⟨ob, t⟩, no⟩
    · refine .inl ⟨a, kvs, rfl, t, fun ob => ⟨a, ob, rfl, .inl ⟨kvs, upd_same, k _ _ (c.lock a ob kvs) .lock (E1.freeze t no) it_keys⟩⟩⟩
    · exact .inr ⟨a, ob, rfl, .inl ⟨kvs, t, k _ _ (c.lock a ob kvs) .lock (E1.locked t) it_keys⟩⟩
  | _ => cases g2
/-! ### .items(), .values(), .keys() -/
def dctOf : D → Option (List Key × List D)
  | .dct ks ds => some (ks, ds)
  | _ => none
theorem dctOf_some {q : List Key × List D} (h : dctOf d = some q) : d = .dct q.1 q.2 := by
  cases d <;> cases h
  rfl
def mItems (m : Mm D) : Mm (List D) := bd m fun x => bd (lf (dctOf x)) fun q => ret ((q.1.zip q.2).map fun q => .tup [.ofK q.1, q.2])
def mVals (m : Mm D) : Mm (List D) := bd m fun x => bd (lf (dctOf x)) fun q => ret q.2
def mKeys (m : Mm D) : Mm (List D) := bd m fun x => bd (lf (dctOf x)) fun q => ret (q.1.map .ofK)
theorem dct_fz {ks : List Key} {R : Addr → Obj → List (Key × V) → Hp → Prop} {m : Mm D} (E : ER K c σ H ρ) (g : m ρ = some (.dct ks ds, ρ'))
    (k : ∀ a ob kvs H1, kvs.map (·.1) = ks → H1 a = some (.frz ob (.dK kvs)) → ER K ((c.push (.dct ks ds) (.ref a)).lock a ob kvs) σ H1 ρ' → R a ob kvs H1) :
    tFz (tE K m) σ H fun x H1 => ∃ d o kvs, x = .ref d ∧ H1 d = some (.frz o (.dK kvs)) ∧ R d o kvs H1 := by
  refine ⟨c, ρ, _, ρ', E, g, fun v H1 E1 r => ?_⟩
  have r0 := r
  unfold Rp at r
  obtain ⟨a, kvs, rfl, t, rfl, l⟩ := r
  rcases t with ⟨t | ⟨ob, t⟩, no⟩
  · exact .inl ⟨a, kvs, rfl, t, fun ob => ⟨a, ob, kvs, rfl, upd_same, k a ob kvs _ rfl upd_same ((E1.push r0).freeze t no)⟩⟩
  · exact .inr ⟨a, ob, kvs, rfl, t, k a ob kvs _ rfl t ((E1.push r0).locked t)⟩
theorem ci_items {elts : List Expr} {kk : Nat} (h : CE X e1 ma) (hbase : attributeBase e1 "items" X.env (eval e1 X.env) = eval e1 X.env := by rfl) (hline : (apos.endLine == cpos.line) = true := by rfl) : CI X (.Tuple elts kk tpos) (.Call (.Attribute e1 "items" apos) [] [] cpos) true (mItems ma) := by
  refine ⟨_, pi_items (pe_fz h) hbase hline, fun c σ H ρ ds ρ' R E e k => ?_⟩
  obtain ⟨d, ρ1, g1, f1⟩ := bd_some e
  obtain ⟨q, ρ2, f2, f3⟩ := bd_some f1
  obtain ⟨g2, rfl⟩ := lf_some f2
  cases dctOf_some g2
  cases f3
  exact dct_fz (R := fun a ob kvs H1 => R (Iti a ob kvs) H1) E g1 fun a ob kvs H1 hk _ E1 => k _ _ _ (.trans .lock .push) E1 (it_items hk rfl)
theorem ci_vals (h : CE X e1 ma) (hbase : attributeBase e1 "values" X.env (eval e1 X.env) = eval e1 X.env := by rfl) (hline : (apos.endLine == cpos.line) = true := by rfl) : CI X tg (.Call (.Attribute e1 "values" apos) [] [] cpos) false (mVals ma) := by
  refine ⟨_, pi_values (pe_fz h) hbase hline, fun c σ H ρ ds ρ' R E e k => ?_⟩
  obtain ⟨d, ρ1, g1, f1⟩ := bd_some e
  obtain ⟨q, ρ2, f2, f3⟩ := bd_some f1
  obtain ⟨g2, rfl⟩ := lf_some f2
  cases dctOf_some g2
  cases f3
  exact dct_fz (R := fun a ob kvs H1 => R (Itd a ob kvs) H1) E g1 fun a ob kvs H1 hk _ E1 => k _ _ _ (.trans .lock .push) E1 (it_vals rfl)
theorem ci_keys (h : CE X e1 ma) (hbase : attributeBase e1 "keys" X.env (eval e1 X.env) = eval e1 X.env := by rfl) (hline : (apos.endLine == cpos.line) = true := by rfl) : CI X tg (.Call (.Attribute e1 "keys" apos) [] [] cpos) false (mKeys ma) := by
  refine ⟨_, pi_keysM (pe_fz h) hbase hline, fun c σ H ρ ds ρ' R E e k => ?_⟩
  obtain ⟨d, ρ1, g1, f1⟩ := bd_some e
  obtain ⟨q, ρ2, f2, f3⟩ := bd_some f1
  obtain ⟨g2, rfl⟩ := lf_some f2
  cases dctOf_some g2
  cases f3
  refine dct_fz (R := fun a ob kvs H1 => R (Itk a ob kvs) H1) E g1 fun a ob kvs H1 hk _ E1 => k _ _ _ (.trans .lock .push) E1 ?_
  rw [← hk]
  exact it_keys
/-! ### range -/
def rngD (lo : Int) (n : Nat) : List D := (List.range n).map fun (i : Nat) => .int (lo + (i : Nat))
def rngC (lo c : Int) (n : Nat) : List D := (List.range n).map fun (i : Nat) => .int (lo + (i : Nat) * c)
def inR (k : Int) : Bool := decide (-(2 ^ 62) ≤ k) && decide (k < 2 ^ 62)
theorem inR_ok {k : Int} (h : inR k = true) : -(2 ^ 62) ≤ k ∧ k < 2 ^ 62 := by
  unfold inR at h
  simpa using h
def rng1 : List D → Option (List D)
  | [.int j] => if inR j then some (rngD 0 j.toNat) else none
  | _ => none
def rng2 : List D → Option (List D)
  | [.int i, .int j] => if inR i && inR j then some (rngD i (j - i).toNat) else none
  | _ => none
def rng3 : List D → Option (List D)
  | [.int i, .int j, .int (-1)] => if inR i && inR j then some (rngC i (-1) (i - j).toNat) else none
  | _ => none
def mRng (f : List D → Option (List D)) (m : Mm (List D)) : Mm (List D) := bd m fun xs => lf (f xs)
theorem it_rng {lo : Int} {n : Nat} : ItOk K c' (Itr lo n) false (rngD lo n) := by
  intro c σ H ρ w E i
  unfold rngD
  refine ⟨fun q => show n ≤ i by simpa using q, fun d q => ?_⟩
  rw [List.getElem?_map] at q
  obtain ⟨m, q1, rfl⟩ := Option.map_eq_some_iff.mp q
  obtain ⟨h1, h2⟩ := List.getElem?_eq_some_iff.mp q1
  rw [List.length_range] at h1
  rw [List.getElem_range] at h2
  subst h2
  refine ⟨h1, fun x H' q => ?_⟩
  obtain ⟨rfl, rfl⟩ := q
  exact ⟨E, show Rp K (Xo c σ ρ) _ _ _ from .int⟩
theorem it_rngC {lo s : Int} {n : Nat} : ItOk K c' (Itc lo s n) false (rngC lo s n) := by
  intro c σ H ρ w E i
  unfold rngC
  refine ⟨fun q => show n ≤ i by simpa using q, fun d q => ?_⟩
  rw [List.getElem?_map] at q
  obtain ⟨m, q1, rfl⟩ := Option.map_eq_some_iff.mp q
  obtain ⟨h1, h2⟩ := List.getElem?_eq_some_iff.mp q1
  rw [List.length_range] at h1
  rw [List.getElem_range] at h2
  subst h2
  refine ⟨h1, fun x H' q => ?_⟩
  obtain ⟨rfl, rfl⟩ := q
  exact ⟨E, show Rp K (Xo c σ ρ) _ _ _ from .int⟩
theorem RpL.one (l : RpL K Xx H [d] vs) : ∃ v, vs = [v] ∧ Rp K Xx H d v := by
  obtain ⟨v, ws, rfl, r, l⟩ := l.of_cons
  rw [l.of_nil]
  exact ⟨v, rfl, r⟩
theorem ci_rng1 (hg : Gl X "range") (hm : X.mg "range" = none) (ha : CA X [e1] mi) (hs : starEach [e1] X.env = [(false, eval e1 X.env)] := by rfl) : CI X tg (.Call (.Name "range" np) [e1] [] pos) false (mRng rng1 mi) := by
  refine ⟨_, pi_range1 hg hm ha hs, fun c σ H ρ ds ρ' R E e k => ?_⟩
  obtain ⟨xs, ρ1, g1, f1⟩ := bd_some e
  obtain ⟨g2, rfl⟩ := lf_some f1
  refine ⟨c, ρ, xs, ρ1, E, g1, fun vs H1 E1 l => ?_⟩
  unfold rng1 at g2
  split at g2
  · split at g2 <;> cases g2
    rename_i hr
    obtain ⟨v, rfl, r⟩ := l.one
    rw [r.bo.int]
    exact ⟨_, rfl, (inR_ok hr).1, (inR_ok hr).2, k _ _ c .refl E1 it_rng⟩
  · cases g2
theorem ci_rng2 (hg : Gl X "range") (hm : X.mg "range" = none) (ha : CA X [e1, e2] mi) (hs : starEach [e1, e2] X.env = [(false, eval e1 X.env), (false, eval e2 X.env)] := by rfl) (hs2 : starEach [e2] X.env = [(false, eval e2 X.env)] := by rfl) : CI X tg (.Call (.Name "range" np) [e1, e2] [] pos) false (mRng rng2 mi) := by
  refine ⟨_, pi_range2 hg hm ha hs hs2, fun c σ H ρ ds ρ' R E e k => ?_⟩
  obtain ⟨xs, ρ1, g1, f1⟩ := bd_some e
  obtain ⟨g2, rfl⟩ := lf_some f1
  refine ⟨c, ρ, xs, ρ1, E, g1, fun vs H1 E1 l => ?_⟩
  unfold rng2 at g2
  split at g2
  · split at g2 <;> cases g2
    rename_i hr
    rw [Bool.and_eq_true] at hr
    obtain ⟨v, ws, rfl, r, l⟩ := l.of_cons
    obtain ⟨w, rfl, r2⟩ := l.one
    rw [r.bo.int, r2.bo.int]
    exact ⟨_, _, rfl, ⟨(inR_ok hr.1).1, (inR_ok hr.1).2, inR_ok hr.2⟩, k _ _ c .refl E1 it_rng⟩
  · cases g2
theorem ci_rng3 (hg : Gl X "range") (hm : X.mg "range" = none) (ha : CA X [e1, e2, e3] mi) (hs : starEach [e1, e2, e3] X.env = (false, eval e1 X.env) :: starEach [e2, e3] X.env := by rfl) (hpl : (backTo pos (starEach [e2, e3] X.env)).any (·.1) = false := by rfl) : CI X tg (.Call (.Name "range" np) [e1, e2, e3] [] pos) false (mRng rng3 mi) := by
  refine ⟨_, pi_range3 hg hm ha hs hpl, fun c σ H ρ ds ρ' R E e k => ?_⟩
  obtain ⟨xs, ρ1, g1, f1⟩ := bd_some e
  obtain ⟨g2, rfl⟩ := lf_some f1
  refine ⟨c, ρ, xs, ρ1, E, g1, fun vs H1 E1 l => ?_⟩
  unfold rng3 at g2
  split at g2
  · split at g2 <;> cases g2
    rename_i hr
    rw [Bool.and_eq_true] at hr
    obtain ⟨v, ws, rfl, r, l⟩ := l.of_cons
    obtain ⟨w, us, rfl, r2, l⟩ := l.of_cons
    obtain ⟨u, rfl, r3⟩ := l.one
    rw [r.bo.int, r2.bo.int, r3.bo.int]
    exact ⟨_, _, _, _, rfl, .neg (inR_ok hr.1).1 (inR_ok hr.1).2 (inR_ok hr.2).1 (inR_ok hr.2).2, k _ _ c .refl E1 it_rngC⟩
  · cases g2
/-! ### enumerate, zip, reversed -/
def enumD (k : Nat) : List D → List D
  | [] => []
  | d :: ds => .tup [.int k, d] :: enumD (k + 1) ds
theorem enumD_get : ∀ {ds : List D} {k i : Nat}, (enumD k ds)[i]? = (ds[i]?).map fun d => .tup [.int (k + i : Nat), d]
  | [], _, _ => rfl
  | d :: ds, k, 0 => rfl
  | d :: ds, k, i + 1 => by
    unfold enumD
    rw [List.getElem?_cons_succ, List.getElem?_cons_succ, enumD_get]
    have e : k + 1 + i = k + (i + 1) := by omega
    rw [e]
theorem enumD_len : ∀ {ds : List D} {k : Nat}, (enumD k ds).length = ds.length
  | [], _ => rfl
  | d :: ds, k => by unfold enumD; rw [List.length_cons, List.length_cons, enumD_len]
def lstOf : D → Option (List D)
  | .lst ds => some ds
  | .scr ds => some ds
  | _ => none
theorem lstOf_sq (r : Rp K Xx H d v) (h : lstOf d = some ds) : ∃ a vs, v = .ref a ∧ SqL K H a vs ∧ RpL K Xx H ds vs := by
  cases d with
  | lst es =>
    cases h
    obtain ⟨a, vs, e, t, l⟩ := r.bo.lst
    exact ⟨a, vs, e, .inl t, l⟩
  | scr es =>
    cases h
    obtain ⟨a, vs, e, t, l⟩ := r.bo.scr
    exact ⟨a, vs, e, t.sq, l⟩
  | _ => cases h
def mEnum (m : Mm (List D)) : Mm (List D) := bd m fun xs => match xs with
  | [x] => bd (lf (lstOf x)) fun ds => ret (enumD 0 ds)
  | _ => fun _ => none
theorem it_enum (h : lstOf d = some ds) (he : v = .ref a) : ItOk K (c'.push d v) (Ite K a) true (enumD 0 ds) := by
  intro c σ H ρ w E i
  obtain ⟨a', vs, e, t, l⟩ := lstOf_sq (E.tmp (d, v) (w.tmp _ List.mem_cons_self)) h
  rw [he] at e
  cases e
  refine ⟨fun q => ⟨vs, t, by rw [enumD_len] at q; rw [l.length]; exact q⟩, fun d q => ?_⟩
  rw [enumD_get] at q
  obtain ⟨d2, q1, rfl⟩ := Option.map_eq_some_iff.mp q
  obtain ⟨u, h1, h2⟩ := l.get q1
  refine ⟨⟨vs, u, t, h1⟩, fun x H' q => ?_⟩
  obtain ⟨T, u', rfl, n, rfl, q⟩ := q
  have z := q vs t
  rw [h1] at z
  cases z
  rw [Nat.zero_add]
  exact E.pair n .int h2
theorem ci_enum {elts : List Expr} {kk : Nat} (hg : Gl X "enumerate") (hm : X.mg "enumerate" = none) (ha : CA X [e1] mi) (hs : starEach [e1] X.env = [(false, eval e1 X.env)] := by rfl) : CI X (.Tuple elts kk tpos) (.Call (.Name "enumerate" np) [e1] [] pos) true (mEnum mi) := by
  refine ⟨_, pi_enum hg hm ha hs, fun c σ H ρ ds ρ' R E e k => ?_⟩
  obtain ⟨xs, ρ1, g1, f1⟩ := bd_some e
  split at f1
  · obtain ⟨es, ρ2, f2, f3⟩ := bd_some f1
    obtain ⟨g2, rfl⟩ := lf_some f2
    cases f3
    refine ⟨c, ρ, _, _, E, g1, fun vs H1 E1 l => ?_⟩
    obtain ⟨v, rfl, r⟩ := l.one
    obtain ⟨a, vs, rfl, t, l2⟩ := lstOf_sq r g2
    exact ⟨a, vs, rfl, t, k _ _ (c.push _ _) .push (E1.push r) (it_enum g2 rfl)⟩
  · cases f1
def zipD (ds es : List D) : List D := (ds.zip es).map fun q => .tup [q.1, q.2]
def mZip (m : Mm (List D)) : Mm (List D) := bd m fun xs => match xs with
  | [.tup ds, .tup es] => ret (zipD ds es)
  | [x, y] => bd (lf (lstOf x)) fun ds => bd (lf (lstOf y)) fun es => ret (zipD ds es)
  | _ => fun _ => none
theorem zipD_get {ds es : List D} {d : D} (h : (zipD ds es)[i]? = some d) : ∃ x y, ds[i]? = some x ∧ es[i]? = some y ∧ d = .tup [x, y] := by
  unfold zipD at h
  rw [List.getElem?_map] at h
  obtain ⟨⟨x, y⟩, q1, rfl⟩ := Option.map_eq_some_iff.mp h
  obtain ⟨h1, h2⟩ := List.getElem?_zip_eq_some.mp q1
  exact ⟨x, y, h1, h2, rfl⟩
theorem it_zip {b : Addr} {es : List D} {d' : D} {v' : V} (h : lstOf d = some ds) (h' : lstOf d' = some es) (he : v = .ref a) (he' : v' = .ref b) : ItOk K ((c'.push d v).push d' v') (Itz K a b) true (zipD ds es) := by
  intro c σ H ρ w E i
  obtain ⟨a', vs, e, t, l⟩ := lstOf_sq (E.tmp (d, v) (w.tmp _ (List.mem_cons_of_mem _ List.mem_cons_self))) h
  obtain ⟨b', us, e', t', l'⟩ := lstOf_sq (E.tmp (d', v') (w.tmp _ List.mem_cons_self)) h'
  rw [he] at e
  cases e
  rw [he'] at e'
  cases e'
  refine ⟨fun q => ⟨vs, us, t, t', ?_⟩, fun d q => ?_⟩
  · unfold zipD at q
    rw [List.length_map, List.length_zip] at q
    rw [l.length, l'.length]
    omega
  · obtain ⟨x, y, q1, q2, rfl⟩ := zipD_get q
    obtain ⟨u, h1, h2⟩ := l.get q1
    obtain ⟨u', h3, h4⟩ := l'.get q2
    refine ⟨⟨vs, us, u, u', t, t', h1, h3⟩, fun x H' q => ?_⟩
    obtain ⟨T, w1, w2, rfl, n, rfl, z1, z2⟩ := q
    have z1 := z1 vs t
    rw [h1] at z1
    cases z1
    have z2 := z2 us t'
    rw [h3] at z2
    cases z2
    exact E.pair n h2 h4
theorem it_zipT {b : Addr} {es : List D} {v' : V} (he : v = .ref a) (he' : v' = .ref b) : ItOk K ((c'.push (.tup ds) v).push (.tup es) v') (RZ.ItzT K a b) true (zipD ds es) := by
  intro c σ H ρ w E i
  obtain ⟨a', vs, e, t, l⟩ := (show Rp K _ H (.tup ds) v from E.tmp (_, v) (w.tmp _ (List.mem_cons_of_mem _ List.mem_cons_self))).bo.tup
  obtain ⟨b', us, e', t', l'⟩ := (show Rp K _ H (.tup es) v' from E.tmp (_, v') (w.tmp _ List.mem_cons_self)).bo.tup
  rw [he] at e
  cases e
  rw [he'] at e'
  cases e'
  refine ⟨fun q => ⟨vs, us, t.sq, t'.sq, ?_⟩, fun d q => ?_⟩
  · unfold zipD at q
    rw [List.length_map, List.length_zip] at q
    rw [l.length, l'.length]
    omega
  · obtain ⟨x, y, q1, q2, rfl⟩ := zipD_get q
    obtain ⟨u, h1, h2⟩ := l.get q1
    obtain ⟨u', h3, h4⟩ := l'.get q2
    refine ⟨⟨vs, us, u, u', t.sq, t'.sq, h1, h3⟩, fun x H' q => ?_⟩
    obtain ⟨T, w1, w2, rfl, n, rfl, z1, z2⟩ := q
    have z1 := z1 vs t.sq
    rw [h1] at z1
    cases z1
    have z2 := z2 us t'.sq
    rw [h3] at z2
    cases z2
    exact E.pair n h2 h4
theorem ci_zip {elts : List Expr} {kk : Nat} (hg : Gl X "zip") (hm : X.mg "zip" = none) (ha : CA X [e1, e2] mi) (hs : starEach [e1, e2] X.env = (false, eval e1 X.env) :: starEach [e2] X.env := by rfl) (hpl : (backTo pos (starEach [e2] X.env)).any (·.1) = false := by rfl) : CI X (.Tuple elts kk tpos) (.Call (.Name "zip" np) [e1, e2] [] pos) true (mZip mi) := by
  refine ⟨_, RZ.pi_zipA hg hm ha hs hpl, fun c σ H ρ ds ρ' R E e k => ?_⟩
  obtain ⟨xs, ρ1, g1, f1⟩ := bd_some e
  refine ⟨c, ρ, _, ρ1, E, g1, fun vs H1 E1 l => ?_⟩
  split at f1
  · cases f1
    obtain ⟨v, ws, rfl, r, l⟩ := l.of_cons
    obtain ⟨w, rfl, r2⟩ := l.one
    obtain ⟨a, vs, rfl, t, l2⟩ := r.bo.tup
    obtain ⟨b, us, rfl, t', l2'⟩ := r2.bo.tup
    exact ⟨a, b, vs, us, rfl, .inr ⟨t.sq, t'.sq, k _ _ _ (.trans .push .push) ((E1.push r).push r2) (it_zipT rfl rfl)⟩⟩
  · obtain ⟨es, ρ2, f2, f3⟩ := bd_some f1
    obtain ⟨g2, rfl⟩ := lf_some f2
    obtain ⟨es2, ρ3, f4, f5⟩ := bd_some f3
    obtain ⟨g3, rfl⟩ := lf_some f4
    cases f5
    obtain ⟨v, ws, rfl, r, l⟩ := l.of_cons
    obtain ⟨w, rfl, r2⟩ := l.one
    obtain ⟨a, vs, rfl, t, l2⟩ := lstOf_sq r g2
    obtain ⟨b, us, rfl, t', l2'⟩ := lstOf_sq r2 g3
    exact ⟨a, b, vs, us, rfl, .inl ⟨t, t', k _ _ _ (.trans .push .push) ((E1.push r).push r2) (it_zip g2 g3 rfl rfl)⟩⟩
  · cases f1
def mRev (m : Mm D) : Mm (List D) := bd m fun x => match x with
  | .tup ds => ret ds.reverse
  | .lst ds => ret ds.reverse
  | .scr ds => ret ds.reverse
  | _ => fun _ => none
theorem it_rev (h : lstOf d = some ds) (he : v = .ref a) : ItOk K (c'.push d v) (Itv K a ds.length) false ds.reverse := by
  intro c σ H ρ w E i
  obtain ⟨a', vs, e, t, l⟩ := lstOf_sq (E.tmp (d, v) (w.tmp _ List.mem_cons_self)) h
  rw [he] at e
  cases e
  refine ⟨fun q => by rw [List.length_reverse] at q; exact q, fun d q => ?_⟩
  have hi : i < ds.length := by
    have := (List.getElem?_eq_some_iff.mp q).1
    rw [List.length_reverse] at this
    exact this
  rw [List.getElem?_reverse hi] at q
  obtain ⟨u, h1, h2⟩ := l.get q
  refine ⟨⟨hi, vs, u, t, h1⟩, fun x H' q => ?_⟩
  obtain ⟨rfl, q⟩ := q
  have z := q vs t
  rw [h1] at z
  cases z
  exact ⟨E, h2⟩
theorem it_revT (he : v = .ref a) : ItOk K (c'.push (.tup ds) v) (RT.ItvT K a ds.length) false ds.reverse := by
  intro c σ H ρ w E i
  obtain ⟨a', vs, e, t, l⟩ := (show Rp K _ H (.tup ds) v from E.tmp (_, v) (w.tmp _ List.mem_cons_self)).bo.tup
  rw [he] at e
  cases e
  refine ⟨fun q => by rw [List.length_reverse] at q; exact q, fun d q => ?_⟩
  have hi : i < ds.length := by
    have := (List.getElem?_eq_some_iff.mp q).1
    rw [List.length_reverse] at this
    exact this
  rw [List.getElem?_reverse hi] at q
  obtain ⟨u, h1, h2⟩ := l.get q
  refine ⟨⟨hi, vs, u, t.sq, h1⟩, fun x H' q => ?_⟩
  obtain ⟨rfl, q⟩ := q
  have z := q vs t.sq
  rw [h1] at z
  cases z
  exact ⟨E, h2⟩
theorem ci_rev (hg : Gl X "reversed") (hm : X.mg "reversed" = none) (h : CE X e1 ma) (hs : starEach [e1] X.env = (false, eval e1 X.env) :: starEach [] X.env := by rfl) : CI X tg (.Call (.Name "reversed" np) [e1] [] pos) false (mRev ma) := by
  refine ⟨_, RT.pi_revA hg hm h hs, fun c σ H ρ ds ρ' R E e k => ?_⟩
  obtain ⟨xs, ρ1, g1, f1⟩ := bd_some e
  refine ⟨c, ρ, _, ρ1, E, g1, fun v H1 E1 r => ?_⟩
  split at f1
  · cases f1
    obtain ⟨a, vs, rfl, t, l2⟩ := r.bo.tup
    refine ⟨a, vs, rfl, .inr ⟨t.sq, ?_⟩⟩
    rw [l2.length]
    exact k _ _ _ .push (E1.push r) (it_revT rfl)
  · cases f1
    obtain ⟨a, vs, rfl, t, l2⟩ := lstOf_sq r rfl
    refine ⟨a, vs, rfl, .inl ⟨t, ?_⟩⟩
    rw [l2.length]
    exact k _ _ _ .push (E1.push r) (it_rev rfl rfl)
  · cases f1
    obtain ⟨a, vs, rfl, t, l2⟩ := lstOf_sq r rfl
    refine ⟨a, vs, rfl, .inl ⟨t, ?_⟩⟩
    rw [l2.length]
    exact k _ _ _ .push (E1.push r) (it_rev rfl rfl)
  · cases f1
end
end DL

set_option Elab.async false
set_option linter.all false
set_option maxRecDepth 100000
namespace DL
open PySem PySem.Spec PyProof.Rows L2

section
variable {X : Cx} {K : PySem.W.Frag} {c c' : Fx} {σ σ2 : Sg} {H H' : Hp} {ρ ρ' ρ3 : En} {i j : Nat} {a p : Addr} {o : Ow} {d x y z : D} {v vx vy : V} {Q : VK} {ds : List D} {vs us : List V} {Xx : AP} {Dn : Ends} {ix : List Nat}
variable {tg iter e1 e2 e3 : Expr} {es : List Expr} {oa ob : Opd} {pos np apos cpos p1 tpos : Pos} {nm nx : Str} {bid : String} {ma mb : Mm D} {ta tb : Mm Bool} {st st2 : Stmt} {sts sts2 : List Stmt} {sa sb : Ms} {pr : Bool} {t : Tg} {ts : List Tg} {mi : Mm (List D)}
theorem EK.wk {f : Fl} (w : Wk c' c) (k : EK K c ρ' Dn f) : EK K c' ρ' Dn f := by
  cases f with
  | nx => exact fun σ' H' E => k σ' H' (E.wk w)
  | bk => exact fun σ' H' E => k σ' H' (E.wk w)
  | ct => exact fun σ' H' E => k σ' H' (E.wk w)
  | rv d => exact fun σ' H' v E r => k σ' H' v (E.wk w) (by rw [← w.xo]; exact r)
  | ro o => exact fun σ' H' p E r h1 h2 => k σ' H' p (E.wk w.ex) (by rw [← w.ex.xo]; exact r) (by rw [← w.he]; exact h1) (by rw [← w.x0]; exact h2)
/-! ### for -/
def forF (t : Tg) (b : Ms) : List D → En → Option (Fl × En)
  | [], ρ => some (.nx, ρ)
  | d :: ds, ρ => match asg t d ρ with
    | none => none
    | some ρ1 => match b ρ1 with
      | some (.nx, ρ2) => forF t b ds ρ2
      | some (.ct, ρ2) => forF t b ds ρ2
      | some (.bk, ρ2) => some (.nx, ρ2)
      | some (f, ρ2) => some (f, ρ2)
      | none => none
def mFor (it : Mm (List D)) (t : Tg) (b : Ms) : Ms := fun ρ => match it ρ with
  | some (ds, ρ1) => forF t b ds ρ1
  | none => none
theorem drop_get {α : Type} {l : List α} {i : Nat} {x : α} (h : l[i]? = some x) : l.drop i = x :: l.drop (i + 1) := by
  obtain ⟨h1, rfl⟩ := List.getElem?_eq_some_iff.mp h
  exact List.drop_eq_getElem_cons h1
theorem cs_for (hp : PassesOwn (model X.prog X.w) X.A X.env X.xe) (hc : X.calm = true) (hi : CI X tg iter pr mi) (hg : CG X tg pr t) (hb : CSs X sts sb) (hs : ∀ x, foldedSetIterable iter X.env x = pure x := by intro _; rfl) : CS X (.For tg iter sts [] pos) (mFor mi t sb) := by
  obtain ⟨wi, hpi, hw⟩ := hi
  refine ps_imp (ps_for hp hc hpi hg hb hs) fun Dn σ H q => ?_
  obtain ⟨c, ρ, f, ρ', E, e, k⟩ := q
  unfold mFor at e
  split at e
  · rename_i ds ρ1 w1
    refine hw c σ H ρ ds ρ1 _ E w1 fun J H1 c' wk E1 io => ?_
    refine ⟨fun i m σ H => m = ds.length - i ∧ ∃ ρ, ER X.K c' σ H ρ ∧ forF t sb (ds.drop i) ρ = some (f, ρ'), ⟨ds.length, rfl, ρ1, E1, by rw [List.drop_zero]; exact e⟩, ?_⟩
    rintro i m σ2 H2 ⟨rfl, ρ2, E2, w⟩
    obtain ⟨hst, hgo⟩ := io c' σ2 H2 ρ2 .refl E2 i
    cases hd : ds[i]? with
    | none =>
      have hi := List.getElem?_eq_none_iff.mp hd
      rw [List.drop_eq_nil_of_le hi] at w
      unfold forF at w
      cases w
      exact .inl ⟨hst hi, k _ _ (E2.wk wk)⟩
    | some d =>
      have hi := (List.getElem?_eq_some_iff.mp hd).1
      rw [drop_get hd] at w
      unfold forF at w
      obtain ⟨go, hy⟩ := hgo d hd
      split at w
      · cases w
      · rename_i ρ4 w4
        refine .inr ⟨go, fun σ' H' => ∃ ρ, ER X.K c' σ' H' ρ ∧ forF t sb (ds.drop (i + 1)) ρ = some (f, ρ'), fun σ' H' q => ⟨ds.length - (i + 1), by omega, rfl, q⟩, fun x H3 y => ?_⟩
        obtain ⟨E3, r3⟩ := hy x H3 y
        refine ⟨c', ρ2, d, ρ4, E3, r3, w4, fun σ5 H5 E5 _ => ?_⟩
        split at w
        · rename_i ρ6 w6
          exact ⟨c', ρ4, .nx, ρ6, E5, w6, fun σ' H' E' => ⟨ρ6, E', w⟩⟩
        · rename_i ρ6 w6
          exact ⟨c', ρ4, .ct, ρ6, E5, w6, fun σ' H' E' => ⟨ρ6, E', w⟩⟩
        · rename_i ρ6 w6
          cases w
          exact ⟨c', ρ4, .bk, _, E5, w6, fun σ' H' E' => k _ _ (E'.wk wk)⟩
        · rename_i f2 ρ6 n1 n2 n3 w6
          cases w
          refine ⟨c', ρ4, f, _, E5, w6, ?_⟩
          cases f with
          | nx => exact (n1 rfl).elim
          | ct => exact (n2 rfl).elim
          | bk => exact (n3 rfl).elim
          | rv d => exact EK.wk wk k
          | ro o => exact EK.wk wk k
        · cases w
  · cases e
/-! ### a comprehension's own slots -/
def clr (ix : List Nat) (ρ : En) : En := ρ.zipIdx.map fun q => if q.2 ∈ ix then .no else q.1
theorem clr_len : (clr ix ρ).length = ρ.length := by
  unfold clr
  rw [List.length_map, List.length_zipIdx]
theorem clr_get {s : Sl} : (clr ix ρ)[i]? = some s → s ≠ .no → i ∉ ix ∧ ρ[i]? = some s := by
  intro h hs
  unfold clr at h
  rw [List.getElem?_map, List.getElem?_zipIdx] at h
  cases e : ρ[i]? with
  | none => rw [e] at h; cases h
  | some s' =>
    rw [e] at h
    simp only [Option.map_some, Nat.zero_add, Option.some.injEq] at h
    by_cases hi : i ∈ ix
    · rw [if_pos hi] at h
      exact absurd h.symm hs
    · rw [if_neg hi] at h
      exact ⟨hi, by rw [h]⟩
def dem : List Nat → En → En
  | [], ρ => ρ
  | i :: ix, ρ => match ρ[i]? with
    | some (.ow o) => dem ix (ρ.set i (.va o.d))
    | _ => dem ix ρ
theorem ER.dem (E : ER K c σ H ρ) : ER K c σ H (dem ix ρ) := by
  induction ix generalizing ρ with
  | nil => exact E
  | cons i ix ih =>
    unfold DL.dem
    split
    · rename_i o w
      obtain ⟨a, _, E1, _⟩ := E.demote w
      exact ih E1
    · exact ih E
theorem wipe_get : ∀ {ix : List Nat} {i : Nat}, (wipe σ ix)[i]? = if i ∈ ix then (σ[i]?).map (fun _ => none) else σ[i]?
  | [], i => by unfold wipe; rw [if_neg (by simp)]
  | v :: ix, i => by
    unfold wipe
    by_cases hi : i = v
    · subst hi
      rw [if_pos List.mem_cons_self]
      by_cases hl : i < (wipe σ ix).length
      · rw [List.getElem?_set_self hl]
        rw [wipe_length] at hl
        rw [List.getElem?_eq_getElem hl]
        rfl
      · rw [List.getElem?_eq_none (by simpa using hl)]
        rw [wipe_length] at hl
        rw [List.getElem?_eq_none (by omega)]
        rfl
    · rw [List.getElem?_set_ne (Ne.symm hi), wipe_get]
      by_cases h : i ∈ ix
      · rw [if_pos h, if_pos (List.mem_cons_of_mem _ h)]
      · rw [if_neg h, if_neg (by simp [hi, h])]
theorem wipe_out (h : i ∉ ix) : (wipe σ ix)[i]? = σ[i]? := by rw [wipe_get, if_neg h]
theorem wipe_same {l : List Nat} (h : Same l (wipe σ ix) σ2) (hl : ∀ i ∈ l, i ∈ ix) (hn : σ2.length = σ.length) : wipe σ2 ix = wipe σ ix := by
  apply List.ext_getElem?
  intro i
  rw [wipe_get, wipe_get]
  by_cases hi : i ∈ ix
  · rw [if_pos hi, if_pos hi]
    by_cases hlt : i < σ.length
    · rw [List.getElem?_eq_getElem hlt, List.getElem?_eq_getElem (by omega)]
      rfl
    · rw [List.getElem?_eq_none (by omega), List.getElem?_eq_none (by omega)]
  · rw [if_neg hi, if_neg hi, h i fun z => hi (hl i z), wipe_out hi]
/-- the slots' values kept through -/
def Fx.more (c : Fx) (l : List (D × V)) : Fx := { c with tmp := l ++ c.tmp }
theorem ER.more {l : List (D × V)} (E : ER K c σ H ρ) (h : ∀ q ∈ l, Rp K (Xo c σ ρ) H q.1 q.2) : ER K (c.more l) σ H ρ :=
  ⟨E.len, E.va, E.ow, E.io, E.inj, E.fr, E.fz, E.hd, E.iot, E.x0, fun q hq => by
    rcases List.mem_append.mp hq with hq | hq
    · exact h q hq
    · exact E.tmp q hq⟩
theorem ER.saved (E : ER K c σ H ρ) : ∀ ix : List Nat, ∃ l : List (D × V), (∀ i ∈ ix, ∀ d, ρ[i]? = some (.va d) → ∃ v, σ[i]? = some (some v) ∧ (d, v) ∈ l) ∧ ∀ q ∈ l, Rp K (Xo c σ ρ) H q.1 q.2
  | [] => ⟨[], (fun i h => by cases h), (fun q h => by cases h)⟩
  | i :: ix => by
    obtain ⟨l, h1, h2⟩ := ER.saved E ix
    by_cases hv : ∃ d, ρ[i]? = some (.va d)
    · obtain ⟨d, hd⟩ := hv
      obtain ⟨v, e, r⟩ := E.va i d hd
      refine ⟨(d, v) :: l, fun j hj d' hd' => ?_, fun q hq => ?_⟩
      · rcases List.mem_cons.mp hj with z | hj
        · subst z
          rw [hd] at hd'
          cases hd'
          exact ⟨v, e, List.mem_cons_self⟩
        · obtain ⟨v', e', m⟩ := h1 j hj d' hd'
          exact ⟨v', e', List.mem_cons_of_mem _ m⟩
      · rcases List.mem_cons.mp hq with z | hq
        · subst z
          exact r
        · exact h2 q hq
    · refine ⟨l, fun j hj d' hd' => ?_, h2⟩
      rcases List.mem_cons.mp hj with z | hj
      · subst z
        exact absurd ⟨d', hd'⟩ hv
      · exact h1 j hj d' hd'
/-- ρ with the slots ix as they were in ρ0 -/
def svd : Option Sl → Sl
  | some (.va d) => .va d
  | _ => .no
def rst (ix : List Nat) (ρ0 ρ : En) : En := ρ.zipIdx.map fun q => if q.2 ∈ ix then svd ρ0[q.2]? else q.1
theorem rst_len {ρ0 : En} : (rst ix ρ0 ρ).length = ρ.length := by
  unfold rst
  rw [List.length_map, List.length_zipIdx]
theorem rst_get {ρ0 : En} {s : Sl} (h : (rst ix ρ0 ρ)[i]? = some s) (hs : s ≠ .no) : (i ∈ ix ∧ ∃ d, s = .va d ∧ ρ0[i]? = some (.va d)) ∨ (i ∉ ix ∧ ρ[i]? = some s) := by
  unfold rst at h
  rw [List.getElem?_map, List.getElem?_zipIdx] at h
  cases e : ρ[i]? with
  | none => rw [e] at h; cases h
  | some s' =>
    rw [e] at h
    simp only [Option.map_some, Nat.zero_add, Option.some.injEq] at h
    by_cases hi : i ∈ ix
    · rw [if_pos hi] at h
      refine .inl ⟨hi, ?_⟩
      unfold svd at h
      split at h
      · rename_i d w
        exact ⟨d, h.symm, w⟩
      · exact absurd h.symm hs
    · rw [if_neg hi] at h
      exact .inr ⟨hi, by rw [h]⟩
theorem ER.unwipe {ρ0 : En} (E : ER K c (wipe σ ix) H ρ) (hv : ∀ i ∈ ix, ∀ d, ρ0[i]? = some (.va d) → ∃ v, σ[i]? = some (some v) ∧ (d, v) ∈ c.tmp) : ER K c σ H (rst ix ρ0 ρ) ∧ ∀ a, Xo c σ (rst ix ρ0 ρ) a → Xo c (wipe σ ix) ρ a := by
  have ow : ∀ j a, OwnAt σ (rst ix ρ0 ρ) j a → OwnAt (wipe σ ix) ρ j a := fun j a q => by
    obtain ⟨e, o, q⟩ := q
    rcases q with q | q
    · rcases rst_get q (by simp) with ⟨_, d, z, _⟩ | ⟨h1, h2⟩
      · cases z
      · exact ⟨by rw [wipe_out h1]; exact e, o, .inl h2⟩
    · rcases rst_get q (by simp) with ⟨_, d, z, _⟩ | ⟨h1, h2⟩
      · cases z
      · exact ⟨by rw [wipe_out h1]; exact e, o, .inr h2⟩
  have xx : ∀ a, Xo c σ (rst ix ρ0 ρ) a → Xo c (wipe σ ix) ρ a := fun a h => by
    rcases h with h | ⟨j, h⟩
    · exact .inl h
    · exact .inr ⟨j, ow j a h⟩
  refine ⟨⟨by rw [rst_len, ← E.len, wipe_length], fun j d q => ?_, fun j o q => ?_, fun j o q => ?_, fun j k a h1 h2 => E.inj j k a (ow j a h1) (ow k a h2), E.fr, E.fz, E.hd, E.iot, E.x0, fun q hq => (E.tmp q hq).keep xx Kp.refl⟩, xx⟩
  · rcases rst_get q (by simp) with ⟨h1, d, z, h2⟩ | ⟨h1, h2⟩
    · cases z
      obtain ⟨v, e, m⟩ := hv j h1 _ h2
      exact ⟨v, e, (E.tmp _ m).keep xx Kp.refl⟩
    · obtain ⟨v, e, r⟩ := E.va j d h2
      rw [wipe_out h1] at e
      exact ⟨v, e, r.keep xx Kp.refl⟩
  · rcases rst_get q (by simp) with ⟨h1, d, z, h2⟩ | ⟨h1, h2⟩
    · cases z
    · obtain ⟨v, e, r, n⟩ := E.ow j o h2
      rw [wipe_out h1] at e
      exact ⟨v, e, r.keep xx Kp.refl fun _ z => z, n⟩
  · rcases rst_get q (by simp) with ⟨h1, d, z, h2⟩ | ⟨h1, h2⟩
    · cases z
    · obtain ⟨v, e, r, n⟩ := E.io j o h2
      rw [wipe_out h1] at e
      exact ⟨v, e, r.keep xx Kp.refl fun _ z => z, n⟩
/-- into the block -/
theorem ER.inBlk (E : ER K c σ H ρ) : ER K c (wipe σ ix) H (clr ix ρ) := E.forget (by rw [wipe_length, clr_len, E.len]) fun i s h hs => by
  obtain ⟨h1, h2⟩ := clr_get h hs
  exact ⟨h2, wipe_out h1⟩
theorem ER.toBlk (E : ER K c σ2 H ρ) (h : wipe σ2 ix = wipe σ ix) : ER K c (wipe σ ix) H (clr ix ρ) := by
  rw [← h]
  exact E.inBlk
/-! ### the new thing at p, held -/
theorem ER.reput {u u' : HO} {h : c.X0 p} (E : ER K (c.hold p u h) σ H ρ) (he : c.He p = none) (hu : ∀ ob w, u ≠ .frz ob w) (hh : ∀ l ∈ c.hd, l.1 ≠ p) : ER K (c.hold p u' h) σ (upd H p u') ρ := by
  have hp : H p = some u := E.hd (p, u) List.mem_cons_self
  have kr : Kp (Xo (c.hold p u h) σ ρ) H (upd H p u') := ⟨fun b w _ q n => by
    have hb : b ≠ p := fun z => n (.inl (by rw [z]; exact h))
    rcases q with q | ⟨z, q⟩
    · exact .inl (by rw [upd_ne hb]; exact q)
    · exact .inr ⟨z, by rw [upd_ne hb]; exact q⟩, fun b ob vs q n => by
    have hb : b ≠ p := fun z => n (.inl (by rw [z]; exact h))
    rw [upd_ne hb]
    exact q⟩
  have kn : ∀ b, H b ≠ none → upd H p u' b ≠ none := fun b q z => by
    by_cases hb : b = p
    · subst hb
      rw [upd_same] at z
      cases z
    · rw [upd_ne hb] at z
      exact q z
  refine ⟨E.len, fun i d h => ?_, fun i o q => ?_, fun i o q => ?_, E.inj, fun b w h1 h2 => ?_, fun l hl => ?_, fun l hl => ?_, fun b q => kn _ (E.iot b q), fun b q => kn _ (E.x0 b q), fun q hq => (E.tmp q hq).keep (fun _ z => z) kr⟩
  · obtain ⟨v, e, r⟩ := E.va i d h
    exact ⟨v, e, r.keep (fun _ z => z) kr⟩
  · obtain ⟨b, e, r, n, n2⟩ := E.ow i o q
    exact ⟨b, e, r.keep (fun _ z => z) kr fun w hw => by rw [upd_ne fun z => n (by rw [z]; exact h)]; exact hw, n, n2⟩
  · obtain ⟨b, e, r, n, n2⟩ := E.io i o q
    exact ⟨b, e, r.keep (fun _ z => z) kr fun w hw => by rw [upd_ne fun z => n (by rw [z]; exact h)]; exact hw, n, n2⟩
  · have hb : b ≠ p := fun z => by
      rw [z] at h1
      rw [show (c.hold p u' h).He p = c.He p from rfl, he] at h1
      cases h1
    rcases E.fr b w h1 h2 with q | ⟨n, ob', kvs', e, q⟩
    · exact .inl (by rw [upd_ne hb]; exact q)
    · exact .inr ⟨n, ob', kvs', e, by rw [upd_ne hb]; exact q⟩
  · have q := E.fz l hl
    rw [upd_ne]
    · exact q
    · intro z
      rw [z, hp] at q
      cases q
      exact hu _ _ rfl
  · rcases List.mem_cons.mp hl with z | hl
    · rw [z]
      exact upd_same
    · rw [upd_ne (hh l hl)]
      exact E.hd l (List.mem_cons_of_mem _ hl)
theorem ER.acc {u u' : HO} {h : c.X0 p} (E : ER K ((c.hold p u h).pushL ds vs) σ H ρ) (hl : vs.length = ds.length) (he : c.He p = none) (hu : ∀ ob w, u ≠ .frz ob w) (hh : ∀ l ∈ c.hd, l.1 ≠ p) {es : List D}
    (r : RpL K (Xo c σ ρ) H es us) : ER K ((c.hold p u' h).pushL es us) σ (upd H p u') ρ := by
  obtain ⟨E1, _⟩ := E.popL hl
  have E2 := E1.reput (u' := u') he hu hh
  refine E2.pushL (r.keep (fun _ z => z) ⟨fun b w _ q n => ?_, fun b ob vs q n => ?_⟩)
  · have hb : b ≠ p := fun z => n (.inl (by rw [z]; exact h))
    rcases q with q | ⟨z, q⟩
    · exact .inl (by rw [upd_ne hb]; exact q)
    · exact .inr ⟨z, by rw [upd_ne hb]; exact q⟩
  · have hb : b ≠ p := fun z => n (.inl (by rw [z]; exact h))
    rw [upd_ne hb]
    exact q
/-! ### list comprehensions -/
def CTs (X : Cx) (ifs : List Expr) (m : Mm Bool) : Prop := PTs X ifs (tTm X.K m)
theorem pts_imp {ifs : List Expr} {t t' : TT} (h : PTs X ifs t) (w : ∀ σ H Q, t' σ H Q → t σ H Q) : PTs X ifs t' := ⟨fun pins s σ H Q I q => h.run pins s σ H Q I (w σ H Q q)⟩
theorem cts_nil : CTs X [] (ret true) := pts_imp pts_nil fun σ H Q q => by
  obtain ⟨c, ρ, b, ρ', E, e, k⟩ := q
  cases e
  exact k H E
theorem cts_one (h : CT X e1 ta) : CTs X [e1] ta := pts_one h
mutual
theorem asg_len : ∀ {t : Tg} {d : D} {ρ ρ' : En}, asg t d ρ = some ρ' → ρ'.length = ρ.length
  | .nm i, d, ρ, ρ', h => by
    unfold asg stV at h
    split at h
    · cases h
    · cases h
      rw [List.length_set]
    · cases h
  | .tup ts, .tup ds, ρ, ρ', h => by
    unfold asg at h
    exact asgL_lenE h
  | .tup _, .non, _, _, h => by unfold asg at h; cases h
  | .tup _, .bl _, _, _, h => by unfold asg at h; cases h
  | .tup _, .int _, _, _, h => by unfold asg at h; cases h
  | .tup _, .str _, _, _, h => by unfold asg at h; cases h
  | .tup _, .lst _, _, _, h => by unfold asg at h; cases h
  | .tup _, .dct _ _, _, _, h => by unfold asg at h; cases h
  | .tup _, .scr _, _, _, h => by unfold asg at h; cases h
theorem asgL_lenE : ∀ {ts : List Tg} {ds : List D} {ρ ρ' : En}, asgL ts ds ρ = some ρ' → ρ'.length = ρ.length
  | [], [], _, _, h => by unfold asgL at h; cases h; rfl
  | [], _ :: _, _, _, h => by unfold asgL at h; cases h
  | _ :: _, [], _, _, h => by unfold asgL at h; cases h
  | t :: ts, d :: ds, ρ, ρ', h => by
    unfold asgL at h
    obtain ⟨ρ1, e1, e2⟩ := Option.bind_eq_some_iff.mp h
    rw [asgL_lenE e2, asg_len e1]
end
def lcF (ix : List Nat) (t : Tg) (tt : Mm Bool) (el : Mm D) : List D → List D → En → Option (List D × En)
  | [], acc, ρ => some (acc, ρ)
  | d :: ds, acc, ρ => match asg t d ρ with
    | none => none
    | some ρ1 => match tt ρ1 with
      | some (true, ρ2) => (match el ρ2 with
        | some (y, ρ3) => if acc.length < 16777216 then lcF ix t tt el ds (acc ++ [y]) (clr ix ρ3) else none
        | none => none)
      | some (false, ρ2) => lcF ix t tt el ds acc (clr ix ρ2)
      | none => none
def mLc (it : Mm (List D)) (ix : List Nat) (t : Tg) (tt : Mm Bool) (el : Mm D) : Mm Ow := fun ρ => match it ρ with
  | some (ds, ρ1) => (match lcF ix t tt el ds [] (clr ix (dem ix ρ1)) with
    | some (acc, ρ2) => some (.lst acc, rst ix (dem ix ρ1) ρ2)
    | none => none)
  | none => none
theorem te_lc {wi : TI} (hw : ∀ c σ H ρ ds ρ' R, ER K c σ H ρ → mi ρ = some (ds, ρ') → (∀ J H1 c', Wk c' c → ER K c' σ H1 ρ' → ItOk K c' J pr ds → R J H1) → wi σ H R) (hl : ∀ i ∈ t.sl, i ∈ ix)
    (q : tO K (mLc mi ix t ta ma) σ H Q) : tLc wi (tGm K pr t) (tTm K ta) (tE K ma) ix σ H Q := by
  obtain ⟨c, ρ, o, ρ', E, e, k⟩ := q
  unfold mLc at e
  split at e
  · rename_i ds ρ1 w1
    split at e
    · rename_i acc ρ2 w2
      cases e
      refine hw c σ H ρ ds ρ1 _ E w1 fun J H1 c' wk E1 io p hp => ?_
      have E2 := E1.dem (ix := ix)
      obtain ⟨l, hsv, hrp⟩ := E2.saved ix
      have nx0 := E2.nx0 hp
      have hen := E2.he_none hp
      have E3 := (E2.more hrp).alloc (u := .lst []) hp
      have h0 : ((c'.more l).ex p).X0 p := .inr rfl
      have E4 := (E3.held (u := .lst []) (h := h0) upd_same).pushL (ds := []) (vs := []) .nil
      have hh : ∀ l2 ∈ ((c'.more l).ex p).hd, l2.1 ≠ p := fun l2 h z => nx0 (by rw [← z]; exact c'.hx l2 h)
      have hwx : ∀ u ad av, Wx ((((c'.more l).ex p).hold p u h0).pushL ad av) c' := fun u ad av => ⟨fun _ z => .inl z, fun q z => List.mem_append_right _ (List.mem_append_right _ z), fun q z => z⟩
      refine ⟨fun i m H => m = ds.length - i ∧ ∃ ad av ρ, av.length = ad.length ∧ ER K ((((c'.more l).ex p).hold p (.lst av) h0).pushL ad av) (wipe σ ix) H ρ ∧ lcF ix t ta ma (ds.drop i) ad ρ = some (acc, ρ2),
        ⟨ds.length, rfl, [], [], _, rfl, E4.inBlk (ix := ix), by rw [List.drop_zero]; exact w2⟩, ?_⟩
      rintro i m H5 ⟨rfl, ad, av, ρ5, hlen, E5, w5⟩
      obtain ⟨hst, hgo⟩ := io _ _ H5 ρ5 (hwx _ ad av) E5 i
      cases hd : ds[i]? with
      | none =>
        have hi := List.getElem?_eq_none_iff.mp hd
        rw [List.drop_eq_nil_of_le hi] at w5
        unfold lcF at w5
        cases w5
        refine .inl ⟨hst hi, ?_⟩
        obtain ⟨E6, l6⟩ := E5.popL hlen
        obtain ⟨E7, xx⟩ := E6.unwipe (ρ0 := dem ix ρ1) fun i hi d h => by
          obtain ⟨v, h1, h2⟩ := hsv i hi d h
          exact ⟨v, h1, List.mem_append_left _ h2⟩
        have hD := E6.hd (p, .lst av) List.mem_cons_self
        have wk2 : Wk (((c'.more l).ex p).hold p (.lst av) h0) (c.ex p) := .trans .hold (Wk.ex ⟨wk.x0, wk.he, wk.ioa, fun q z => List.mem_append_right _ (wk.tmp q z), wk.fz, wk.hd⟩)
        refine k p H5 (E7.wk wk2) ⟨av, hD, ?_⟩ (by rw [← wk.he]; exact hen) (by rw [← wk.x0]; exact nx0)
        rw [← wk2.xo]
        exact l6.keep xx Kp.refl
      | some d =>
        have hi := (List.getElem?_eq_some_iff.mp hd).1
        rw [drop_get hd] at w5
        unfold lcF at w5
        obtain ⟨go, hy⟩ := hgo d hd
        split at w5
        · cases w5
        · rename_i ρ6 w6
          refine .inr ⟨go, fun H => ∃ ad av ρ, av.length = ad.length ∧ ER K ((((c'.more l).ex p).hold p (.lst av) h0).pushL ad av) (wipe σ ix) H ρ ∧ lcF ix t ta ma (ds.drop (i + 1)) ad ρ = some (acc, ρ2), fun H' q => ⟨ds.length - (i + 1), by omega, rfl, q⟩, fun x H6 y => ?_⟩
          obtain ⟨E6, r6⟩ := hy x H6 y
          refine ⟨_, ρ5, d, ρ6, E6, r6, w6, fun σ7 H7 E7 sm => ?_⟩
          have hw7 : wipe σ7 ix = wipe σ ix := wipe_same sm hl (by rw [E7.len, asg_len w6, ← E6.len, wipe_length])
          refine ⟨hw7, ?_⟩
          split at w5
          · rename_i ρ8 w8
            split at w5
            · rename_i y ρ9 w9
              split at w5
              · rename_i hsz
                refine ⟨_, ρ6, true, ρ8, E7, w8, fun H8 E8 => ?_⟩
                refine iteT ?_
                refine ⟨_, ρ8, y, ρ9, E8, w9, fun vy H9 E9 r9 => ⟨av, ?_, ?_, ad ++ [y], av ++ [vy], clr ix ρ9, ?_, ?_, w5⟩⟩
                · exact (E9.popL hlen).1.hd (p, .lst av) List.mem_cons_self
                · rw [sizeLine_eq, hlen]
                  exact hsz
                · rw [List.length_append, List.length_append, hlen]
                  rfl
                · exact (E9.acc hlen hen (fun _ _ z => by cases z) hh ((E9.popL hlen).2.app (.cons r9 .nil))).toBlk hw7
              · cases w5
            · cases w5
          · rename_i ρ8 w8
            refine ⟨_, ρ6, false, ρ8, E7, w8, fun H8 E8 => ?_⟩
            refine iteF ?_
            exact ⟨ad, av, clr ix ρ8, hlen, E8.toBlk hw7, w5⟩
          · cases w5
    · cases e
  · cases e
end
end DL

set_option Elab.async false
set_option linter.all false
set_option maxRecDepth 100000
namespace DL
open PySem PySem.Spec PyProof.Rows L2

section
variable {X : Cx} {K : PySem.W.Frag} {c c' : Fx} {σ σ2 : Sg} {H H' : Hp} {ρ ρ' ρ3 : En} {i j : Nat} {a p : Addr} {o : Ow} {d x y z : D} {v vx vy : V} {Q : VK} {ds : List D} {vs us : List V} {Xx : AP} {Dn : Ends} {ix : List Nat}
variable {tg iter e1 e2 e3 : Expr} {es : List Expr} {oa ob : Opd} {pos np apos cpos p1 p2 tpos spos py : Pos} {nm nx ny : Str} {bid : String} {ma mb mk : Mm D} {ta tb : Mm Bool} {st st2 : Stmt} {sts sts2 : List Stmt} {sa sb : Ms} {pr : Bool} {t : Tg} {ts : List Tg} {mi : Mm (List D)}
variable {elt kx : Expr} {ifs : List Expr} {scope : Scope} {own : List (Str × Nat)}
/-- the slots of the target are the block's own -/
def slIn (t : Tg) (ix : List Nat) : Bool := t.sl.all fun i => ix.contains i
theorem slIn_ok (h : slIn t ix = true) : ∀ i ∈ t.sl, i ∈ ix := fun i hi => by
  unfold slIn at h
  rw [List.all_eq_true] at h
  exact List.contains_iff_mem.mp (h i hi)
theorem co_lc (hc : X.calm = true) (hN : X.N.Nodup) (hi : CI X tg iter pr mi) (ok : BlkOk X.N X.env.scope scope own)
    (hg : ∀ (s : Shared) (H : Hp) (C : Addr) (cl : List (Str × Addr)) (fp : List Addr), CG (X.blk s H scope (compEnvC scope cl C X.env) fp) tg pr t) (ht : ∀ (s : Shared) (H : Hp) (C : Addr) (cl : List (Str × Addr)) (fp : List Addr), CTs (X.blk s H scope (compEnvC scope cl C X.env) fp) ifs ta)
    (he : ∀ (s : Shared) (H : Hp) (C : Addr) (cl : List (Str × Addr)) (fp : List Addr), CE (X.blk s H scope (compEnvC scope cl C X.env) fp) elt ma) (hl : slIn t ix = true := by rfl) (hix : own.map (·.2) = ix := by rfl) (hs : ∀ x, foldedSetIterable iter X.env x = pure x := by intro _; rfl) :
    CO X (.ListComp elt [⟨tg, iter, ifs, 0⟩] scope pos) (mLc mi ix t ta ma) := by
  subst hix
  obtain ⟨wi, hpi, hw⟩ := hi
  exact pe_imp (pe_lc (g := tGm X.K pr t) (tt := tTm X.K ta) (te := tE X.K ma) hc hN hpi ok hg ht he hs) fun σ H Q q => te_lc hw (slIn_ok hl) q
theorem cs_setLc {y : Str} (i : Nat) (hc : X.calm = true) (hN : X.N.Nodup) (hi : CI X tg iter pr mi) (ok : BlkOk X.N X.env.scope scope own)
    (hg : ∀ (s : Shared) (H : Hp) (C : Addr) (cl : List (Str × Addr)) (fp : List Addr), CG (X.blk s H scope (compEnvC scope cl C X.env) fp) tg pr t) (ht : ∀ (s : Shared) (H : Hp) (C : Addr) (cl : List (Str × Addr)) (fp : List Addr), CTs (X.blk s H scope (compEnvC scope cl C X.env) fp) ifs ta)
    (he : ∀ (s : Shared) (H : Hp) (C : Addr) (cl : List (Str × Addr)) (fp : List Addr), CE (X.blk s H scope (compEnvC scope cl C X.env) fp) elt ma) (hl : slIn t ix = true := by rfl) (hix : own.map (·.2) = ix := by rfl)
    (hy : X.N[i]? = some y := by rfl) (hyl : X.env.scope.names.lookup y = some .local := by rfl) (hsw : swapsWith (.ListComp elt [⟨tg, iter, ifs, 0⟩] scope pos) (some (.Name y py)) spos.line X.env = pure true := by exact sw_true rfl rfl rfl rfl) (hs : ∀ x, foldedSetIterable iter X.env x = pure x := by intro _; rfl) :
    CS X (.Assign [.Name y py] (.ListComp elt [⟨tg, iter, ifs, 0⟩] scope pos) spos) (mSetO (mLc mi ix t ta ma) i) := by
  subst hix
  obtain ⟨wi, hpi, hw⟩ := hi
  exact ps_imp (ps_setLc (g := tGm X.K pr t) (tt := tTm X.K ta) (te := tE X.K ma) hc hN hy hyl hsw hpi ok hg ht he hs) fun Dn σ H q => tset_o (fun Q q => te_lc hw (slIn_ok hl) q) q
/-! ### dict comprehensions -/
def dcF (ix : List Nat) (t : Tg) (tt : Mm Bool) (mk el : Mm D) : List D → List Key → List D → En → Option ((List Key × List D) × En)
  | [], ks, acc, ρ => some ((ks, acc), ρ)
  | d :: ds, ks, acc, ρ => match asg t d ρ with
    | none => none
    | some ρ1 => match tt ρ1 with
      | some (true, ρ2) => (match mk ρ2 with
        | some (x, ρ3) => (match el ρ3 with
          | some (y, ρ4) => (match keyOf x with
            | some k => if ks.length < 16777216 then dcF ix t tt mk el ds (putKs ks k) (putDs ks acc k y) (clr ix ρ4) else none
            | none => none)
          | none => none)
        | none => none)
      | some (false, ρ2) => dcF ix t tt mk el ds ks acc (clr ix ρ2)
      | none => none
def mDc (it : Mm (List D)) (ix : List Nat) (t : Tg) (tt : Mm Bool) (mk el : Mm D) : Mm Ow := fun ρ => match it ρ with
  | some (ds, ρ1) => (match dcF ix t tt mk el ds [] [] (clr ix (dem ix ρ1)) with
    | some (q, ρ2) => some (.dct q.1 q.2, rst ix (dem ix ρ1) ρ2)
    | none => none)
  | none => none
theorem te_dc {wi : TI} (hw : ∀ c σ H ρ ds ρ' R, ER K c σ H ρ → mi ρ = some (ds, ρ') → (∀ J H1 c', Wk c' c → ER K c' σ H1 ρ' → ItOk K c' J pr ds → R J H1) → wi σ H R) (hl : ∀ i ∈ t.sl, i ∈ ix)
    (q : tO K (mDc mi ix t ta mk ma) σ H Q) : tDc wi (tGm K pr t) (tTm K ta) (tE K mk) (tE K ma) ix σ H Q := by
  obtain ⟨c, ρ, o, ρ', E, e, k⟩ := q
  unfold mDc at e
  split at e
  · rename_i ds ρ1 w1
    split at e
    · rename_i acc ρ2 w2
      cases e
      refine hw c σ H ρ ds ρ1 _ E w1 fun J H1 c' wk E1 io p hp => ?_
      have E2 := E1.dem (ix := ix)
      obtain ⟨l, hsv, hrp⟩ := E2.saved ix
      have nx0 := E2.nx0 hp
      have hen := E2.he_none hp
      have E3 := (E2.more hrp).alloc (u := .dK []) hp
      have h0 : ((c'.more l).ex p).X0 p := .inr rfl
      have E4 := (E3.held (u := .dK []) (h := h0) upd_same).pushL (ds := []) (vs := []) .nil
      have hh : ∀ l2 ∈ ((c'.more l).ex p).hd, l2.1 ≠ p := fun l2 h z => nx0 (by rw [← z]; exact c'.hx l2 h)
      have hwx : ∀ u ad av, Wx ((((c'.more l).ex p).hold p u h0).pushL ad av) c' := fun u ad av => ⟨fun _ z => .inl z, fun q z => List.mem_append_right _ (List.mem_append_right _ z), fun q z => z⟩
      refine ⟨fun i m H => m = ds.length - i ∧ ∃ ks ad kvs ρ, kvs.map (·.1) = ks ∧ (kvs.map (·.2)).length = ad.length ∧ ER K ((((c'.more l).ex p).hold p (.dK kvs) h0).pushL ad (kvs.map (·.2))) (wipe σ ix) H ρ ∧ dcF ix t ta mk ma (ds.drop i) ks ad ρ = some (acc, ρ2),
        ⟨ds.length, rfl, [], [], [], _, rfl, rfl, E4.inBlk (ix := ix), by rw [List.drop_zero]; exact w2⟩, ?_⟩
      rintro i m H5 ⟨rfl, ks, ad, kvs, ρ5, hks, hlen, E5, w5⟩
      obtain ⟨hst, hgo⟩ := io _ _ H5 ρ5 (hwx _ ad _) E5 i
      cases hd : ds[i]? with
      | none =>
        have hi := List.getElem?_eq_none_iff.mp hd
        rw [List.drop_eq_nil_of_le hi] at w5
        unfold dcF at w5
        cases w5
        refine .inl ⟨hst hi, ?_⟩
        obtain ⟨E6, l6⟩ := E5.popL hlen
        obtain ⟨E7, xx⟩ := E6.unwipe (ρ0 := dem ix ρ1) fun i hi d h => by
          obtain ⟨v, h1, h2⟩ := hsv i hi d h
          exact ⟨v, h1, List.mem_append_left _ h2⟩
        have hD := E6.hd (p, .dK kvs) List.mem_cons_self
        have wk2 : Wk (((c'.more l).ex p).hold p (.dK kvs) h0) (c.ex p) := .trans .hold (Wk.ex ⟨wk.x0, wk.he, wk.ioa, fun q z => List.mem_append_right _ (wk.tmp q z), wk.fz, wk.hd⟩)
        refine k p H5 (E7.wk wk2) ⟨kvs, hD, hks, ?_⟩ (by rw [← wk.he]; exact hen) (by rw [← wk.x0]; exact nx0)
        rw [← wk2.xo]
        exact l6.keep xx Kp.refl
      | some d =>
        have hi := (List.getElem?_eq_some_iff.mp hd).1
        rw [drop_get hd] at w5
        unfold dcF at w5
        obtain ⟨go, hy⟩ := hgo d hd
        split at w5
        · cases w5
        · rename_i ρ6 w6
          refine .inr ⟨go, fun H => ∃ ks ad kvs ρ, kvs.map (·.1) = ks ∧ (kvs.map (·.2)).length = ad.length ∧ ER K ((((c'.more l).ex p).hold p (.dK kvs) h0).pushL ad (kvs.map (·.2))) (wipe σ ix) H ρ ∧ dcF ix t ta mk ma (ds.drop (i + 1)) ks ad ρ = some (acc, ρ2), fun H' q => ⟨ds.length - (i + 1), by omega, rfl, q⟩, fun x H6 y => ?_⟩
          obtain ⟨E6, r6⟩ := hy x H6 y
          refine ⟨_, ρ5, d, ρ6, E6, r6, w6, fun σ7 H7 E7 sm => ?_⟩
          have hw7 : wipe σ7 ix = wipe σ ix := wipe_same sm hl (by rw [E7.len, asg_len w6, ← E6.len, wipe_length])
          refine ⟨hw7, ?_⟩
          split at w5
          · rename_i ρ8 w8
            split at w5
            · rename_i xk ρ9 w9
              split at w5
              · rename_i y ρ10 w10
                split at w5
                · rename_i key hkey
                  split at w5
                  · rename_i hsz
                    refine ⟨_, ρ6, true, ρ8, E7, w8, fun H8 E8 => iteT ?_⟩
                    refine ⟨_, ρ8, xk, ρ9, E8, w9, fun vk H9 E9 r9 => ⟨_, ρ9, y, ρ10, E9.push r9, w10, fun vy H10 E10 r10 => ?_⟩⟩
                    obtain ⟨E11, r11⟩ := E10.pop
                    obtain ⟨E12, l12⟩ := E11.popL hlen
                    obtain ⟨pk, pd⟩ := put_ok (k := key) l12 r10
                    refine ⟨kvs, key, Rp.key r11.bo hkey, E12.hd (p, .dK kvs) List.mem_cons_self, ?_, _, _, putK kvs key vy, clr ix ρ10, pk, pd.length, ?_, ?_⟩
                    · rw [sizeLine_eq, length_putK2 hks]
                      exact hsz
                    · exact (E11.acc hlen hen (fun _ _ z => by cases z) hh pd).toBlk hw7
                    · rw [hks]
                      exact w5
                  · cases w5
                · cases w5
              · cases w5
            · cases w5
          · rename_i ρ8 w8
            refine ⟨_, ρ6, false, ρ8, E7, w8, fun H8 E8 => ?_⟩
            refine iteF ?_
            exact ⟨ks, ad, kvs, clr ix ρ8, hks, hlen, E8.toBlk hw7, w5⟩
          · cases w5
    · cases e
  · cases e
theorem co_dc (hc : X.calm = true) (hN : X.N.Nodup) (hi : CI X tg iter pr mi) (ok : BlkOk X.N X.env.scope scope own)
    (hg : ∀ (s : Shared) (H : Hp) (C : Addr) (cl : List (Str × Addr)) (fp : List Addr), CG (X.blk s H scope (compEnvC scope cl C X.env) fp) tg pr t) (ht : ∀ (s : Shared) (H : Hp) (C : Addr) (cl : List (Str × Addr)) (fp : List Addr), CTs (X.blk s H scope (compEnvC scope cl C X.env) fp) ifs ta)
    (hk : ∀ (s : Shared) (H : Hp) (C : Addr) (cl : List (Str × Addr)) (fp : List Addr), CE (X.blk s H scope (compEnvC scope cl C X.env) fp) kx mk)
    (he : ∀ (s : Shared) (H : Hp) (C : Addr) (cl : List (Str × Addr)) (fp : List Addr), CE (X.blk s H scope (compEnvC scope cl C X.env) fp) elt ma) (hl : slIn t ix = true := by rfl) (hix : own.map (·.2) = ix := by rfl) (hs : ∀ x, foldedSetIterable iter X.env x = pure x := by intro _; rfl) :
    CO X (.DictComp kx elt [⟨tg, iter, ifs, 0⟩] scope pos) (mDc mi ix t ta mk ma) := by
  subst hix
  obtain ⟨wi, hpi, hw⟩ := hi
  exact pe_imp (pe_dc (g := tGm X.K pr t) (tt := tTm X.K ta) (tk := tE X.K mk) (tv := tE X.K ma) hc hN hpi ok hg ht hk he hs) fun σ H Q q => te_dc hw (slIn_ok hl) q
theorem sw_trueD {elt kx : Expr} {gs : List Comprehension} {scope : Scope} {pos py : Pos} {y : Str} {l : Nat} {env : Env} (hk : env.scope.kind = .function) (hy : env.scope.names.lookup y = some .local) (hl : (py.line == pos.line) = true)
    (ha : (scope.names.any fun (n, k) => n == y && (k == .local || k == .cell)) = false) : swapsWith (.DictComp kx elt gs scope pos) (some (.Name y py)) l env = pure true := by
  have ky : env.kindOf y = some .local := hy
  have hb : env.blockKind = .function := by unfold Env.blockKind; rw [hk]; rfl
  unfold swapsWith
  simp only [hb, ky, ha, Expr.pos, hl]
  rfl
theorem cs_setDc {y : Str} (i : Nat) (hc : X.calm = true) (hN : X.N.Nodup) (hi : CI X tg iter pr mi) (ok : BlkOk X.N X.env.scope scope own)
    (hg : ∀ (s : Shared) (H : Hp) (C : Addr) (cl : List (Str × Addr)) (fp : List Addr), CG (X.blk s H scope (compEnvC scope cl C X.env) fp) tg pr t) (ht : ∀ (s : Shared) (H : Hp) (C : Addr) (cl : List (Str × Addr)) (fp : List Addr), CTs (X.blk s H scope (compEnvC scope cl C X.env) fp) ifs ta)
    (hk : ∀ (s : Shared) (H : Hp) (C : Addr) (cl : List (Str × Addr)) (fp : List Addr), CE (X.blk s H scope (compEnvC scope cl C X.env) fp) kx mk)
    (he : ∀ (s : Shared) (H : Hp) (C : Addr) (cl : List (Str × Addr)) (fp : List Addr), CE (X.blk s H scope (compEnvC scope cl C X.env) fp) elt ma) (hl : slIn t ix = true := by rfl) (hix : own.map (·.2) = ix := by rfl)
    (hy : X.N[i]? = some y := by rfl) (hyl : X.env.scope.names.lookup y = some .local := by rfl) (hsw : swapsWith (.DictComp kx elt [⟨tg, iter, ifs, 0⟩] scope pos) (some (.Name y py)) spos.line X.env = pure true := by exact sw_trueD rfl rfl rfl rfl) (hs : ∀ x, foldedSetIterable iter X.env x = pure x := by intro _; rfl) :
    CS X (.Assign [.Name y py] (.DictComp kx elt [⟨tg, iter, ifs, 0⟩] scope pos) spos) (mSetO (mDc mi ix t ta mk ma) i) := by
  subst hix
  obtain ⟨wi, hpi, hw⟩ := hi
  refine ps_imp (t := tAsg (tDc wi (tGm X.K pr t) (tTm X.K ta) (tE X.K mk) (tE X.K ma) (own.map (·.2))) (gName i)) ?_ fun Dn σ H q => tset_o (fun Q q => te_dc hw (slIn_ok hl) q) q
  refine ⟨fun pins s σ H D I h => ?_⟩
  rw [exec_Assign_Name_used _ _ _ _ hsw]
  refine wpAny_bind (wpAny_standAt (wpAny_bind ?_))
  show wpAny _ X.A (do let _ ← comprehension (.DictComp kx elt [⟨tg, iter, ifs, 0⟩] scope pos) scope X.env (firstIterPos [⟨tg, iter, ifs, 0⟩] pos) newDict false (eval iter X.env) (some (assign (.Name y py) X.env))) _ _ s
  have h : tDc wi (tGm X.K pr t) (tTm X.K ta) (tE X.K mk) (tE X.K ma) (own.map (·.2)) σ H (fun x H1 => gName i x σ H1 D.nx) := h
  refine wpAny_bind (thn (dc_core (g := tGm X.K pr t) (tt := tTm X.K ta) (tk := tE X.K mk) (tv := tE X.K ma) (Qf := fun _ s' => SP X pins D .next s') hc hN I hpi ok hg ht hk he hs h fun L C s' m H' I' q hn f => ?_) fun _ s' hq => wpAny_pure (wpAny_pure hq))
  show wpAny _ _ (assign (.Name y py) X.env (.ref L)) _ _ _
  refine wpAny_assign_Name (store_ok2 (v := V.ref L) I' hN hy (.inl hyl) rfl (fun s2 I2 ⟨a, sb, ha⟩ => ?_) (.inr hyl))
  obtain ⟨f0, f1, f2, f3, f4, f5⟩ := f
  have haC : C ≠ a := by
    rcases ha with z | z
    · rw [z]; exact f1
    · exact fun e => f4 y a z e.symm
  refine ⟨m, hn.sameBut sb haC, fun h3 sb3 => ?_⟩
  exact ⟨_, H', I2.turned (t' := s2.toks) (fun b o hb e => (sb3.2 b hb).trans e) f0 f1 f3 f4 f5, q⟩
/-! ### name[k] op= e -/
theorem get_list : PGet X (fun x y H Q => ∃ a xs i v, x = .ref a ∧ y = .int i ∧ SqL X.K H a xs ∧ atI xs i = some v ∧ Q v H) := by
  intro pins s σ H x y v u Q I rx ry h
  obtain ⟨p, xs, i, z, rfl, rfl, hq, he, q⟩ := h
  cases rx
  obtain ⟨t, rfl⟩ := ry
  obtain ⟨its, r, pl, hz⟩ := I.list hq
  obtain ⟨j, h1, h2, h3, h4, h5⟩ := atI_get he
  obtain ⟨w, ew, rw'⟩ := r.get h2
  have hl := r.length
  have hn := line63
  have fin : EP X pins σ Q w s := ⟨z, H, I, rw', q⟩
  by_cases h0 : 0 ≤ i
  · have hj : i.toNat = j := by
      rw [seqIndex_of h0 h5] at h1
      exact Option.some.inj h1
    exact wpAny_getItem_list pl.isList h0 (by omega) (by rw [hj]; simpa using ew) fin
  · have hj : (i + (its.toArray.size : Int)).toNat = j := by
      rw [seqIndex_neg (by omega) h4] at h1
      rw [List.size_toArray, ← hl]
      exact Option.some.inj h1
    exact wpAny_getItem_list_neg pl.isList (by omega) (by rw [List.size_toArray] <;> omega) (by omega) (by rw [hj]; simpa using ew) fin
theorem get_dict (hu : X.A.units + 1 < cLine) : PGet X (fun x y H Q => ∃ a v, x = .ref a ∧ DGet H a y (some v) ∧ Q v H) := by
  intro pins s σ H x y v u Q I rx ry h
  obtain ⟨a, w, rfl, g, q⟩ := h
  obtain rfl : v = Value.ref a := rx
  exact d_getItem hu I g ry fun w' s3 I3 rw' => ⟨w, H, I3, rw', q⟩
theorem get_any (hu : X.A.units + 1 < cLine) : PGet X (fun x y H Q => (∃ a xs i v, x = .ref a ∧ y = .int i ∧ SqL X.K H a xs ∧ atI xs i = some v ∧ Q v H) ∨ ∃ a v, x = .ref a ∧ DGet H a y (some v) ∧ Q v H) := by
  intro pins s σ H x y v u Q I rx ry h
  exact h.elim (get_list pins s σ H x y v u Q I rx ry) (get_dict hu pins s σ H x y v u Q I rx ry)
theorem own_get {QQ : V → Prop} (ho : OwAt K Xx H a o) (rk : Rp K Xx H y vy) (h : dIx o.d y = some z) (q : ∀ v, Rp K Xx H z v → QQ v) :
    (∃ p xs i v, V.ref a = .ref p ∧ vy = .int i ∧ SqL K H p xs ∧ atI xs i = some v ∧ QQ v) ∨ ∃ b v, V.ref a = .ref b ∧ DGet H b vy (some v) ∧ QQ v := by
  cases o with
  | lst ds =>
    obtain ⟨vs, h1, l⟩ := ho
    cases y with
    | int i =>
      obtain ⟨v, e, r⟩ := l.at_ (show dAt ds i = some z from h)
      rw [rk.bo.int]
      exact .inl ⟨a, vs, i, v, rfl, rfl, .inl (.inl h1), e, q v r⟩
    | _ => cases h
  | dct ks ds =>
    obtain ⟨kvs, h1, e3, l⟩ := ho
    have h : (keyOf y).bind (fun k => lk ks ds k) = some z := by
      cases y <;> exact h
    obtain ⟨k, e1, e2⟩ := Option.bind_eq_some_iff.mp h
    rw [← e3] at e2
    obtain ⟨v, e4, r⟩ := lk_val l e2
    exact .inr ⟨a, v, rfl, .inl ⟨kvs, k, .inl h1, Rp.key rk.bo e1, e4.symm⟩, q v r⟩
/-- the name, the place, what stands there, e, the store -/
def mAugIx (i : Nat) (mk : Mm D) (m : Mm D) (f : D → D → Option D) : Ms := fun ρ => match getO i ρ with
  | some _ => match mk ρ with
    | some (k, ρ1) => match getO i ρ1 with
      | some o1 => match dIx o1.d k with
        | some x => match m ρ1 with
          | some (y, ρ2) => match f x y with
            | some z => match getO i ρ2 with
              | some o => match setO o k z with
                | some o2 => some (.nx, putO i o2 ρ2)
                | none => none
              | none => none
            | none => none
          | none => none
        | none => none
      | none => none
    | none => none
  | none => none
theorem cs_augIx {op : Operator} {g : D → D → Option D} (i : Nat) (hu : X.A.units + 1 < cLine) (hk : CE X e2 mk) (h : CE X e1 ma) (hp : HasP X op g) (hN : X.N[i]? = some nx := by rfl) (hv : Vis X.env.scope nx := by first | exact Or.inl rfl | exact Or.inr (Or.inl rfl) | exact Or.inr (Or.inr rfl))
    (hd : (nx == ("__debug__" : Str)) = false := by decide) (hcd : (nx == ("__classdict__" : Str)) = false := by decide)
    (ha : ∀ ov iv new, augStore e2 ov iv new = (do holding [new, ov, iv] (setItem ov iv new); release [new, ov, iv] []; pure .next) := by intros; rfl) :
    CS X (.AugAssign (.Subscript (.Name nx p1) e2 p2) op e1 pos) (mAugIx i mk ma g) := by
  obtain ⟨r, po, w⟩ := hp
  refine ps_imp (ps_augS (pe_var (i := i) hN hv hd hcd) hk (get_any hu) h po (set_any hu) ha) fun Dn σ H q => ?_
  obtain ⟨c, ρ, f, ρ', E, e, k⟩ := q
  unfold mAugIx at e
  split at e
  · rename_i o0 w0
    split at e
    · rename_i kd ρ1 w1
      split at e
      · rename_i o1 w2
        split at e
        · rename_i x w3
          split at e
          · rename_i y ρ2 w4
            split at e
            · rename_i z w5
              split at e
              · rename_i o w6
                split at e
                · rename_i o2 w7
                  cases e
                  obtain ⟨a, own0, _⟩ := getO_own E w0
                  refine ⟨.ref a, own0.1, c, ρ, kd, ρ1, E, w1, fun vk H1 E1 rk => ?_⟩
                  obtain ⟨a1, own1, ho1⟩ := getO_own E1 w2
                  have ea := own_eq own0 own1
                  subst ea
                  have fin : ∀ vx, Rp X.K (Xo c σ ρ1) H1 x vx → tE X.K ma σ H1 fun y H4 => r vx y H4 fun z H5 => rSetL (.ref a1) vk z H5 (fun H6 => Dn.nx σ H6) ∨ ∃ b H6, V.ref a1 = .ref b ∧ DPut H5 b vk z H6 ∧ Dn.nx σ H6 := fun vx rx =>
                    ⟨(c.push kd vk).push x vx, ρ1, y, ρ2, (E1.push rk).push rx, w4, fun vy H4 E4 ry => w (c.push kd vk) σ H4 ρ2 x y z vx vy _ E4.pop.1 E4.pop.2.bo ry.bo w5 fun vz H5 E5 rz => by
                      obtain ⟨E6, rk6⟩ := E5.pop
                      obtain ⟨a2, own2, ho2⟩ := getO_own E6 w6
                      have ea := own_eq own0 own2
                      subst ea
                      exact setO_ok E6 own2 ho2 rk6 rz w7 fun H' E' => k σ H' E'⟩
                  exact own_get ho1 rk w3 fin
                · cases e
              · cases e
            · cases e
          · cases e
        · cases e
      · cases e
    · cases e
  · cases e
end
end DL

set_option Elab.async false
set_option linter.all false
set_option maxRecDepth 100000
namespace DL
open PySem PySem.Spec PyProof.Rows L2

section
variable {X : Cx} {K : PySem.W.Frag} {c c' : Fx} {σ σ2 : Sg} {H H' : Hp} {ρ ρ' ρ3 : En} {i j : Nat} {a p : Addr} {o : Ow} {d x y z : D} {v vx vy : V} {Q : VK} {ds : List D} {vs us : List V} {Xx : AP} {Dn : Ends} {ix : List Nat}
variable {tg iter e1 e2 e3 : Expr} {es : List Expr} {oa ob : Opd} {pos np apos cpos p1 p2 tpos spos py kpos : Pos} {nm nx ny : Str} {bid : String} {ma mb mk : Mm D} {ta tb : Mm Bool} {st st2 : Stmt} {sts sts2 : List Stmt} {sa sb : Ms} {pr : Bool} {t : Tg} {ts : List Tg} {mi : Mm (List D)}
/-! ### the slots behind a change of the heap -/
theorem ER.move (E : ER K c σ H ρ) (hl : ρ'.length = ρ.length) (hv : ∀ (j : Nat) (d : D), ρ'[j]? = some (.va d) → ρ[j]? = some (.va d))
    (how : ∀ (j : Nat) (o : Ow), ρ'[j]? = some (.ow o) → (∃ o0, ρ[j]? = some (.ow o0)) ∧ ∀ a, σ[j]? = some (some (.ref a)) → OwAt K (Xo c σ ρ) H' a o)
    (hio : ∀ (j : Nat) (o : Ow), ρ'[j]? = some (.io o) → (∃ o0, ρ[j]? = some (.io o0)) ∧ ∀ a, σ[j]? = some (some (.ref a)) → OwAt K (Xo c σ ρ) H' a o)
    (kr : Kp (Xo c σ ρ) H H') (fr : ∀ b o, c.He b = some o → c.ioa ≠ some b → Still c.X0 b o H') (fz : ∀ l ∈ c.fz, H' l.1 = some (.frz l.2.1 (.dK l.2.2))) (hd : ∀ l ∈ c.hd, H' l.1 = some l.2)
    (kn : ∀ b, H b ≠ none → H' b ≠ none) : ER K c σ H' ρ' := by
  have ow : ∀ j a, OwnAt σ ρ' j a → OwnAt σ ρ j a := fun j a q => by
    obtain ⟨e, o, q⟩ := q
    rcases q with q | q
    · obtain ⟨⟨o0, h⟩, _⟩ := how j o q
      exact ⟨e, o0, .inl h⟩
    · obtain ⟨⟨o0, h⟩, _⟩ := hio j o q
      exact ⟨e, o0, .inr h⟩
  have xx : ∀ a, Xo c σ ρ' a → Xo c σ ρ a := fun a h => by
    rcases h with h | ⟨j, h⟩
    · exact .inl h
    · exact .inr ⟨j, ow j a h⟩
  refine ⟨by rw [hl]; exact E.len, fun j d q => ?_, fun j o q => ?_, fun j o q => ?_, fun j k a h1 h2 => E.inj j k a (ow j a h1) (ow k a h2), fr, fz, hd, fun b h => kn _ (E.iot b h), fun b h => kn _ (E.x0 b h), fun q hq => (E.tmp q hq).keep xx kr⟩
  · obtain ⟨v, e, r⟩ := E.va j d (hv j d q)
    exact ⟨v, e, r.keep xx kr⟩
  · obtain ⟨⟨o0, h⟩, g⟩ := how j o q
    obtain ⟨a, e, _, n⟩ := E.ow j o0 h
    exact ⟨a, e, (g a e).keep xx Kp.refl (fun _ z => z), n⟩
  · obtain ⟨⟨o0, h⟩, g⟩ := hio j o q
    obtain ⟨a, e, _, n⟩ := E.io j o0 h
    exact ⟨a, e, (g a e).keep xx Kp.refl (fun _ z => z), n⟩
/-- what a callee leaves: all that stood, but the in-out thing; what the caller shuts out to the letter -/
def Aft (Xx : AP) (ioa : Option Addr) (H H' : Hp) : Prop := ∀ b o, H b = some o → ioa ≠ some b → Still (fun a => Xx a ∧ ioa ≠ some a) b o H'
theorem Aft.exact {ioa : Option Addr} (f : Aft Xx ioa H H') {b : Addr} {u : HO} (h : H b = some u) (x : Xx b) (n : ioa ≠ some b) : H' b = some u := by
  rcases f b u h n with q | ⟨q, _⟩
  · exact q
  · exact absurd ⟨x, n⟩ q
theorem Aft.kp {ioa : Option Addr} (f : Aft Xx ioa H H') (hx : ∀ a, ioa = some a → Xx a) : Kp Xx H H' := by
  refine ⟨fun b u pl q n => ?_, fun b ob vs q n => ?_⟩
  · have hn : ioa ≠ some b := fun z => n (hx b z)
    rcases q with q | ⟨w, q⟩
    · rcases f b u q hn with q2 | ⟨_, ob, kvs, e, q2⟩
      · exact .inl q2
      · subst e
        exact .inr ⟨ob, q2⟩
    · rcases f b _ q hn with q | ⟨_, ob, kvs, e, _⟩
      · exact .inr ⟨w, q⟩
      · cases e
  · rcases f b _ q (fun z => n (hx b z)) with q | ⟨_, ob, kvs, e, _⟩
    · exact q
    · cases e
theorem Aft.there {ioa : Option Addr} (f : Aft Xx ioa H H') (hi : ∀ a, ioa = some a → H' a ≠ none) : ∀ b, H b ≠ none → H' b ≠ none := fun b h => by
  by_cases hb : ioa = some b
  · exact hi b hb
  · cases e : H b with
    | none => exact absurd e h
    | some u => exact (f b u e hb).there
/-- nothing handed to be changed -/
theorem ER.aft (E : ER K c σ H ρ) (f : Aft (Xo c σ ρ) none H H') : ER K c σ H' ρ := by
  have hx : ∀ a, none = some a → Xo c σ ρ a := fun a z => by cases z
  have kr := f.kp hx
  refine E.move rfl (fun j d h => h) (fun j o h => ⟨⟨o, h⟩, fun a ha => ?_⟩) (fun j o h => ⟨⟨o, h⟩, fun a ha => ?_⟩) kr (fun b o h1 h2 => ?_) (fun l hl => ?_) (fun l hl => f.exact (E.hd l hl) (.inl (c.hx l hl)) (by simp)) (f.there fun a z => by cases z)
  · obtain ⟨b, e, r, _⟩ := E.ow j o h
    rw [ha] at e
    cases e
    exact r.keep (fun _ z => z) kr fun u hu => f.exact hu (.inr ⟨j, ha, o, .inl h⟩) (by simp)
  · obtain ⟨b, e, r, _⟩ := E.io j o h
    rw [ha] at e
    cases e
    exact r.keep (fun _ z => z) kr fun u hu => f.exact hu (.inr ⟨j, ha, o, .inr h⟩) (by simp)
  · rcases E.fr b o h1 h2 with q | ⟨n, ob, kvs, e, q⟩
    · rcases f b o q (by simp) with q | ⟨n, q⟩
      · exact .inl q
      · exact .inr ⟨fun z => n ⟨.inl z, by simp⟩, q⟩
    · rcases f b _ q (by simp) with q | ⟨_, ob', kvs', z, _⟩
      · exact .inr ⟨n, ob, kvs, e, q⟩
      · cases z
  · rcases f l.1 _ (E.fz l hl) (by simp) with q | ⟨_, ob', kvs', z, _⟩
    · exact q
    · cases z
/-- the thing of slot i handed to be changed -/
theorem ER.aftIo (E : ER K c σ H ρ) (own : OwnAt σ ρ i a) (f : Aft (Xo c σ ρ) (some a) H H') (ho : OwAt K (Xo c σ ρ) H' a o) : ER K c σ H' (putO i o ρ) := by
  have hx : ∀ b, some a = some b → Xo c σ ρ b := fun b z => by cases z; exact .inr ⟨i, own⟩
  have kr := f.kp hx
  have nx : ¬ c.X0 a := (E.own own).choose_spec.2.2
  have hne : ∀ j o2 b, (ρ[j]? = some (.ow o2) ∨ ρ[j]? = some (.io o2)) → σ[j]? = some (some (.ref b)) → j ≠ i → some a ≠ some b := fun j o2 b h hs hj z => by
    cases z
    exact hj (E.inj j i a ⟨hs, o2, h⟩ own)
  have hi : i < ρ.length := by
    obtain ⟨_, o2, h | h⟩ := own <;> exact (List.getElem?_eq_some_iff.mp h).1
  have hdich : ((ρ.getD i .no).put o = .ow o ∧ ∃ o0, ρ[i]? = some (.ow o0)) ∨ ((ρ.getD i .no).put o = .io o ∧ ∃ o0, ρ[i]? = some (.io o0)) := by
    rw [List.getD_eq_getElem?_getD]
    obtain ⟨_, o2, h | h⟩ := own
    · exact .inl ⟨by rw [h]; rfl, o2, h⟩
    · exact .inr ⟨by rw [h]; rfl, o2, h⟩
  unfold putO
  refine E.move (by rw [List.length_set]) (fun j d h => ?_) (fun j o2 h => ?_) (fun j o2 h => ?_) kr (fun b o h1 h2 => ?_) (fun l hl => ?_) (fun l hl => f.exact (E.hd l hl) (.inl (c.hx l hl)) fun z => nx (by cases z; exact c.hx l hl)) (f.there fun b z => by cases z; exact ho.there)
  · by_cases hj : j = i
    · subst hj
      rw [get_set_eq hi] at h
      rcases hdich with ⟨z, _⟩ | ⟨z, _⟩ <;> (rw [z] at h; cases h)
    · rw [get_set_ne hj] at h
      exact h
  · by_cases hj : j = i
    · subst hj
      rw [get_set_eq hi] at h
      rcases hdich with ⟨z, z2⟩ | ⟨z, z2⟩
      · rw [z] at h
        cases h
        refine ⟨z2, fun b hb => ?_⟩
        rw [own.1] at hb
        cases hb
        exact ho
      · rw [z] at h
        cases h
    · rw [get_set_ne hj] at h
      refine ⟨⟨o2, h⟩, fun b hb => ?_⟩
      obtain ⟨b', e, r, _⟩ := E.ow j o2 h
      rw [hb] at e
      cases e
      exact r.keep (fun _ z => z) kr fun u hu => f.exact hu (.inr ⟨j, hb, o2, .inl h⟩) (hne j o2 b (.inl h) hb hj)
  · by_cases hj : j = i
    · subst hj
      rw [get_set_eq hi] at h
      rcases hdich with ⟨z, z2⟩ | ⟨z, z2⟩
      · rw [z] at h
        cases h
      · rw [z] at h
        cases h
        refine ⟨z2, fun b hb => ?_⟩
        rw [own.1] at hb
        cases hb
        exact ho
    · rw [get_set_ne hj] at h
      refine ⟨⟨o2, h⟩, fun b hb => ?_⟩
      obtain ⟨b', e, r, _⟩ := E.io j o2 h
      rw [hb] at e
      cases e
      exact r.keep (fun _ z => z) kr fun u hu => f.exact hu (.inr ⟨j, hb, o2, .inr h⟩) (hne j o2 b (.inr h) hb hj)
  · have hb : some a ≠ some b := fun z => by
      cases z
      obtain ⟨e, o2, h | h⟩ := own
      · obtain ⟨b', e', _, _, n2⟩ := E.ow i o2 h
        rw [e] at e'
        cases e'
        rw [n2] at h1
        cases h1
      · obtain ⟨b', e', _, _, n2⟩ := E.io i o2 h
        rw [e] at e'
        cases e'
        exact h2 n2
    rcases E.fr b o h1 h2 with q | ⟨n, ob, kvs, e, q⟩
    · rcases f b o q hb with q | ⟨n, q⟩
      · exact .inl q
      · exact .inr ⟨fun z => n ⟨.inl z, hb⟩, q⟩
    · rcases f b _ q hb with q | ⟨_, ob', kvs', z, _⟩
      · exact .inr ⟨n, ob, kvs, e, q⟩
      · cases z
  · have hb : some a ≠ some l.1 := fun z => by
      cases z
      obtain ⟨o2, _, r, _⟩ := E.own own
      have q := E.fz l hl
      cases o2 with
      | lst ds => obtain ⟨_, e, _⟩ := r; rw [q] at e; cases e
      | dct ks ds => obtain ⟨_, e, _⟩ := r; rw [q] at e; cases e
    rcases f l.1 _ (E.fz l hl) hb with q | ⟨_, ob', kvs', z, _⟩
    · exact q
    · cases z
/-! ### what a def promises -/
inductive Rs where
  | va (d : D)
  | ow (o : Ow)
abbrev Fm := List Sl → Option (Rs × Option Ow)
def Sh (X0 : AP) (ioa : Option Addr) : AP := fun b => X0 b ∨ ioa = some b
structure PRep (K : PySem.W.Frag) (X0 : AP) (ioa : Option Addr) (H : Hp) (ps : List Sl) (vs : List V) : Prop where
  len : vs.length = ps.length
  va : ∀ (i : Nat) (d : D), ps[i]? = some (.va d) → ∃ v, vs[i]? = some v ∧ Rp K (Sh X0 ioa) H d v
  io : ∀ (i : Nat) (o : Ow), ps[i]? = some (.io o) → ∃ a, vs[i]? = some (.ref a) ∧ ioa = some a ∧ OwAt K (Sh X0 ioa) H a o ∧ ¬ X0 a
  ow : ∀ (i : Nat) (o : Ow), ps[i]? ≠ some (.ow o)
  one : ∀ (i j : Nat) (o o' : Ow), ps[i]? = some (.io o) → ps[j]? = some (.io o') → i = j
  ioa : ∀ a, ioa = some a → ∃ (i : Nat) (o : Ow), ps[i]? = some (.io o)
def Post (K : PySem.W.Frag) (X0 : AP) (ioa : Option Addr) (H : Hp) (oo : Option Ow) (Q : VK) : Rs → Prop
  | .va d => ∀ H' v, (∀ b o, H b = some o → ioa ≠ some b → Still X0 b o H') → (∀ a, ioa = some a → ∃ o', oo = some o' ∧ OwAt K (Sh X0 ioa) H' a o') → Rp K (Sh X0 ioa) H' d v → Q v H'
  | .ow o => ∀ H' p, (∀ b o, H b = some o → ioa ≠ some b → Still X0 b o H') → (∀ a, ioa = some a → ∃ o', oo = some o' ∧ OwAt K (fun b => Sh X0 ioa b ∨ b = p) H' a o') → H p = none → OwAt K (fun b => Sh X0 ioa b ∨ b = p) H' p o → Q (.ref p) H'
def spM (K : PySem.W.Frag) (n : Nat) (fm : Fm) : Sp := fun vs H Q _ => vs.length = n ∧ ∃ X0 ioa ps r oo, PRep K X0 ioa H ps vs ∧ (∀ a, X0 a → H a ≠ none) ∧ fm ps = some (r, oo) ∧ Post K X0 ioa H oo Q r
def ioIx : List Sl → Option Nat
  | [] => none
  | .io _ :: _ => some 0
  | _ :: ps => (ioIx ps).map (· + 1)
theorem ioIx_some : ∀ {ps : List Sl} {i : Nat}, ioIx ps = some i → ∃ o, ps[i]? = some (.io o)
  | [], _, h => by cases h
  | .io o :: _, _, h => by cases h; exact ⟨o, rfl⟩
  | .no :: ps, i, h => by
    unfold ioIx at h
    obtain ⟨j, h1, rfl⟩ := Option.map_eq_some_iff.mp h
    obtain ⟨o, h2⟩ := ioIx_some h1
    exact ⟨o, by simpa using h2⟩
  | .va _ :: ps, i, h => by
    unfold ioIx at h
    obtain ⟨j, h1, rfl⟩ := Option.map_eq_some_iff.mp h
    obtain ⟨o, h2⟩ := ioIx_some h1
    exact ⟨o, by simpa using h2⟩
  | .ow _ :: ps, i, h => by
    unfold ioIx at h
    obtain ⟨j, h1, rfl⟩ := Option.map_eq_some_iff.mp h
    obtain ⟨o, h2⟩ := ioIx_some h1
    exact ⟨o, by simpa using h2⟩
theorem ioIx_none : ∀ {ps : List Sl}, ioIx ps = none → ∀ (i : Nat) (o : Ow), ps[i]? ≠ some (.io o)
  | [], _, i, o, z => by simp at z
  | .io _ :: _, h, _, _, _ => by cases h
  | .no :: ps, h, i, o, z => by
    unfold ioIx at h
    have h := Option.map_eq_none_iff.mp h
    cases i with
    | zero => simp at z
    | succ i => exact ioIx_none h i o (by simpa using z)
  | .va _ :: ps, h, i, o, z => by
    unfold ioIx at h
    have h := Option.map_eq_none_iff.mp h
    cases i with
    | zero => simp at z
    | succ i => exact ioIx_none h i o (by simpa using z)
  | .ow _ :: ps, h, i, o, z => by
    unfold ioIx at h
    have h := Option.map_eq_none_iff.mp h
    cases i with
    | zero => simp at z
    | succ i => exact ioIx_none h i o (by simpa using z)
def ioOut (ps : List Sl) (ρ : En) (r : Rs) : Option (Rs × Option Ow) := match ioIx ps with
  | none => some (r, none)
  | some i => match ρ[i]? with
    | some (.io o) => some (r, some o)
    | _ => none
theorem ioOut_io {ps : List Sl} {r r' : Rs} {oo : Option Ow} {X0 : AP} {ioa : Option Addr} {vs : List V} {H0 : Hp} (P : PRep K X0 ioa H0 ps vs) (h : ioOut ps ρ r = some (r', oo)) : r' = r ∧ ∀ a, ioa = some a → ∃ (i : Nat) (o' : Ow), oo = some o' ∧ ρ[i]? = some (Sl.io o') := by
  unfold ioOut at h
  split at h
  · rename_i w
    cases h
    refine ⟨rfl, fun a ha => ?_⟩
    obtain ⟨i, o, h1⟩ := P.ioa a ha
    exact absurd h1 (ioIx_none w i o)
  · rename_i i w
    split at h
    · rename_i o w2
      cases h
      exact ⟨rfl, fun a ha => ⟨i, o, rfl, w2⟩⟩
    · cases h
def runF (n : Nat) (b : Ms) : Fm := fun ps => match b (ps ++ List.replicate (n - ps.length) .no) with
  | some (.nx, ρ) => ioOut ps ρ (.va .non)
  | some (.rv d, ρ) => ioOut ps ρ (.va d)
  | some (.ro o, ρ) => ioOut ps ρ (.ow o)
  | _ => none
def fx0 (X0 : AP) (H : Hp) (ioa : Option Addr) : Fx := ⟨X0, H, ioa, [], [], [], fun l h => by cases h⟩
theorem get_app_no {ps : List Sl} {n : Nat} {s : Sl} (h : (ps ++ List.replicate n .no)[i]? = some s) (hs : s ≠ .no) : ps[i]? = some s := by
  by_cases hi : i < ps.length
  · rw [List.getElem?_append_left hi] at h
    exact h
  · rw [List.getElem?_append_right (by omega), List.getElem?_replicate] at h
    split at h
    · cases h
      exact absurd rfl hs
    · cases h
theorem start_get {N : List Str} {vs : List V} {v : V} (h : vs[i]? = some v) : (L2.start N vs)[i]? = some (some v) := by
  have hi := (List.getElem?_eq_some_iff.mp h).1
  unfold L2.start
  rw [List.getElem?_append_left (by rw [List.length_map]; exact hi), List.getElem?_map, h]
  rfl
theorem er_start {N : List Str} {X0 : AP} {ioa : Option Addr} {ps : List Sl} (P : PRep K X0 ioa H ps vs) (hx : ∀ a, X0 a → H a ≠ none) : ER K (fx0 X0 H ioa) (L2.start N vs) H (ps ++ List.replicate (N.length - ps.length) .no) := by
  have own : ∀ j a, OwnAt (L2.start N vs) (ps ++ List.replicate (N.length - ps.length) .no) j a → ioa = some a ∧ ∃ o, ps[j]? = some (.io o) := fun j a h => by
    obtain ⟨e, o, h⟩ := h
    rcases h with h | h
    · exact absurd (get_app_no h (by simp)) (P.ow j o)
    · have h := get_app_no h (by simp)
      obtain ⟨b, e2, h2, _⟩ := P.io j o h
      rw [start_get e2] at e
      cases e
      exact ⟨h2, o, h⟩
  have xx : ∀ a, Xo (fx0 X0 H ioa) (L2.start N vs) (ps ++ List.replicate (N.length - ps.length) .no) a → Sh X0 ioa a := fun a h => by
    rcases h with h | ⟨j, h⟩
    · exact .inl h
    · exact .inr (own j a h).1
  refine ⟨?_, fun j d h => ?_, fun j o h => ?_, fun j o h => ?_, fun j k a h1 h2 => ?_, fun b o h1 h2 => .inl h1, (fun l h => by cases h), (fun l h => by cases h), fun a h => ?_, hx, (fun q h => by cases h)⟩
  · unfold L2.start
    rw [List.length_append, List.length_append, List.length_map, List.length_replicate, List.length_replicate, P.len]
  · obtain ⟨v, e, r⟩ := P.va j d (get_app_no h (by simp))
    exact ⟨v, start_get e, r.keep xx Kp.refl⟩
  · exact absurd (get_app_no h (by simp)) (P.ow j o)
  · obtain ⟨b, e, h2, r, n⟩ := P.io j o (get_app_no h (by simp))
    exact ⟨b, start_get e, r.keep xx Kp.refl (fun _ z => z), n, h2⟩
  · obtain ⟨_, o, g⟩ := own j a h1
    obtain ⟨_, o', g'⟩ := own k a h2
    exact P.one j k o o' g g'
  · have h : ioa = some a := h
    obtain ⟨i, o, g⟩ := P.ioa a h
    obtain ⟨b, _, e, r, _⟩ := P.io i o g
    rw [h] at e
    cases e
    exact r.there
theorem io_of {X0 : AP} {H0 : Hp} {ioa : Option Addr} (E : ER K (fx0 X0 H0 ioa) σ H' ρ) (h : ρ[i]? = some (.io o)) : ∃ a, ioa = some a ∧ OwnAt σ ρ i a ∧ OwAt K (Xo (fx0 X0 H0 ioa) σ ρ) H' a o := by
  obtain ⟨a, e, r, _, n⟩ := E.io i o h
  exact ⟨a, n, ⟨e, o, .inr h⟩, r⟩
theorem fnM {P : Program} {w : World} {mg : Str → Option Value} {base : Heap} {x qual : Str} {params : Arguments} {body : List Stmt} {scope : Scope} {f : Addr} {fd : FuncData} {N ps : List Str} {k : Nat} {m : Ms}
    (F : FunD K x qual params body scope [] [] f fd) (S : FnScope N ps scope)
    (hb : ∀ (cdv : Value) (A : Around) (outer : List Env) (s : Shared) (H : Hp) (E : XK), Room k (A.deeper (envOfC qual scope s.heap.objs.size f cdv)) → CSs (cxOf CX0 P w K mg base N qual scope f cdv A outer s H E).nox body m) :
    FnOk P w K mg base CX0 (k + 1) f fd ps (spM K ps.length (runF N.length m)) := by
  refine F.ok S (fun vs H Q E h => h.1) fun cdv A outer s H vs Q E hr h => ⟨_, PSs.nox (hb cdv A outer s H E hr), ?_⟩
  obtain ⟨hn, X0, ioa, qs, r, oo, P, hx, hm, post⟩ := h
  have E0 := er_start (N := N) P hx
  have shX : ∀ {σ' : Sg} {H' : Hp} {ρ' : En} {i : Nat} {a : Addr} {o' : Ow}, ER K (fx0 X0 H ioa) σ' H' ρ' → (∀ a, ioa = some a → ∃ (i : Nat) (o' : Ow), oo = some o' ∧ ρ'[i]? = some (Sl.io o')) → ∀ b, Sh X0 ioa b → Xo (fx0 X0 H ioa) σ' ρ' b := fun {σ' H' ρ' i a o'} E hio b hb => by
    rcases hb with hb | hb
    · exact .inl hb
    · obtain ⟨i, o', _, h2⟩ := hio b hb
      obtain ⟨a, e, own, _⟩ := io_of E h2
      rw [hb] at e
      cases e
      exact .inr ⟨i, own⟩
  have fin : ∀ {d : D} {ρ' : En}, ioOut qs ρ' (.va d) = some (r, oo) → ∀ σ' H' v, ER K (fx0 X0 H ioa) σ' H' ρ' → Rp K (Xo (fx0 X0 H ioa) σ' ρ') H' d v → Q v H' := fun {d ρ'} ho σ' H' v E' rv => by
    obtain ⟨rfl, hio⟩ := ioOut_io P ho
    refine post H' v E'.fr (fun a ha => ?_) (rv.keep (shX (i := 0) (a := 0) (o' := .lst []) E' hio) Kp.refl)
    obtain ⟨i, o', h1, h2⟩ := hio a ha
    obtain ⟨b, e, own, ro⟩ := io_of E' h2
    rw [ha] at e
    cases e
    exact ⟨o', h1, ro.keep (shX (i := 0) (a := 0) (o' := .lst []) E' hio) Kp.refl (fun _ z => z)⟩
  unfold runF at hm
  split at hm
  · rename_i ρ' w1
    exact ⟨_, _, .nx, ρ', E0, w1, fun σ' H' E' => fin hm σ' H' .non E' .non⟩
  · rename_i d ρ' w1
    exact ⟨_, _, .rv d, ρ', E0, w1, fun σ' H' v E' rv => fin hm σ' H' v E' rv⟩
  · rename_i o ρ' w1
    obtain ⟨rfl, hio⟩ := ioOut_io P hm
    refine ⟨_, _, .ro o, ρ', E0, w1, fun σ' H' p E' ho np nx => ?_⟩
    have E2 := E'.unex
    have sh : ∀ b, (Sh X0 ioa b ∨ b = p) → Xo ((fx0 X0 H ioa).ex p) σ' ρ' b := fun b hb => by
      rcases hb with hb | hb
      · exact (shX (i := 0) (a := 0) (o' := .lst []) E2 hio b hb).ex
      · exact .inl (.inr hb)
    refine post H' p E2.fr (fun a ha => ?_) np (ho.keep sh Kp.refl fun _ z => z)
    obtain ⟨i, o', h1, h2⟩ := hio a ha
    obtain ⟨b, e, ro, _, n⟩ := E'.io i o' h2
    have n : ioa = some b := n
    rw [ha] at n
    cases n
    exact ⟨o', h1, ro.keep sh Kp.refl fun _ z => z⟩
  · cases hm
end
end DL

set_option Elab.async false
set_option linter.all false
set_option maxRecDepth 100000
namespace DL
open PySem PySem.Spec PyProof.Rows L2

section
variable {X : Cx} {K : PySem.W.Frag} {c c' : Fx} {σ σ2 : Sg} {H H' : Hp} {ρ ρ' ρ3 : En} {i j : Nat} {a p : Addr} {o : Ow} {d x y z : D} {v vx vy : V} {Q : VK} {ds : List D} {vs us : List V} {Xx : AP} {Dn : Ends} {ix : List Nat}
variable {e1 e2 e3 : Expr} {es : List Expr} {pos np apos cpos p1 p2 tpos spos py kpos : Pos} {nm nx ny : Str} {bid : String} {ma mb mk : Mm D} {kws : List Keyword} {kn : Option Str}
/-- an argument: a value, or the own thing of a slot, to be changed -/
inductive Ar where
  | v (m : Mm D)
  | o (i : Nat)
abbrev Sm := Sum D Nat
def aR : List Ar → Mm (List Sm)
  | [] => ret []
  | .v m :: as => bd m fun x => bd (aR as) fun xs => ret (.inl x :: xs)
  | .o i :: as => fun ρ => match getO i ρ with
    | some _ => bd (aR as) (fun xs => ret (.inr i :: xs)) ρ
    | none => none
def ArL (K : PySem.W.Frag) (Xx : AP) (H : Hp) (σ : Sg) : List Sm → List V → Prop
  | [], vs => vs = []
  | .inl d :: xs, vs => ∃ v ws, vs = v :: ws ∧ Rp K Xx H d v ∧ ArL K Xx H σ xs ws
  | .inr i :: xs, vs => ∃ v ws, vs = v :: ws ∧ σ[i]? = some (some v) ∧ ArL K Xx H σ xs ws
def tAr (K : PySem.W.Frag) (as : List Ar) : TA := fun σ H Q => ∃ c ρ xs ρ', ER K c σ H ρ ∧ aR as ρ = some (xs, ρ') ∧ ∀ vs H', ER K c σ H' ρ' → ArL K (Xo c σ ρ') H' σ xs vs → Q vs H'
def CR (X : Cx) (es : List Expr) (as : List Ar) : Prop := PA X es (tAr X.K as)
def CK (X : Cx) (kws : List Keyword) (as : List Ar) : Prop := PK X kws (tAr X.K as)
theorem pk_imp {t t' : TA} (h : PK X kws t) (w : ∀ σ H Q, t' σ H Q → t σ H Q) : PK X kws t' := ⟨fun pos pins s σ H Q I q => h.run pos pins s σ H Q I (w σ H Q q)⟩
theorem tar_nil {Q : List V → Hp → Prop} (q : tAr K [] σ H Q) : tNil σ H Q := by
  obtain ⟨c, ρ, xs, ρ', E, e, k⟩ := q
  cases e
  exact k [] H E rfl
theorem tar_v {as : List Ar} {Q : List V → Hp → Prop} (q : tAr K (.v ma :: as) σ H Q) : tCons (tE K ma) (tAr K as) σ H Q := by
  obtain ⟨c, ρ, xs, ρ', E, e, k⟩ := q
  unfold aR at e
  obtain ⟨x, ρ1, e1, f1⟩ := bd_some e
  obtain ⟨ys, ρ2, e2, f2⟩ := bd_some f1
  cases f2
  exact ⟨c, ρ, x, ρ1, E, e1, fun v H1 E1 r => ⟨c.push x v, ρ1, ys, _, E1.push r, e2, fun ws H2 E2 l => k _ _ E2.pop.1 ⟨v, ws, rfl, E2.pop.2, l⟩⟩⟩
theorem tar_o {as : List Ar} {Q : List V → Hp → Prop} (q : tAr K (.o i :: as) σ H Q) : tCons (tVar i) (tAr K as) σ H Q := by
  obtain ⟨c, ρ, xs, ρ', E, e, k⟩ := q
  unfold aR at e
  split at e
  · rename_i o w
    obtain ⟨a, own, _⟩ := getO_own E w
    obtain ⟨ys, ρ2, e2, f2⟩ := bd_some e
    cases f2
    exact ⟨_, own.1, c, ρ, ys, _, E, e2, fun ws H2 E2 l => k _ _ E2 ⟨_, ws, rfl, own.1, l⟩⟩
  · cases e
theorem cr_nil : CR X [] [] := pa_imp pa_nil fun _ _ _ => tar_nil
theorem cr_v {as : List Ar} (h : CE X e1 ma) (h2 : CR X es as) (hs : starEach (e1 :: es) X.env = (false, eval e1 X.env) :: starEach es X.env := by rfl) : CR X (e1 :: es) (.v ma :: as) := pa_imp (pa_cons h h2 hs) fun _ _ _ => tar_v
theorem cr_o {as : List Ar} (i : Nat) (h2 : CR X es as) (hN : X.N[i]? = some nx := by rfl) (hv : Vis X.env.scope nx := by first | exact Or.inl rfl | exact Or.inr (Or.inl rfl) | exact Or.inr (Or.inr rfl))
    (hd : (nx == ("__debug__" : Str)) = false := by decide) (hcd : (nx == ("__classdict__" : Str)) = false := by decide)
    (hs : starEach (.Name nx pos :: es) X.env = (false, eval (.Name nx pos) X.env) :: starEach es X.env := by rfl) : CR X (.Name nx pos :: es) (.o i :: as) := pa_imp (pa_cons (pe_var (i := i) hN hv hd hcd) h2 hs) fun _ _ _ => tar_o
theorem ck_nil : CK X [] [] := pk_imp pk_nil fun _ _ _ => tar_nil
theorem ck_v {as : List Ar} (h : CE X e1 ma) (h2 : CK X kws as) : CK X (⟨kn, e1, kpos⟩ :: kws) (.v ma :: as) := pk_imp (pk_cons h h2) fun _ _ _ => tar_v
theorem ck_o {as : List Ar} (i : Nat) (h2 : CK X kws as) (hN : X.N[i]? = some nx := by rfl) (hv : Vis X.env.scope nx := by first | exact Or.inl rfl | exact Or.inr (Or.inl rfl) | exact Or.inr (Or.inr rfl))
    (hd : (nx == ("__debug__" : Str)) = false := by decide) (hcd : (nx == ("__classdict__" : Str)) = false := by decide) : CK X (⟨kn, .Name nx pos, kpos⟩ :: kws) (.o i :: as) := pk_imp (pk_cons (pe_var (i := i) hN hv hd hcd) h2) fun _ _ _ => tar_o
theorem ArL.length : ∀ {xs : List Sm} {vs : List V}, ArL K Xx H σ xs vs → vs.length = xs.length
  | [], vs, h => by rw [show vs = [] from h]; rfl
  | .inl d :: xs, vs, h => by
    obtain ⟨v, ws, rfl, _, h⟩ := h
    rw [List.length_cons, List.length_cons, ArL.length h]
  | .inr d :: xs, vs, h => by
    obtain ⟨v, ws, rfl, _, h⟩ := h
    rw [List.length_cons, List.length_cons, ArL.length h]
theorem ArL.getL : ∀ {xs : List Sm} {vs : List V} {i : Nat} {d : D}, ArL K Xx H σ xs vs → xs[i]? = some (.inl d) → ∃ v, vs[i]? = some v ∧ Rp K Xx H d v
  | [], _, _, _, _, e => by simp at e
  | .inl d :: xs, vs, 0, d', h, e => by
    obtain ⟨v, ws, rfl, r, _⟩ := h
    have e : d = d' := by simpa using e
    exact ⟨v, rfl, e ▸ r⟩
  | .inr d :: xs, vs, 0, d', h, e => by simp at e
  | .inl d :: xs, vs, i + 1, d', h, e => by
    obtain ⟨v, ws, rfl, _, h⟩ := h
    obtain ⟨u, h1, h2⟩ := ArL.getL (i := i) h (by simpa using e)
    exact ⟨u, by simpa using h1, h2⟩
  | .inr d :: xs, vs, i + 1, d', h, e => by
    obtain ⟨v, ws, rfl, _, h⟩ := h
    obtain ⟨u, h1, h2⟩ := ArL.getL (i := i) h (by simpa using e)
    exact ⟨u, by simpa using h1, h2⟩
theorem ArL.getR : ∀ {xs : List Sm} {vs : List V} {i : Nat} {d : Nat}, ArL K Xx H σ xs vs → xs[i]? = some (.inr d) → ∃ v, vs[i]? = some v ∧ σ[d]? = some (some v)
  | [], _, _, _, _, e => by simp at e
  | .inr d :: xs, vs, 0, d', h, e => by
    obtain ⟨v, ws, rfl, r, _⟩ := h
    have e : d = d' := by simpa using e
    exact ⟨v, rfl, e ▸ r⟩
  | .inl d :: xs, vs, 0, d', h, e => by simp at e
  | .inl d :: xs, vs, i + 1, d', h, e => by
    obtain ⟨v, ws, rfl, _, h⟩ := h
    obtain ⟨u, h1, h2⟩ := ArL.getR (i := i) h (by simpa using e)
    exact ⟨u, by simpa using h1, h2⟩
  | .inr d :: xs, vs, i + 1, d', h, e => by
    obtain ⟨v, ws, rfl, _, h⟩ := h
    obtain ⟨u, h1, h2⟩ := ArL.getR (i := i) h (by simpa using e)
    exact ⟨u, by simpa using h1, h2⟩
/-! ### the call -/
def fill1 (ρ : En) : Sm → Option Sl
  | .inl d => some (.va d)
  | .inr i => (getO i ρ).map .io
def ioS : List Sm → Option Nat
  | [] => none
  | .inr i :: _ => some i
  | .inl _ :: xs => ioS xs
/-- at most one thing is handed over -/
def ioOne : List Sm → Bool
  | [] => true
  | .inr _ :: xs => (ioS xs).isNone
  | .inl _ :: xs => ioOne xs
def putIo (xs : List Sm) (oo : Option Ow) (ρ : En) : Option En := match ioS xs, oo with
  | none, _ => some ρ
  | some i, some o => some (putO i o ρ)
  | some _, none => none
def callF (n : Nat) (fm : Fm) (xs : List Sm) : En → Option (Rs × En) := fun ρ => if ioOne xs = true ∧ xs.length = n then match xs.mapM (fill1 ρ) with
  | some ps => match fm ps with
    | some (r, oo) => (putIo xs oo ρ).map fun ρ' => (r, ρ')
    | none => none
  | none => none else none
theorem mapM_get {α β : Type} {f : α → Option β} : ∀ {l : List α} {r : List β}, l.mapM f = some r → r.length = l.length ∧ ∀ (i : Nat) (b : β), r[i]? = some b → ∃ a, l[i]? = some a ∧ f a = some b
  | [], r, h => by
    rw [List.mapM_nil] at h
    cases h
    exact ⟨rfl, fun i b z => by simp at z⟩
  | a :: l, r, h => by
    rw [List.mapM_cons] at h
    obtain ⟨b, h1, h⟩ := Option.bind_eq_some_iff.mp h
    obtain ⟨bs, h2, h⟩ := Option.bind_eq_some_iff.mp h
    cases h
    obtain ⟨h3, h4⟩ := mapM_get h2
    refine ⟨by rw [List.length_cons, List.length_cons, h3], fun i b' z => ?_⟩
    cases i with
    | zero =>
      have z : b = b' := by simpa using z
      subst z
      exact ⟨a, rfl, h1⟩
    | succ i =>
      obtain ⟨a', g1, g2⟩ := h4 i b' (by simpa using z)
      exact ⟨a', by simpa using g1, g2⟩
theorem ioS_none : ∀ {xs : List Sm}, ioS xs = none → ∀ (j i : Nat), xs[j]? ≠ some (.inr i)
  | [], _, j, i, z => by simp at z
  | .inr _ :: _, h, _, _, _ => by cases h
  | .inl _ :: xs, h, j, i, z => by
    cases j with
    | zero => simp at z
    | succ j => exact ioS_none (xs := xs) h j i (by simpa using z)
theorem ioS_some : ∀ {xs : List Sm} {i : Nat}, ioS xs = some i → ∃ j : Nat, xs[j]? = some (.inr i)
  | [], i, h => by cases h
  | .inr _ :: _, i, h => by cases h; exact ⟨0, rfl⟩
  | .inl _ :: xs, i, h => by
    obtain ⟨j, hj⟩ := ioS_some (xs := xs) h
    exact ⟨j + 1, by simpa using hj⟩
theorem ioOne_uniq : ∀ {xs : List Sm}, ioOne xs = true → ∀ (j k i i' : Nat), xs[j]? = some (.inr i) → xs[k]? = some (.inr i') → j = k
  | [], _, j, _, _, _, z, _ => by simp at z
  | .inr a :: xs, h, j, k, i, i', z1, z2 => by
    have h : ioS xs = none := by
      have h : (ioS xs).isNone = true := h
      cases e : ioS xs with
      | none => rfl
      | some _ => rw [e] at h; cases h
    cases j with
    | zero =>
      cases k with
      | zero => rfl
      | succ k => exact absurd (by simpa using z2) (ioS_none h k i')
    | succ j => exact absurd (by simpa using z1) (ioS_none h j i)
  | .inl _ :: xs, h, j, k, i, i', z1, z2 => by
    cases j with
    | zero => simp at z1
    | succ j =>
      cases k with
      | zero => simp at z2
      | succ k => rw [ioOne_uniq (xs := xs) h j k i i' (by simpa using z1) (by simpa using z2)]
/-- what is wanted of an answer -/
def AK (K : PySem.W.Frag) (c : Fx) (σ : Sg) (ρ' : En) (Q : VK) : Rs → Prop
  | .va d => ∀ v H', ER K c σ H' ρ' → Rp K (Xo c σ ρ') H' d v → Q v H'
  | .ow o => ∀ p H', ER K (c.ex p) σ H' ρ' → OwAt K (Xo (c.ex p) σ ρ') H' p o → c.He p = none → ¬ c.X0 p → Q (.ref p) H'
theorem OwAt.some (h : OwAt K Xx H a o) : ∃ u, H a = some u := by
  cases o with
  | lst ds => obtain ⟨_, e, _⟩ := h; exact ⟨_, e⟩
  | dct ks ds => obtain ⟨_, e, _⟩ := h; exact ⟨_, e⟩
theorem ex_xo : ∀ b, Xo (c.ex p) σ ρ b → Xo c σ ρ b ∨ b = p := fun b h => by
  rcases h with (h | h) | h
  · exact .inl (.inl h)
  · exact .inr h
  · exact .inl (.inr h)
theorem aft_ex {ioa : Option Addr} {u : HO} (f : ∀ b o, H b = some o → ioa ≠ some b → Still (fun a => Xo c σ ρ a ∧ ioa ≠ some a) b o H') (n : H p = none) (hp : H' p = some u) : Aft (Xo (c.ex p) σ ρ) ioa (upd H p u) H' := fun b o h hb => by
  by_cases e : b = p
  · subst e
    rw [upd_same] at h
    cases h
    exact .inl hp
  · rw [upd_ne e] at h
    rcases f b o h hb with q | ⟨q, q2⟩
    · exact .inl q
    · exact .inr ⟨fun z => q ⟨(ex_xo b z.1).resolve_right e, z.2⟩, q2⟩
theorem call_ok {n : Nat} {fm : Fm} {xs : List Sm} {r : Rs} {E : XK} (E1 : ER K c σ H ρ) (l : ArL K (Xo c σ ρ) H σ xs vs) (h : callF n fm xs ρ = some (r, ρ')) (k : AK K c σ ρ' Q r) : spM K n fm vs H Q E := by
  unfold callF at h
  split at h
  · rename_i h1
    obtain ⟨h1, hn⟩ := h1
    have hn : vs.length = n := by rw [l.length, hn]
    split at h
    · rename_i ps w
      split at h
      · rename_i r' oo w2
        obtain ⟨ρ2, e1, e2⟩ := Option.map_eq_some_iff.mp h
        cases e2
        obtain ⟨g1, g2⟩ := mapM_get w
        have gva : ∀ (i : Nat) (d : D), ps[i]? = some (.va d) → xs[i]? = some (.inl d) := fun i d q => by
          obtain ⟨s, q1, q2⟩ := g2 i _ q
          cases s with
          | inl d' => cases q2; exact q1
          | inr j =>
            unfold fill1 at q2
            obtain ⟨_, _, q3⟩ := Option.map_eq_some_iff.mp q2
            cases q3
        have gio : ∀ (i : Nat) (o : Ow), ps[i]? = some (.io o) → ∃ j, xs[i]? = some (.inr j) ∧ getO j ρ = some o := fun i o q => by
          obtain ⟨s, q1, q2⟩ := g2 i _ q
          cases s with
          | inl d' => cases q2
          | inr j =>
            unfold fill1 at q2
            obtain ⟨o', q3, q4⟩ := Option.map_eq_some_iff.mp q2
            cases q4
            exact ⟨j, q1, q3⟩
        have gow : ∀ (i : Nat) (o : Ow), ps[i]? ≠ some (.ow o) := fun i o q => by
          obtain ⟨s, q1, q2⟩ := g2 i _ q
          cases s with
          | inl d' => cases q2
          | inr j =>
            unfold fill1 at q2
            obtain ⟨o', q3, q4⟩ := Option.map_eq_some_iff.mp q2
            cases q4
        have g1' : vs.length = ps.length := by rw [g1, l.length]
        have there : ∀ a, Xo c σ ρ a → H a ≠ none := fun a q => by
          rcases q with q | ⟨i, q⟩
          · exact E1.x0 a q
          · exact (E1.own q).choose_spec.2.1.there
        unfold putIo at e1
        split at e1
        · -- nothing handed over
          rename_i ws
          cases e1
          have noIo : ∀ (i : Nat) (o : Ow), ps[i]? ≠ some (.io o) := fun i o q => by
            obtain ⟨j, q1, _⟩ := gio i o q
            exact ioS_none ws i j q1
          have sub : ∀ b, Sh (fun a => Xo c σ ρ a ∧ (none : Option Addr) ≠ some a) none b → Xo c σ ρ b := fun b q => by
            rcases q with q | q
            · exact q.1
            · cases q
          have sup : ∀ b, Xo c σ ρ b → Sh (fun a => Xo c σ ρ a ∧ (none : Option Addr) ≠ some a) none b := fun b q => .inl ⟨q, by simp⟩
          refine ⟨hn, fun a => Xo c σ ρ a ∧ none ≠ some a, none, ps, r, _, ⟨g1', fun i d q => ?_, fun i o q => absurd q (noIo i o), gow, fun i j o o' q _ => absurd q (noIo i o), fun a z => by cases z⟩, fun a q => there a q.1, w2, ?_⟩
          · obtain ⟨v, q1, q2⟩ := l.getL (gva i d q)
            exact ⟨v, q1, q2.keep sub Kp.refl⟩
          · cases r with
            | va d => exact fun H' v f _ rv => k v H' (E1.aft f) (rv.keep sup Kp.refl)
            | ow o =>
              refine fun H' p f _ np ro => ?_
              obtain ⟨u, hu⟩ := ro.some
              refine k p H' ((E1.alloc (u := u) np).aft (aft_ex f np hu)) (ro.keep (fun b q => ?_) Kp.refl fun _ z => z) (E1.he_none np) (E1.nx0 np)
              exact (ex_xo b q).imp (sup b) fun z => z
        · -- the thing of slot i
          rename_i i o' ws
          cases e1
          obtain ⟨j, hj⟩ := ioS_some ws
          have hjl : j < ps.length := by
            rw [g1]
            exact (List.getElem?_eq_some_iff.mp hj).1
          obtain ⟨s, hs⟩ : ∃ s, ps[j]? = some s := ⟨_, List.getElem?_eq_getElem hjl⟩
          have hget : ∃ o, getO i ρ = some o := by
            obtain ⟨s', q1, q2⟩ := g2 j s hs
            rw [hj] at q1
            cases q1
            unfold fill1 at q2
            obtain ⟨o, q3, _⟩ := Option.map_eq_some_iff.mp q2
            exact ⟨o, q3⟩
          obtain ⟨o, hget⟩ := hget
          obtain ⟨a, own, hoa⟩ := getO_own E1 hget
          have hps : ps[j]? = some (.io o) := by
            obtain ⟨s', q1, q2⟩ := g2 j s hs
            rw [hj] at q1
            cases q1
            have q2 : (getO i ρ).map Sl.io = some s := q2
            rw [hget] at q2
            cases q2
            exact hs
          have nx : ¬ c.X0 a := (E1.own own).choose_spec.2.2
          have sub : ∀ b, Sh (fun b => Xo c σ ρ b ∧ some a ≠ some b) (some a) b → Xo c σ ρ b := fun b q => by
            rcases q with q | q
            · exact q.1
            · cases q
              exact .inr ⟨i, own⟩
          have sup : ∀ b, Xo c σ ρ b → Sh (fun b => Xo c σ ρ b ∧ some a ≠ some b) (some a) b := fun b q => by
            by_cases hb : some a = some b
            · exact .inr hb
            · exact .inl ⟨q, hb⟩
          refine ⟨hn, fun b => Xo c σ ρ b ∧ some a ≠ some b, some a, ps, r, some o', ⟨g1', fun i d q => ?_, fun i2 o2 q => ?_, gow, fun i j o o' q q' => ?_, fun b z => ⟨j, o, hps⟩⟩, fun b q => there b q.1, w2, ?_⟩
          · obtain ⟨v, q1, q2⟩ := l.getL (gva i d q)
            exact ⟨v, q1, q2.keep sub Kp.refl⟩
          · obtain ⟨j2, q1, q2⟩ := gio i2 o2 q
            have e := ioOne_uniq h1 i2 j j2 i q1 hj
            subst e
            rw [hj] at q1
            cases q1
            rw [hget] at q2
            cases q2
            obtain ⟨v, q3, q4⟩ := l.getR hj
            rw [own.1] at q4
            cases q4
            exact ⟨a, q3, rfl, hoa.keep sub Kp.refl (fun _ z => z), fun z => z.2 rfl⟩
          · obtain ⟨j2, q1, _⟩ := gio i o q
            obtain ⟨j3, q2, _⟩ := gio j o' q'
            exact ioOne_uniq h1 i j j2 j3 q1 q2
          · cases r with
            | va d =>
              refine fun H' v f g rv => ?_
              obtain ⟨o2, e, ho⟩ := g a rfl
              cases e
              have ho := ho.keep sup Kp.refl (fun _ z => z)
              exact k v H' (E1.aftIo own f ho) (rv.keep (fun b q => sup b (Xo_put E1 own b q)) Kp.refl)
            | ow ro =>
              refine fun H' p f g np rro => ?_
              obtain ⟨o2, e, ho⟩ := g a rfl
              cases e
              obtain ⟨u, hu⟩ := rro.some
              have sup2 : ∀ b, Xo (c.ex p) σ ρ b → Sh (fun b => Xo c σ ρ b ∧ some a ≠ some b) (some a) b ∨ b = p := fun b q => (ex_xo b q).imp (sup b) fun z => z
              have E2 := E1.alloc (u := u) np
              have ho := ho.keep sup2 Kp.refl (fun _ z => z)
              exact k p H' (E2.aftIo own (aft_ex f np hu) ho) (rro.keep (fun b q => sup2 b (Xo_put E2 own b q)) Kp.refl fun _ z => z) (E1.he_none np) (E1.nx0 np)
        · cases e1
      · cases h
    · cases h
  · cases h
/-! ### calls of the text's defs -/
theorem ArL.save : ∀ {xs : List Sm} {vs : List V} {c : Fx}, ER K c σ H ρ → ArL K (Xo c σ ρ) H σ xs vs → ∃ c', Wk c' c ∧ ER K c' σ H ρ ∧ ∀ H' ρ', ER K c' σ H' ρ' → ArL K (Xo c' σ ρ') H' σ xs vs
  | [], vs, c, E, l => ⟨c, .refl, E, fun _ _ _ => l⟩
  | .inl d :: xs, vs, c, E, l => by
    obtain ⟨v, ws, rfl, r, l⟩ := l
    have E1 := E.push r
    obtain ⟨c', w, E2, h⟩ := ArL.save (c := c.push d v) E1 l
    exact ⟨c', w.trans .push, E2, fun H' ρ' E3 => ⟨v, ws, rfl, E3.tmp (d, v) (w.tmp _ List.mem_cons_self), h H' ρ' E3⟩⟩
  | .inr i :: xs, vs, c, E, l => by
    obtain ⟨v, ws, rfl, r, l⟩ := l
    obtain ⟨c', w, E2, h⟩ := ArL.save E l
    exact ⟨c', w, E2, fun H' ρ' E3 => ⟨v, ws, rfl, r, h H' ρ' E3⟩⟩
theorem ArL.app : ∀ {xs ys : List Sm} {vs us : List V}, ArL K Xx H σ xs vs → ArL K Xx H σ ys us → ArL K Xx H σ (xs ++ ys) (vs ++ us)
  | [], ys, vs, us, h, t => by rw [show vs = [] from h]; exact t
  | .inl d :: xs, ys, vs, us, h, t => by
    obtain ⟨v, ws, rfl, r, h⟩ := h
    exact ⟨v, ws ++ us, rfl, r, ArL.app h t⟩
  | .inr d :: xs, ys, vs, us, h, t => by
    obtain ⟨v, ws, rfl, r, h⟩ := h
    exact ⟨v, ws ++ us, rfl, r, ArL.app h t⟩
def permG {α : Type} (pm : List Nat) (l : List α) : List α := pm.filterMap fun i => l[i]?
theorem ArL.perm {xs : List Sm} (l : ArL K Xx H σ xs vs) : ∀ pm : List Nat, ArL K Xx H σ (permG pm xs) (permG pm vs)
  | [] => rfl
  | i :: pm => by
    have ih := ArL.perm l pm
    unfold permG at ih ⊢
    rw [List.filterMap_cons, List.filterMap_cons]
    have hl := l.length
    cases e : xs[i]? with
    | none =>
      rw [List.getElem?_eq_none (by rw [hl]; exact List.getElem?_eq_none_iff.mp e)]
      exact ih
    | some s =>
      cases s with
      | inl d =>
        obtain ⟨v, h1, h2⟩ := l.getL e
        rw [h1]
        exact ⟨v, _, rfl, h2, ih⟩
      | inr j =>
        obtain ⟨v, h1, h2⟩ := l.getR e
        rw [h1]
        exact ⟨v, _, rfl, h2, ih⟩
theorem vals_perm {vs : List V} {us : List Value} (r : Vals vs us) : ∀ pm : List Nat, Vals (permG pm vs) (permG pm us)
  | [] => .nil
  | i :: pm => by
    have ih := vals_perm r pm
    unfold permG at ih ⊢
    rw [List.filterMap_cons, List.filterMap_cons]
    have hl := r.length
    cases e : vs[i]? with
    | none =>
      rw [List.getElem?_eq_none (by rw [← hl]; exact List.getElem?_eq_none_iff.mp e)]
      exact ih
    | some s =>
      obtain ⟨u, h1, h2⟩ := r.get e
      rw [h1]
      exact .cons h2 ih
def mCallR (n : Nat) (fm : Fm) (as : List Ar) : En → Option (Rs × En) := fun ρ => match aR as ρ with
  | some (xs, ρ1) => callF n fm xs ρ1
  | none => none
/-- with keywords: the arguments in the parameters' order -/
def mCallK (n : Nat) (fm : Fm) (as ks : List Ar) (pm : List Nat) : En → Option (Rs × En) := fun ρ => match aR as ρ with
  | some (xs, ρ1) => (match aR ks ρ1 with
    | some (ys, ρ2) => callF n fm (permG pm (xs ++ ys)) ρ2
    | none => none)
  | none => none
def asV (m : En → Option (Rs × En)) : Mm D := fun ρ => match m ρ with
  | some (.va d, ρ1) => some (d, ρ1)
  | _ => none
def asO (m : En → Option (Rs × En)) : Mm Ow := fun ρ => match m ρ with
  | some (.ow o, ρ1) => some (o, ρ1)
  | _ => none
/-- any answer's reading -/
def tRs (K : PySem.W.Frag) (m : En → Option (Rs × En)) : TE := fun σ H Q => ∃ c ρ r ρ', ER K c σ H ρ ∧ m ρ = some (r, ρ') ∧ AK K c σ ρ' Q r
theorem trs_v {m : En → Option (Rs × En)} (q : tE K (asV m) σ H Q) : tRs K m σ H Q := by
  obtain ⟨c, ρ, d, ρ', E, e, k⟩ := q
  unfold asV at e
  split at e
  · rename_i w
    cases e
    exact ⟨c, ρ, _, _, E, w, k⟩
  · cases e
theorem trs_o {m : En → Option (Rs × En)} (q : tO K (asO m) σ H Q) : tRs K m σ H Q := by
  obtain ⟨c, ρ, d, ρ', E, e, k⟩ := q
  unfold asO at e
  split at e
  · rename_i w
    cases e
    exact ⟨c, ρ, _, _, E, w, k⟩
  · cases e
theorem te_call {n : Nat} {fm : Fm} {as : List Ar} {E : XK} (q : tRs K (mCallR n fm as) σ H Q) : tCall (spM K n fm) [] E (tAr K as) σ H Q := by
  obtain ⟨c, ρ, r, ρ', E, e, k⟩ := q
  unfold mCallR at e
  split at e
  · rename_i xs ρ1 w
    exact ⟨c, ρ, xs, ρ1, E, w, fun vs H1 E1 l => by show spM K n fm (vs ++ []) H1 Q _; rw [List.append_nil]; exact call_ok E1 l e k⟩
  · cases e
theorem AK.wk {c' : Fx} {r : Rs} (w : Wk c' c) (k : AK K c σ ρ' Q r) : AK K c' σ ρ' Q r := by
  cases r with
  | va d => exact fun v H' E r => k v H' (E.wk w) (by rw [← w.xo]; exact r)
  | ow o => exact fun p H' E r h1 h2 => k p H' (E.wk w.ex) (by rw [← w.ex.xo]; exact r) (by rw [← w.he]; exact h1) (by rw [← w.x0]; exact h2)
theorem aR_len : ∀ {as : List Ar} {xs : List Sm} {ρ ρ' : En}, aR as ρ = some (xs, ρ') → xs.length = as.length
  | [], xs, ρ, ρ', e => by cases e; rfl
  | .v m :: as, xs, ρ, ρ', e => by
    unfold aR at e
    obtain ⟨x, ρ1, e1, f1⟩ := bd_some e
    obtain ⟨ys, ρ2, e2, f2⟩ := bd_some f1
    cases f2
    rw [List.length_cons, List.length_cons, aR_len e2]
  | .o i :: as, xs, ρ, ρ', e => by
    unfold aR at e
    split at e
    · obtain ⟨ys, ρ2, e2, f2⟩ := bd_some e
      cases f2
      rw [List.length_cons, List.length_cons, aR_len e2]
    · cases e
theorem te_callN {n n0 : Nat} {fm : Fm} {as ks : List Ar} {pm : List Nat} {E : XK} (h0 : as.length = n0) (q : tRs K (mCallK n fm as ks pm) σ H Q) : tCallN n0 ks.length (spM K n fm) (fun vs zs => permG pm (vs ++ zs)) E (tAr K as) (tAr K ks) σ H Q := by
  obtain ⟨c, ρ, r, ρ', E, e, k⟩ := q
  unfold mCallK at e
  split at e
  · rename_i xs ρ1 w
    split at e
    · rename_i ys ρ2 w2
      refine ⟨c, ρ, xs, ρ1, E, w, fun vs H1 E1 l => ?_⟩
      obtain ⟨c', wk, E2, hl⟩ := ArL.save E1 l
      refine ⟨c', ρ1, ys, ρ2, E2, w2, fun zs H2 E3 l2 => ⟨by rw [l.length, aR_len w, h0], by rw [l2.length, aR_len w2], ?_⟩⟩
      exact call_ok E3 (((hl H2 ρ2 E3).app l2).perm pm) e (k.wk wk)
    · cases e
  · cases e
/-- a def that may be called -/
structure Df (P : Program) (w : World) (K : PySem.W.Frag) (mg : Str → Option Value) (base : Heap) (k : Nat) (nm : Str) (n : Nat) (fm : Fm) (params : Arguments) (ps : List Str) : Prop where
  ex : ∃ (f : Addr) (fd : FuncData) (qual : Str) (body : List Stmt) (scope : Scope), FnOk P w K mg base CX0 k f fd ps (spM K n fm) ∧ FunD K nm qual params body scope [] [] f fd ∧ mg nm = some (.ref f)
theorem pe_def {k n : Nat} {fm : Fm} {params : Arguments} {ps : List Str} {as : List Ar} (F : Df X.prog X.w X.K X.mg X.base k nm n fm params ps) (hr : Room k X.A) (ha : CR X (e1 :: es) as)
    (hb : ∀ (qual : Str) (body : List Stmt) (scope : Scope) (kV doc pm : Value) (an : Option Addr) (cdv ct : Value) (us : List Value), us.length = ps.length → bindArgs (PySem.W.fnOf nm qual params body scope .none kV doc pm an cdv ct) ⟨us, []⟩ = pure (ps.zip us))
    (hg : Gl X nm := by rfl) (hdb : (nm == ("__debug__" : Str)) = false := by decide) (he : starEach (e1 :: es) X.env = (false, eval e1 X.env) :: starEach es X.env := by rfl) (hpl : (backTo pos (starEach es X.env)).any (·.1) = false := by rfl) :
    PE X (.Call (.Name nm np) (e1 :: es) [] pos) (tRs X.K (mCallR n fm as)) := by
  obtain ⟨f, fd, qual, body, scope, ok, D, hm⟩ := F.ex
  exact pe_imp (pe_call (E := E0) ok hr hg hm D.kp (D.bindsN fun kV doc pm an cdv ct us => hb qual body scope kV doc pm an cdv ct us) .nil (fun _ _ _ _ _ _ _ h => h.elim) ha hdb he hpl) fun σ H Q => te_call
theorem pe_def0 {k n : Nat} {fm : Fm} {params : Arguments} {ps : List Str} (F : Df X.prog X.w X.K X.mg X.base k nm n fm params ps) (hr : Room k X.A)
    (hb : ∀ (qual : Str) (body : List Stmt) (scope : Scope) (kV doc pm : Value) (an : Option Addr) (cdv ct : Value) (us : List Value), us.length = ps.length → bindArgs (PySem.W.fnOf nm qual params body scope .none kV doc pm an cdv ct) ⟨us, []⟩ = pure (ps.zip us))
    (hg : Gl X nm := by rfl) (hdb : (nm == ("__debug__" : Str)) = false := by decide) : PE X (.Call (.Name nm np) [] [] pos) (tRs X.K (mCallR n fm [])) := by
  obtain ⟨f, fd, qual, body, scope, ok, D, hm⟩ := F.ex
  refine pe_imp (pe_call0 (E := E0) ok hr hg hm D.kp (D.bindsN fun kV doc pm an cdv ct us => hb qual body scope kV doc pm an cdv ct us) .nil (fun _ _ _ _ _ _ _ h => h.elim) hdb) fun σ H Q q => ?_
  exact tar_nil (te_call q)
theorem kbindsN {K : PySem.W.Frag} {x qual : Str} {params : Arguments} {body : List Stmt} {scope : Scope} {kws : List (Str × V)} {f : Addr} {fd : FuncData} {ps : List Str} (F : FunD K x qual params body scope [] kws f fd) (n : Nat) (ks : List Str) (pm : List Nat)
    (h : ∀ (kV doc pm' : Value) (an : Option Addr) (cdv ct : Value) (us ws : List Value), us.length = n → ws.length = ks.length → bindArgs (PySem.W.fnOf x qual params body scope .none kV doc pm' an cdv ct) ⟨us, ks.zip ws⟩ = pure (ps.zip (permG pm (us ++ ws)))) :
    KBn K fd ps n ks (fun us ws => permG pm (us ++ ws)) (fun vs zs => permG pm (vs ++ zs)) := by
  obtain ⟨oc, od, dV, kV, doc, pm', an, cdv, ct, osl, rfl, lk, hcd, hD, hK⟩ := F.ex
  rcases hD with ⟨_, rfl⟩ | ⟨e, _⟩
  · exact ⟨fun s us ws _ l1 l2 => .of_eq (h kV doc pm' an cdv ct us ws l1 l2), fun r1 r2 => vals_perm (r1.append r2) pm⟩
  · exact absurd rfl e
theorem pe_defK {k n : Nat} {fm : Fm} {params : Arguments} {ps : List Str} {as bs : List Ar} (n0 : Nat) (ks : List Str) (pm : List Nat) (F : Df X.prog X.w X.K X.mg X.base k nm n fm params ps) (hr : Room k X.A) (ha : CR X (e1 :: es) as) (hk : CK X kws bs)
    (hb : ∀ (qual : Str) (body : List Stmt) (scope : Scope) (kV doc pm' : Value) (an : Option Addr) (cdv ct : Value) (us ws : List Value), us.length = n0 → ws.length = ks.length → bindArgs (PySem.W.fnOf nm qual params body scope .none kV doc pm' an cdv ct) ⟨us, ks.zip ws⟩ = pure (ps.zip (permG pm (us ++ ws))))
    (h0 : as.length = n0 := by rfl) (h1 : bs.length = ks.length := by rfl) (hall : (backToKw pos (keywordEach kws X.env)).all (·.1.isSome) = true := by rfl) (hks : (backToKw pos (keywordEach kws X.env)).filterMap (·.1) = ks := by rfl)
    (hg : Gl X nm := by rfl) (hdb : (nm == ("__debug__" : Str)) = false := by decide) (he : starEach (e1 :: es) X.env = (false, eval e1 X.env) :: starEach es X.env := by rfl)
    (hpl : ((backTo pos (starEach (e1 :: es) X.env)).any (·.1) || (backToKw pos (keywordEach kws X.env)).any (·.1.isNone)) = false := by rfl) :
    PE X (.Call (.Name nm np) (e1 :: es) kws pos) (tRs X.K (mCallK n fm as bs pm)) := by
  obtain ⟨f, fd, qual, body, scope, ok, D, hm⟩ := F.ex
  refine pe_imp (pe_callN (E := E0) ok hr hg hm D.kp (kbindsN D n0 ks pm fun kV doc pm' an cdv ct us ws => hb qual body scope kV doc pm' an cdv ct us ws) (fun _ _ _ _ _ _ _ h => h.elim) ha hk hall hks hdb he hpl) fun σ H Q q => ?_
  have z := te_callN (E := E0) h0 q
  rw [h1] at z
  exact z
theorem pe_defK0 {k n : Nat} {fm : Fm} {params : Arguments} {ps : List Str} {bs : List Ar} (ks : List Str) (pm : List Nat) (F : Df X.prog X.w X.K X.mg X.base k nm n fm params ps) (hr : Room k X.A) (hk : CK X kws bs)
    (hb : ∀ (qual : Str) (body : List Stmt) (scope : Scope) (kV doc pm' : Value) (an : Option Addr) (cdv ct : Value) (us ws : List Value), us.length = 0 → ws.length = ks.length → bindArgs (PySem.W.fnOf nm qual params body scope .none kV doc pm' an cdv ct) ⟨us, ks.zip ws⟩ = pure (ps.zip (permG pm (us ++ ws))))
    (h1 : bs.length = ks.length := by rfl) (hall : (backToKw pos (keywordEach kws X.env)).all (·.1.isSome) = true := by rfl) (hks : (backToKw pos (keywordEach kws X.env)).filterMap (·.1) = ks := by rfl)
    (hg : Gl X nm := by rfl) (hdb : (nm == ("__debug__" : Str)) = false := by decide)
    (hpl : ((backTo pos (starEach [] X.env)).any (·.1) || (backToKw pos (keywordEach kws X.env)).any (·.1.isNone)) = false := by rfl) :
    PE X (.Call (.Name nm np) [] kws pos) (tRs X.K (mCallK n fm [] bs pm)) := by
  obtain ⟨f, fd, qual, body, scope, ok, D, hm⟩ := F.ex
  refine ⟨fun pins s σ H Q I q => ?_⟩
  have z := te_callN (n0 := 0) (E := E0) rfl q
  rw [h1] at z
  refine wpAny_Call_Name_kw (ld_glob I hg hm ?_ hdb)
  have z := tar_nil z
  refine PySem.W.callWith_KW0 (h₀ := X.base) I.ok.mod.kin D.kp hall (thn (hk.run pos pins s σ H _ I z) fun ws s2 ⟨zs, H2, I2, rz, l1, l2, q2⟩ => ⟨I2.kIn, ?_⟩) hpl
  rw [hks]
  exact run_fnN (us := []) ok hr (kbindsN D 0 ks pm fun kV doc pm' an cdv ct us ws => hb qual body scope kV doc pm' an cdv ct us ws) (fun _ _ _ _ _ _ _ h => h.elim) I2 .nil rz l1 l2 q2
theorem ce_def {m : En → Option (Rs × En)} (h : PE X e1 (tRs X.K m)) : CE X e1 (asV m) := pe_imp h fun _ _ _ => trs_v
theorem co_def {m : En → Option (Rs × En)} (h : PE X e1 (tRs X.K m)) : CO X e1 (asO m) := pe_imp h fun _ _ _ => trs_o
end
end DL

set_option Elab.async false
set_option linter.all false
set_option maxRecDepth 100000
namespace DL
open PySem PySem.Spec PyProof.Rows L2

theorem bt_len : bootBuiltins "len" = some (.builtin "len") := by kernel_rfl
theorem bt_abs : bootBuiltins "abs" = some (.builtin "abs") := by kernel_rfl
theorem bt_sum : bootBuiltins "sum" = some (.builtin "sum") := by kernel_rfl
theorem bt_all : bootBuiltins "all" = some (.builtin "all") := by kernel_rfl
theorem bt_any : bootBuiltins "any" = some (.builtin "any") := by kernel_rfl
theorem bt_sorted : bootBuiltins "sorted" = some (.builtin "sorted") := by kernel_rfl
theorem bt_isinstance : bootBuiltins "isinstance" = some (.builtin "isinstance") := by kernel_rfl
theorem bt_max : bootBuiltins "max" = some (.builtin "max") := by kernel_rfl
theorem bt_min : bootBuiltins "min" = some (.builtin "min") := by kernel_rfl
theorem bt_int : bootBuiltins "int" = some (.type "int") := by kernel_rfl
theorem bt_str : bootBuiltins "str" = some (.type "str") := by kernel_rfl
theorem bt_tuple : bootBuiltins "tuple" = some (.type "tuple") := by kernel_rfl
theorem bt_list : bootBuiltins "list" = some (.type "list") := by kernel_rfl
theorem bt_dict : bootBuiltins "dict" = some (.type "dict") := by kernel_rfl
theorem bt_bool : bootBuiltins "bool" = some (.type "bool") := by kernel_rfl
theorem u1 {k : Nat} {A : Around} (r : Room k A) : A.units + 1 < cLine := by
  have := r.units
  omega
theorem u64 {k : Nat} {A : Around} (r : Room k A) : A.units + 64 < cLine := r.units
section
variable {X : Cx} {K : PySem.W.Frag} {c c' : Fx} {σ σ2 : Sg} {H H' : Hp} {ρ ρ' ρ3 : En} {i j : Nat} {a p : Addr} {o : Ow} {d x y z : D} {v vx vy : V} {Q : VK} {ds : List D} {vs us : List V} {Xx : AP} {Dn : Ends} {ix : List Nat}
variable {e1 e2 e3 : Expr} {es : List Expr} {pos np apos cpos p1 p2 tpos spos py kpos : Pos} {nm nx ny : Str} {bid : String} {ma mb mk : Mm D} {kws : List Keyword} {kn : Option Str}
/-- an own thing given away by its name -/
def mOwn (i : Nat) : Mm Ow := fun ρ => match ρ[i]? with
  | some (.ow o) => some (o, ρ.set i .no)
  | _ => none
theorem ER.give (E : ER K c σ H ρ) (h : ρ[i]? = some (.ow o)) : ∃ a, σ[i]? = some (some (.ref a)) ∧ ER K (c.ex a) σ H (ρ.set i .no) ∧ OwAt K (Xo (c.ex a) σ (ρ.set i .no)) H a o ∧ c.He a = none ∧ ¬ c.X0 a := by
  obtain ⟨a, e, ho, nx, nh⟩ := E.ow i o h
  have hi : i < ρ.length := (List.getElem?_eq_some_iff.mp h).1
  have ow : ∀ j b, OwnAt σ (ρ.set i .no) j b → j ≠ i ∧ OwnAt σ ρ j b := fun j b q => by
    by_cases hj : j = i
    · subst hj
      obtain ⟨_, o, q⟩ := q
      rw [get_set_eq hi] at q
      rcases q with q | q <;> cases q
    · obtain ⟨e, o, q⟩ := q
      rw [get_set_ne hj] at q
      exact ⟨hj, e, o, q⟩
  have xx : ∀ b, Xo (c.ex a) σ (ρ.set i .no) b → Xo c σ ρ b := fun b q => by
    rcases q with (q | q) | ⟨j, q⟩
    · exact .inl q
    · exact .inr ⟨i, by rw [q]; exact ⟨e, o, .inl h⟩⟩
    · exact .inr ⟨j, (ow j b q).2⟩
  have ne : ∀ j b, OwnAt σ ρ j b → j ≠ i → b ≠ a := fun j b q hj z => hj (E.inj j i a (z ▸ q) ⟨e, o, .inl h⟩)
  refine ⟨a, e, ⟨by rw [List.length_set]; exact E.len, fun j d' q => ?_, fun j o2 q => ?_, fun j o2 q => ?_, fun j k b h1 h2 => E.inj j k b (ow j b h1).2 (ow k b h2).2, fun b o2 h1 h2 => ?_, E.fz, E.hd, E.iot, fun b h => ?_, fun q hq => (E.tmp q hq).keep xx Kp.refl⟩, ho.keep xx Kp.refl (fun _ z => z), nh, nx⟩
  · have hj : j ≠ i := fun z => by
      subst z
      rw [get_set_eq hi] at q
      cases q
    rw [get_set_ne hj] at q
    obtain ⟨v', e, r'⟩ := E.va j d' q
    exact ⟨v', e, r'.keep xx Kp.refl⟩
  · have hj : j ≠ i := fun z => by
      subst z
      rw [get_set_eq hi] at q
      cases q
    rw [get_set_ne hj] at q
    obtain ⟨b, e, r', n1, n2⟩ := E.ow j o2 q
    exact ⟨b, e, r'.keep xx Kp.refl (fun _ z => z), fun z => z.elim n1 (ne j b ⟨e, o2, .inl q⟩ hj), n2⟩
  · have hj : j ≠ i := fun z => by
      subst z
      rw [get_set_eq hi] at q
      cases q
    rw [get_set_ne hj] at q
    obtain ⟨b, e, r', n1, n2⟩ := E.io j o2 q
    exact ⟨b, e, r'.keep xx Kp.refl (fun _ z => z), fun z => z.elim n1 (ne j b ⟨e, o2, .inr q⟩ hj), n2⟩
  · rcases E.fr b o2 h1 h2 with q | ⟨n, ob, kvs, eo, q⟩
    · exact .inl q
    · refine .inr ⟨fun z => z.elim n fun z => ?_, ob, kvs, eo, q⟩
      subst z
      have h1 : c.He b = some o2 := h1
      rw [nh] at h1
      cases h1
  · rcases h with h | h
    · exact E.x0 b h
    · rw [h]
      exact ho.there
theorem co_own {x : Str} {pos : Pos} (i : Nat) (hN : X.N[i]? = some x := by rfl) (hv : Vis X.env.scope x := by first | exact Or.inl rfl | exact Or.inr (Or.inl rfl) | exact Or.inr (Or.inr rfl)) (hd : (x == ("__debug__" : Str)) = false := by decide)
    (hcd : (x == ("__classdict__" : Str)) = false := by decide) : CO X (.Name x pos) (mOwn i) := pe_imp (pe_var hN hv hd hcd) fun σ H Q q => by
  obtain ⟨c, ρ, o, ρ', E, e, k⟩ := q
  unfold mOwn at e
  split at e
  · rename_i o w
    cases e
    obtain ⟨a, h1, h2, h3, h4, h5⟩ := E.give w
    exact ⟨_, h1, k a H h2 h3 h4 h5⟩
  · cases e
end
end DL

set_option Elab.async false
set_option linter.all false
set_option maxRecDepth 100000
namespace DL
open PySem PySem.Spec PyProof.Rows L2

def mBreak : Ms := fun ρ => some (.bk, ρ)
def mContinue : Ms := fun ρ => some (.ct, ρ)
section
variable {α β : Type} {m m' : Mm D} {ρ : En} {i j : Nat} {x y d : D} {o : Ow} {a b : Opd}
@[simp] theorem ev_bd {m : Mm α} {f : α → Mm β} : bd m f ρ = (m ρ).bind fun p => f p.1 p.2 := by
  unfold bd
  cases m ρ <;> rfl
@[simp] theorem ev_ret {x : α} : ret x ρ = some (x, ρ) := rfl
@[simp] theorem ev_lf {o : Option α} : lf o ρ = o.map fun x => (x, ρ) := by
  unfold lf
  cases o <;> rfl
@[simp] theorem ev_C : mC d ρ = some (d, ρ) := rfl
def slV (i : Nat) (ρ : En) : Option Sl → Option (D × En)
  | some (.va d) => some (d, ρ)
  | some (.ow o) => some (o.d, ρ.set i (.va o.d))
  | _ => none
def slB (ρ : En) : Option Sl → Option (D × En)
  | some (.va d) => some (d, ρ)
  | some (.ow o) => some (o.d, ρ)
  | some (.io o) => some (o.d, ρ)
  | _ => none
@[simp] theorem slV_va : slV i ρ (some (.va d)) = some (d, ρ) := rfl
@[simp] theorem slV_ow : slV i ρ (some (.ow o)) = some (o.d, ρ.set i (.va o.d)) := rfl
@[simp] theorem slB_va : slB ρ (some (.va d)) = some (d, ρ) := rfl
@[simp] theorem slB_ow : slB ρ (some (.ow o)) = some (o.d, ρ) := rfl
@[simp] theorem slB_io : slB ρ (some (.io o)) = some (o.d, ρ) := rfl
@[simp] theorem ev_var : mVar i ρ = slV i ρ ρ[i]? := by
  unfold mVar slV
  rfl
@[simp] theorem ev_bor : mBor i ρ = slB ρ ρ[i]? := by
  unfold mBor slB
  rfl
@[simp] theorem od_l {ds : List D} : (Ow.lst ds).d = .lst ds := rfl
@[simp] theorem od_d {ks : List Key} {ds : List D} : (Ow.dct ks ds).d = .dct ks ds := rfl
@[simp] theorem ev_m1n {f : D → Option α} : m1 (.n i) f ρ = (mBor i ρ).bind fun p => (f p.1).map fun x => (x, p.2) := by simp [m1]
@[simp] theorem ev_m1e {f : D → Option α} : m1 (.e m) f ρ = (m ρ).bind fun p => (f p.1).map fun x => (x, p.2) := by simp [m1]
@[simp] theorem ev_m2nn {f : D → D → Option α} : m2 (.n i) (.n j) f ρ = (mBor i ρ).bind fun p => (mBor j p.2).bind fun q => (f p.1 q.1).map fun x => (x, q.2) := by simp [m2]
@[simp] theorem ev_m2ne {f : D → D → Option α} : m2 (.n i) (.e m') f ρ = (mBor i ρ).bind fun p0 => (m' p0.2).bind fun q => (mBor i q.2).bind fun p => (f p.1 q.1).map fun x => (x, p.2) := by simp [m2]
@[simp] theorem ev_m2en {f : D → D → Option α} : m2 (.e m) (.n j) f ρ = (m ρ).bind fun p => (mBor j p.2).bind fun q => (f p.1 q.1).map fun x => (x, q.2) := by simp [m2]
@[simp] theorem ev_m2ee {f : D → D → Option α} : m2 (.e m) (.e m') f ρ = (m ρ).bind fun p => (m' p.2).bind fun q => (f p.1 q.1).map fun x => (x, q.2) := by simp [m2]
@[simp] theorem ev_Ov {m : Mm Ow} : mOv m ρ = (m ρ).map fun p => (p.1.d, p.2) := by
  unfold mOv
  rw [ev_bd]
  cases m ρ <;> rfl
@[simp] theorem ev_Tb : mTb m ρ = (m ρ).bind fun p => (asB p.1).map fun b => (b, p.2) := by
  unfold mTb
  simp
@[simp] theorem asB_bl {b : Bool} : asB (.bl b) = some b := rfl
@[simp] theorem ev_not {t : Mm Bool} : mNot t ρ = (t ρ).map fun p => (!p.1, p.2) := by
  unfold mNot
  rw [ev_bd]
  cases t ρ <;> rfl
@[simp] theorem ev_and {t u : Mm Bool} : mAnd t u ρ = (t ρ).bind fun p => if p.1 then u p.2 else some (false, p.2) := by
  unfold mAnd
  rw [ev_bd]
  congr
  funext p
  cases p.1 <;> rfl
@[simp] theorem ev_or {t u : Mm Bool} : mOr t u ρ = (t ρ).bind fun p => if p.1 then some (true, p.2) else u p.2 := by
  unfold mOr
  rw [ev_bd]
  congr
  funext p
  cases p.1 <;> rfl
@[simp] theorem ev_if {t : Mm Bool} {m m' : Mm α} : mIf t m m' ρ = (t ρ).bind fun p => if p.1 then m p.2 else m' p.2 := by
  unfold mIf
  rw [ev_bd]
  congr
  funext p
  cases p.1 <;> rfl
@[simp] theorem ev_andV : mAndV m m' ρ = (m ρ).bind fun p => (dTru p.1).bind fun b => if b then m' p.2 else some (p.1, p.2) := by
  unfold mAndV
  simp
  congr
  funext p
  cases dTru p.1 with
  | none => rfl
  | some b => cases b <;> rfl
@[simp] theorem ev_nil : mNil ρ = some ([], ρ) := rfl
@[simp] theorem ev_cons {m' : Mm (List D)} : mCons m m' ρ = (m ρ).bind fun p => (m' p.2).map fun q => (p.1 :: q.1, q.2) := by
  unfold mCons
  simp
  congr
  funext p
  cases m' p.2 <;> rfl
@[simp] theorem ev_tup {m : Mm (List D)} : mTup m ρ = (m ρ).bind fun p => if szOk p.1 then some (.tup p.1, p.2) else none := by
  unfold mTup
  rw [ev_bd]
  congr
  funext p
  cases szOk p.1 <;> rfl
@[simp] theorem ev_lst {m : Mm (List D)} : mLst m ρ = (m ρ).bind fun p => if szOk p.1 then some (.lst p.1, p.2) else none := by
  unfold mLst
  rw [ev_bd]
  congr
  funext p
  cases szOk p.1 <;> rfl
@[simp] theorem ev_dct0 : mDct0 ρ = some (.dct [] [], ρ) := rfl
@[simp] theorem ev_it : mIt m ρ = (m ρ).bind fun p => (itemsOf p.1).map fun x => (x, p.2) := by
  unfold mIt
  simp
@[simp] theorem ev_rng {f : List D → Option (List D)} {m : Mm (List D)} : mRng f m ρ = (m ρ).bind fun p => (f p.1).map fun x => (x, p.2) := by
  unfold mRng
  simp
/-! statements -/
def flS (b : Ms) : Option (Fl × En) → Option (Fl × En)
  | some (.nx, ρ1) => b ρ1
  | r => r
@[simp] theorem flS_nx {b : Ms} : flS b (some (.nx, ρ)) = b ρ := rfl
@[simp] theorem flS_rv {b : Ms} : flS b (some (.rv d, ρ)) = some (.rv d, ρ) := rfl
@[simp] theorem flS_ro {b : Ms} : flS b (some (.ro o, ρ)) = some (.ro o, ρ) := rfl
@[simp] theorem flS_bk {b : Ms} : flS b (some (.bk, ρ)) = some (.bk, ρ) := rfl
@[simp] theorem flS_ct {b : Ms} : flS b (some (.ct, ρ)) = some (.ct, ρ) := rfl
@[simp] theorem flS_none {b : Ms} : flS b none = none := rfl
@[simp] theorem ev_seq {a b : Ms} : mSeq a b ρ = flS b (a ρ) := by
  unfold mSeq flS
  rfl
@[simp] theorem ev_skip : mSkip ρ = some (.nx, ρ) := rfl
@[simp] theorem ev_break : mBreak ρ = some (.bk, ρ) := rfl
@[simp] theorem ev_continue : mContinue ρ = some (.ct, ρ) := rfl
@[simp] theorem ev_expr : mExpr m ρ = (m ρ).map fun p => (.nx, p.2) := by
  unfold mExpr
  cases m ρ <;> rfl
@[simp] theorem ev_mret : mRet m ρ = (m ρ).map fun p => (.rv p.1, p.2) := by
  unfold mRet
  cases m ρ <;> rfl
@[simp] theorem ev_mretO {m : Mm Ow} : mRetO m ρ = (m ρ).map fun p => (.ro p.1, p.2) := by
  unfold mRetO
  cases m ρ <;> rfl
@[simp] theorem ev_ifs {t : Mm Bool} {a b : Ms} : mIfS t a b ρ = (t ρ).bind fun p => if p.1 then a p.2 else b p.2 := by
  unfold mIfS
  cases e : t ρ with
  | none => rfl
  | some p => obtain ⟨b, ρ1⟩ := p; cases b <;> rfl
@[simp] theorem ev_asg {t : Tg} : mAsg m t ρ = (m ρ).bind fun p => (asg t p.1 p.2).map fun ρ2 => (.nx, ρ2) := by
  unfold mAsg
  cases m ρ <;> rfl
@[simp] theorem ev_setO {m : Mm Ow} : mSetO m i ρ = (m ρ).bind fun p => (stO i p.1 p.2).map fun ρ2 => (.nx, ρ2) := by
  unfold mSetO
  cases m ρ <;> rfl
def stS (i : Nat) (s : Sl) (ρ : En) : Option Sl → Option En
  | some (.io _) => none
  | some _ => some (ρ.set i s)
  | none => none
@[simp] theorem stS_va {s : Sl} : stS i s ρ (some (.va d)) = some (ρ.set i s) := rfl
@[simp] theorem stS_ow {s : Sl} : stS i s ρ (some (.ow o)) = some (ρ.set i s) := rfl
@[simp] theorem stS_no {s : Sl} : stS i s ρ (some .no) = some (ρ.set i s) := rfl
@[simp] theorem ev_stO : stO i o ρ = stS i (.ow o) ρ ρ[i]? := by
  unfold stO stS
  rfl
@[simp] theorem ev_stV : stV i d ρ = stS i (.va d) ρ ρ[i]? := by
  unfold stV stS
  rfl
@[simp] theorem ev_asgn : asg (.nm i) d ρ = stV i d ρ := by unfold asg; rfl
@[simp] theorem ev_asgt {ts : List Tg} {ds : List D} : asg (.tup ts) (.tup ds) ρ = asgL ts ds ρ := by conv => lhs; unfold asg
@[simp] theorem ev_asgL0 : asgL [] [] ρ = some ρ := by unfold asgL; rfl
@[simp] theorem ev_asgL {t : Tg} {ts : List Tg} {ds : List D} : asgL (t :: ts) (d :: ds) ρ = (asg t d ρ).bind fun ρ1 => asgL ts ds ρ1 := by conv => lhs; unfold asgL
def gO : Option Sl → Option Ow
  | some (.ow o) => some o
  | some (.io o) => some o
  | _ => none
@[simp] theorem gO_ow : gO (some (.ow o)) = some o := rfl
@[simp] theorem gO_io : gO (some (.io o)) = some o := rfl
@[simp] theorem ev_getO : getO i ρ = gO ρ[i]? := by
  unfold getO gO
  rfl
@[simp] theorem put_ow {o2 : Ow} : (Sl.ow o).put o2 = .ow o2 := rfl
@[simp] theorem put_io {o2 : Ow} : (Sl.io o).put o2 = .io o2 := rfl
@[simp] theorem ev_putO {o : Ow} : putO i o ρ = ρ.set i ((ρ.getD i .no).put o) := rfl
def lsO : Option Ow → Option (List D)
  | some (.lst ds) => some ds
  | _ => none
@[simp] theorem lsO_l {ds : List D} : lsO (some (.lst ds)) = some ds := rfl
@[simp] theorem ev_getL : getL i ρ = lsO (getO i ρ) := by
  unfold getL lsO
  rfl
@[simp] theorem ev_setIx {m mk : Mm D} : mSetIx m i mk ρ = (m ρ).bind fun p => (getO i p.2).bind fun _ => (mk p.2).bind fun k => (getO i k.2).bind fun o => (setO o k.1 p.1).map fun o2 => (.nx, putO i o2 k.2) := by
  unfold mSetIx
  cases e1 : m ρ with
  | none => rfl
  | some p =>
    obtain ⟨d, ρ1⟩ := p
    dsimp only [Option.bind]
    cases e2 : getO i ρ1 with
    | none => rfl
    | some o1 =>
      dsimp only
      cases e3 : mk ρ1 with
      | none => rfl
      | some k =>
        obtain ⟨kd, ρ2⟩ := k
        dsimp only
        cases e4 : getO i ρ2 with
        | none => rfl
        | some o =>
          dsimp only
          cases setO o kd d <;> rfl
@[simp] theorem ev_M1 {f : List D → D → Option (D × List D)} : mM1 i m f ρ = (getL i ρ).bind fun _ => (m ρ).bind fun p => (getL i p.2).bind fun ds => (f ds p.1).map fun r => (r.1, putO i (.lst r.2) p.2) := by
  unfold mM1
  cases e1 : getL i ρ with
  | none => rfl
  | some _ =>
    dsimp only [Option.bind]
    cases e2 : m ρ with
    | none => rfl
    | some p =>
      obtain ⟨x, ρ1⟩ := p
      dsimp only
      cases e3 : getL i ρ1 with
      | none => rfl
      | some ds =>
        dsimp only
        cases f ds x <;> rfl
@[simp] theorem ev_M0 {f : List D → Option (D × List D)} : mM0 i f ρ = (getL i ρ).bind fun ds => (f ds).map fun r => (r.1, putO i (.lst r.2) ρ) := by
  unfold mM0
  cases e1 : getL i ρ with
  | none => rfl
  | some ds =>
    dsimp only [Option.bind]
    cases f ds <;> rfl
@[simp] theorem ev_augIx {mk : Mm D} {f : D → D → Option D} : mAugIx i mk m f ρ = (getO i ρ).bind fun _ => (mk ρ).bind fun k => (getO i k.2).bind fun o1 => (dIx o1.d k.1).bind fun x => (m k.2).bind fun p => (f x p.1).bind fun z => (getO i p.2).bind fun o => (setO o k.1 z).map fun o2 => (.nx, putO i o2 p.2) := by
  unfold mAugIx
  cases e1 : getO i ρ with
  | none => rfl
  | some o0 =>
    dsimp only [Option.bind]
    cases e2 : mk ρ with
    | none => rfl
    | some k =>
      obtain ⟨kd, ρ1⟩ := k
      dsimp only
      cases e3 : getO i ρ1 with
      | none => rfl
      | some o1 =>
        dsimp only
        cases e4 : dIx o1.d kd with
        | none => rfl
        | some x =>
          dsimp only
          cases e5 : m ρ1 with
          | none => rfl
          | some p =>
            obtain ⟨y, ρ2⟩ := p
            dsimp only
            cases e6 : f x y with
            | none => rfl
            | some z =>
              dsimp only
              cases e7 : getO i ρ2 with
              | none => rfl
              | some o =>
                dsimp only
                cases setO o kd z <;> rfl
@[simp] theorem ev_for {it : Mm (List D)} {t : Tg} {b : Ms} : mFor it t b ρ = (it ρ).bind fun p => forF t b p.1 p.2 := by
  unfold mFor
  cases it ρ <;> rfl
@[simp] theorem ev_lc {it : Mm (List D)} {ix : List Nat} {t : Tg} {tt : Mm Bool} {el : Mm D} : mLc it ix t tt el ρ = (it ρ).bind fun p => (lcF ix t tt el p.1 [] (clr ix (dem ix p.2))).map fun q => (.lst q.1, rst ix (dem ix p.2) q.2) := by
  unfold mLc
  cases it ρ with
  | none => rfl
  | some p =>
    obtain ⟨ds, ρ1⟩ := p
    dsimp only [Option.bind]
    cases lcF ix t tt el ds [] (clr ix (dem ix ρ1)) <;> rfl
@[simp] theorem ev_dc {it : Mm (List D)} {ix : List Nat} {t : Tg} {tt : Mm Bool} {mk el : Mm D} : mDc it ix t tt mk el ρ = (it ρ).bind fun p => (dcF ix t tt mk el p.1 [] [] (clr ix (dem ix p.2))).map fun q => (.dct q.1.1 q.1.2, rst ix (dem ix p.2) q.2) := by
  unfold mDc
  cases it ρ with
  | none => rfl
  | some p =>
    obtain ⟨ds, ρ1⟩ := p
    dsimp only [Option.bind]
    cases dcF ix t tt mk el ds [] [] (clr ix (dem ix ρ1)) <;> rfl
def outF (ps : List Sl) : Option (Fl × En) → Option (Rs × Option Ow)
  | some (.nx, ρ) => ioOut ps ρ (.va .non)
  | some (.rv d, ρ) => ioOut ps ρ (.va d)
  | some (.ro o, ρ) => ioOut ps ρ (.ow o)
  | _ => none
@[simp] theorem outF_nx {ps : List Sl} : outF ps (some (.nx, ρ)) = ioOut ps ρ (.va .non) := rfl
@[simp] theorem outF_rv {ps : List Sl} : outF ps (some (.rv d, ρ)) = ioOut ps ρ (.va d) := rfl
@[simp] theorem outF_ro {ps : List Sl} : outF ps (some (.ro o, ρ)) = ioOut ps ρ (.ow o) := rfl
@[simp] theorem ev_runF {n : Nat} {b : Ms} {ps : List Sl} : runF n b ps = outF ps (b (ps ++ List.replicate (n - ps.length) .no)) := by
  unfold runF outF
  all_goals rfl
@[simp] theorem ioIx_nil : ioIx [] = none := rfl
@[simp] theorem ioIx_io {ps : List Sl} : ioIx (.io o :: ps) = some 0 := rfl
@[simp] theorem ioIx_va {ps : List Sl} : ioIx (.va d :: ps) = (ioIx ps).map (· + 1) := rfl
def ioG (r : Rs) : Option Sl → Option (Rs × Option Ow)
  | some (.io o) => some (r, some o)
  | _ => none
@[simp] theorem ioG_io {r : Rs} : ioG r (some (.io o)) = some (r, some o) := rfl
theorem ioOut_none {ps : List Sl} {r : Rs} (h : ioIx ps = none) : ioOut ps ρ r = some (r, none) := by
  unfold ioOut
  rw [h]
theorem ioOut_some {ps : List Sl} {r : Rs} (h : ioIx ps = some i) : ioOut ps ρ r = ioG r ρ[i]? := by
  unfold ioOut ioG
  rw [h]
  all_goals rfl
/-! calls -/
@[simp] theorem ev_ar0 : aR [] ρ = some ([], ρ) := rfl
@[simp] theorem ev_arv {as : List Ar} : aR (.v m :: as) ρ = (m ρ).bind fun p => (aR as p.2).map fun q => (.inl p.1 :: q.1, q.2) := by
  conv => lhs; unfold aR
  simp
  congr
  funext p
  cases aR as p.2 <;> rfl
@[simp] theorem ev_aro {as : List Ar} : aR (.o i :: as) ρ = (getO i ρ).bind fun _ => (aR as ρ).map fun q => (.inr i :: q.1, q.2) := by
  conv => lhs; unfold aR
  cases getO i ρ with
  | none => rfl
  | some o =>
    simp
    cases aR as ρ <;> rfl
@[simp] theorem ev_callR {n : Nat} {fm : Fm} {as : List Ar} : mCallR n fm as ρ = (aR as ρ).bind fun p => callF n fm p.1 p.2 := by
  unfold mCallR
  cases aR as ρ <;> rfl
theorem inl_facts : ∀ ds : List D, ioOne (ds.map .inl) = true ∧ ioS (ds.map .inl) = none ∧ (ds.map Sum.inl).mapM (fill1 ρ) = some (ds.map .va)
  | [] => ⟨rfl, rfl, rfl⟩
  | d :: ds => by
    obtain ⟨i1, i2, i3⟩ := inl_facts ds
    refine ⟨i1, i2, ?_⟩
    rw [List.map_cons, List.mapM_cons, i3]
    rfl
theorem callF_io {fm : Fm} {ds : List D} {n : Nat} (h : ds.length + 1 = n) : callF n fm (.inr i :: ds.map .inl) ρ = (getO i ρ).bind fun o => (fm (.io o :: ds.map .va)).bind fun r => r.2.map fun o' => (r.1, putO i o' ρ) := by
  obtain ⟨i1, i2, i3⟩ := inl_facts (ρ := ρ) ds
  have io : ioOne (.inr i :: ds.map .inl) = true := by
    show (ioS (ds.map .inl)).isNone = true
    rw [i2]
    rfl
  have is : ioS (.inr i :: ds.map .inl) = some i := rfl
  have hf : fill1 ρ (.inr i) = (getO i ρ).map .io := rfl
  unfold callF
  rw [if_pos ⟨io, by rw [List.length_cons, List.length_map]; exact h⟩, List.mapM_cons, i3, hf]
  cases e : getO i ρ with
  | none => rfl
  | some o =>
    show (match fm (.io o :: ds.map .va) with
      | some (r, oo) => (putIo (.inr i :: ds.map .inl) oo ρ).map fun ρ' => (r, ρ')
      | none => none) = (fm (.io o :: ds.map .va)).bind _
    cases fm (.io o :: ds.map .va) with
    | none => rfl
    | some r => obtain ⟨r, oo⟩ := r; cases oo <;> rfl
@[simp] theorem callF_io0 {fm : Fm} : callF 1 fm [.inr i] ρ = (getO i ρ).bind fun o => (fm [.io o]).bind fun r => r.2.map fun o' => (r.1, putO i o' ρ) := callF_io (ds := []) rfl
@[simp] theorem callF_io1 {fm : Fm} : callF 2 fm [.inr i, .inl d] ρ = (getO i ρ).bind fun o => (fm [.io o, .va d]).bind fun r => r.2.map fun o' => (r.1, putO i o' ρ) := callF_io (ds := [d]) rfl
@[simp] theorem callF_io2 {fm : Fm} : callF 3 fm [.inr i, .inl d, .inl x] ρ = (getO i ρ).bind fun o => (fm [.io o, .va d, .va x]).bind fun r => r.2.map fun o' => (r.1, putO i o' ρ) := callF_io (ds := [d, x]) rfl
theorem callF_all {fm : Fm} {n : Nat} {ds : List D} (h : ds.length = n) : callF n fm (ds.map .inl) ρ = (fm (ds.map .va)).map fun r => (r.1, ρ) := by
  obtain ⟨i1, i2, i3⟩ := inl_facts (ρ := ρ) ds
  unfold callF
  rw [if_pos ⟨i1, by rw [List.length_map]; exact h⟩, i3]
  dsimp only
  unfold putIo
  rw [i2]
  cases fm (ds.map .va) with
  | none => rfl
  | some r => obtain ⟨r, oo⟩ := r; cases oo <;> rfl
@[simp] theorem callF_1 {fm : Fm} {a : D} : callF 1 fm [.inl a] ρ = (fm [.va a]).map fun r => (r.1, ρ) := callF_all (ds := [a]) rfl
@[simp] theorem callF_2 {fm : Fm} {a b : D} : callF 2 fm [.inl a, .inl b] ρ = (fm [.va a, .va b]).map fun r => (r.1, ρ) := callF_all (ds := [a, b]) rfl
@[simp] theorem callF_3 {fm : Fm} {a b c : D} : callF 3 fm [.inl a, .inl b, .inl c] ρ = (fm [.va a, .va b, .va c]).map fun r => (r.1, ρ) := callF_all (ds := [a, b, c]) rfl
@[simp] theorem callF_4 {fm : Fm} {a b c d : D} : callF 4 fm [.inl a, .inl b, .inl c, .inl d] ρ = (fm [.va a, .va b, .va c, .va d]).map fun r => (r.1, ρ) := callF_all (ds := [a, b, c, d]) rfl
@[simp] theorem callF_5 {fm : Fm} {a b c d e : D} : callF 5 fm [.inl a, .inl b, .inl c, .inl d, .inl e] ρ = (fm [.va a, .va b, .va c, .va d, .va e]).map fun r => (r.1, ρ) := callF_all (ds := [a, b, c, d, e]) rfl
def rsV : Option (Rs × En) → Option (D × En)
  | some (.va d, ρ1) => some (d, ρ1)
  | _ => none
def rsO : Option (Rs × En) → Option (Ow × En)
  | some (.ow d, ρ1) => some (d, ρ1)
  | _ => none
@[simp] theorem rsV_va : rsV (some (.va d, ρ)) = some (d, ρ) := rfl
@[simp] theorem rsO_ow : rsO (some (.ow o, ρ)) = some (o, ρ) := rfl
@[simp] theorem ev_asV {m : En → Option (Rs × En)} : asV m ρ = rsV (m ρ) := by
  unfold asV rsV
  rfl
@[simp] theorem ev_asO {m : En → Option (Rs × En)} : asO m ρ = rsO (m ρ) := by
  unfold asO rsO
  rfl
end
end DL

set_option Elab.async false
set_option linter.all false
set_option maxRecDepth 100000
namespace DL
open PySem PySem.Spec PyProof.Rows L2
theorem log_small {i : Int} {n : Nat} (h0 : -(2 ^ n : Int) < i) (h : i < 2 ^ n) : i.natAbs.log2 ≤ n := by
  by_cases e : i.natAbs = 0
  · rw [e]; simp
  · have : i.natAbs < 2 ^ n := by
      have e2 : ((2 ^ n : Nat) : Int) = (2 : Int) ^ n := by simp
      omega
    exact Nat.le_of_lt ((Nat.log2_lt e).mpr this)
theorem dMul_ok {i j : Int} (h : i.natAbs.log2 ≤ 100000) (h2 : j.natAbs.log2 ≤ 100000) : dMul (.int i) (.int j) = some (.int (i * j)) := by
  unfold dMul
  exact if_pos (by omega)
@[simp] theorem dMod_ok {i j : Int} (h : 0 < j) : dMod (.int i) (.int j) = some (.int (i % j)) := by
  unfold dMod
  exact if_pos h
theorem dFdiv_ok {i j : Int} (h : 0 < j) (h2 : j.natAbs.log2 ≤ 1000) : dFdiv (.int i) (.int j) = some (.int (i / j)) := by
  unfold dFdiv
  exact if_pos ⟨h, by omega⟩
@[simp] theorem dAdd_ii {i j : Int} : dAdd (.int i) (.int j) = some (.int (i + j)) := rfl
@[simp] theorem dLt_ii {i j : Int} : dLt (.int i) (.int j) = some (.bl (decide (i < j))) := rfl
@[simp] theorem dGt_ii {i j : Int} : dGt (.int i) (.int j) = some (.bl (decide (j < i))) := rfl
@[simp] theorem dGe_ii {i j : Int} : dGe (.int i) (.int j) = some (.bl (decide (j ≤ i))) := rfl
@[simp] theorem dInt_i {i : Int} : dInt (.int i) = some (.int i) := rfl
@[simp] theorem dInt_b {b : Bool} : dInt (.bl b) = some (.int (if b then 1 else 0)) := rfl
@[simp] theorem dAbs_i {i : Int} : dAbs (.int i) = some (.int (if i < 0 then -i else i)) := rfl
@[simp] theorem dNeg_i {i : Int} : dNeg (.int i) = some (.int (-i)) := rfl
@[simp] theorem dEq_ii {i j : Int} : dEq (.int i) (.int j) = some (.bl (i == j)) := rfl
@[simp] theorem dEq_ss {i j : Str} : dEq (.str i) (.str j) = some (.bl (i == j)) := rfl
@[simp] theorem dNe_ss {i j : Str} : dNe (.str i) (.str j) = some (.bl (!(i == j))) := rfl
@[simp] theorem dNe_ii {i j : Int} : dNe (.int i) (.int j) = some (.bl (!(i == j))) := rfl
@[simp] theorem dLen_l {ds : List D} : dLen (.lst ds) = some (.int ds.length) := rfl
@[simp] theorem dLen_t {ds : List D} : dLen (.tup ds) = some (.int ds.length) := rfl
theorem ixN_nat {n i : Nat} (h : i < n) : ixN n (i : Int) = some i := by
  unfold ixN
  rw [if_pos (by omega), if_pos (by omega)]
  simp
theorem dAt_nat {α : Type} {xs : List α} {i : Nat} {v : α} (h : xs[i]? = some v) : dAt xs (i : Int) = some v := atI_nat h
@[simp] theorem dIx_li {ds : List D} {i : Int} : dIx (.lst ds) (.int i) = dAt ds i := rfl
@[simp] theorem dIx_ti {ds : List D} {i : Int} : dIx (.tup ds) (.int i) = dAt ds i := rfl
@[simp] theorem dAt0 {x : D} {ds : List D} : dAt (x :: ds) 0 = some x := dAt_nat (i := 0) rfl
@[simp] theorem dAt1 {x y : D} {ds : List D} : dAt (x :: y :: ds) 1 = some y := dAt_nat (i := 1) rfl
@[simp] theorem dAt2 {x y z : D} {ds : List D} : dAt (x :: y :: z :: ds) 2 = some z := dAt_nat (i := 2) rfl
@[simp] theorem dAt3 {x y z w : D} {ds : List D} : dAt (x :: y :: z :: w :: ds) 3 = some w := dAt_nat (i := 3) rfl
@[simp] theorem setO_l {ds : List D} {i : Int} {d : D} : setO (.lst ds) (.int i) d = (ixN ds.length i).map fun j => .lst (ds.set j d) := rfl
@[simp] theorem ixN40 : ixN (0 + 1 + 1 + 1 + 1) 0 = some 0 := ixN_nat (i := 0) (by decide)
@[simp] theorem ixN41 : ixN (0 + 1 + 1 + 1 + 1) 1 = some 1 := ixN_nat (i := 1) (by decide)
@[simp] theorem ixN42 : ixN (0 + 1 + 1 + 1 + 1) 2 = some 2 := ixN_nat (i := 2) (by decide)
@[simp] theorem ixN43 : ixN (0 + 1 + 1 + 1 + 1) 3 = some 3 := ixN_nat (i := 3) (by decide)
theorem mul_seed {s : Int} (h0 : 0 ≤ s) (h1 : s < 2147483543) : dMul (.int s) (.int 41203) = some (.int (s * 41203)) :=
  dMul_ok (Nat.le_trans (log_small (n := 31) (by omega) (by omega)) (by decide)) (by decide)
theorem mul_cell (x : Int) : dMul (.int (x % 999763)) (.int 9209) = some (.int (x % 999763 * 9209)) :=
  dMul_ok (Nat.le_trans (log_small (n := 31) (by omega) (by omega)) (by decide)) (by decide)
theorem mul_pos' {s : Int} (h0 : 0 ≤ s) (h1 : s ≤ 64) : dMul (.int s) (.int 70003) = some (.int (s * 70003)) :=
  dMul_ok (Nat.le_trans (log_small (n := 31) (by omega) (by omega)) (by decide)) (by decide)
theorem pow18 : dPow (.int 10) (.int 18) = some (.int 1000000000000000000) := by
  show (if (0 : Int) ≤ 18 ∧ (18 : Int) ≤ 1000000 ∧ (10 : Int).natAbs < 18446744073709551616 then some (D.int ((10 : Int) ^ (18 : Int).toNat)) else none) = _
  rw [if_pos ⟨by decide, by decide, by decide⟩]
  rfl
theorem div18 (x : Int) : dFdiv (.int x) (.int 1000000000000000000) = some (.int (x / 1000000000000000000)) := dFdiv_ok (by decide) (by decide +kernel)
theorem div1009 (x : Int) : dFdiv (.int x) (.int 1009) = some (.int (x / 1009)) := dFdiv_ok (by decide) (by decide +kernel)
@[simp] theorem gAddI_ii {i j : Int} : gAddI (.int i) (.int j) = some (.int (i + j)) := rfl
theorem ioIx2 {o : Ow} {d : D} : ioIx [.io o, .va d] = some 0 := rfl

/-! ### loops -/
theorem forF_nx {t : Tg} {b : Ms} {d : D} {ds : List D} {ρ ρ1 ρ2 : En} (e1 : asg t d ρ = some ρ1) (e2 : b ρ1 = some (.nx, ρ2)) : forF t b (d :: ds) ρ = forF t b ds ρ2 := by
  conv => lhs; unfold forF
  rw [e1]
  dsimp only
  rw [e2]
theorem forF_rv {t : Tg} {b : Ms} {d x : D} {ds : List D} {ρ ρ1 ρ2 : En} (e1 : asg t d ρ = some ρ1) (e2 : b ρ1 = some (.rv x, ρ2)) : forF t b (d :: ds) ρ = some (.rv x, ρ2) := by
  conv => lhs; unfold forF
  rw [e1]
  dsimp only
  rw [e2]
theorem whF_nx {t : Mm Bool} {b : Ms} {n : Nat} {ρ ρ1 ρ2 : En} (e1 : t ρ = some (true, ρ1)) (e2 : b ρ1 = some (.nx, ρ2)) : whF t b (n + 1) ρ = whF t b n ρ2 := by
  conv => lhs; unfold whF
  rw [e1]
  dsimp only
  rw [e2]
theorem whF_end {t : Mm Bool} {b : Ms} {n : Nat} {ρ ρ1 : En} (e1 : t ρ = some (false, ρ1)) : whF t b (n + 1) ρ = some (.nx, ρ1) := by
  conv => lhs; unfold whF
  rw [e1]
theorem forF_inv {t : Tg} {b : Ms} (I : List D → En → Prop) (h : ∀ d ds ρ, I (d :: ds) ρ → ∃ ρ1 f ρ2, asg t d ρ = some ρ1 ∧ b ρ1 = some (f, ρ2) ∧ (f = .nx ∨ f = .ct) ∧ I ds ρ2) :
    ∀ {ds : List D} {ρ : En}, I ds ρ → ∃ ρ', forF t b ds ρ = some (.nx, ρ') ∧ I [] ρ'
  | [], ρ, i => ⟨ρ, by unfold forF; rfl, i⟩
  | d :: ds, ρ, i => by
    obtain ⟨ρ1, f, ρ2, e1, e2, hf, i2⟩ := h d ds ρ i
    obtain ⟨ρ', e3, i3⟩ := forF_inv I h i2
    refine ⟨ρ', ?_, i3⟩
    unfold forF
    rw [e1]
    dsimp only
    rw [e2]
    rcases hf with hf | hf <;> (subst hf; exact e3)
theorem lcF_inv {ix : List Nat} {t : Tg} {tt : Mm Bool} {el : Mm D} (I : List D → List D → En → Prop)
    (h : ∀ d ds acc ρ, I (d :: ds) acc ρ → ∃ ρ1 b ρ2, asg t d ρ = some ρ1 ∧ tt ρ1 = some (b, ρ2) ∧ ((b = false ∧ I ds acc (clr ix ρ2)) ∨ (b = true ∧ ∃ y ρ3, el ρ2 = some (y, ρ3) ∧ acc.length < 16777216 ∧ I ds (acc ++ [y]) (clr ix ρ3)))) :
    ∀ {ds acc : List D} {ρ : En}, I ds acc ρ → ∃ acc' ρ', lcF ix t tt el ds acc ρ = some (acc', ρ') ∧ I [] acc' ρ'
  | [], acc, ρ, i => ⟨acc, ρ, by unfold lcF; rfl, i⟩
  | d :: ds, acc, ρ, i => by
    obtain ⟨ρ1, b, ρ2, e1, e2, hf⟩ := h d ds acc ρ i
    rcases hf with ⟨hb, i2⟩ | ⟨hb, y, ρ3, e3, hl, i2⟩
    · obtain ⟨acc', ρ', e4, i3⟩ := lcF_inv I h i2
      refine ⟨acc', ρ', ?_, i3⟩
      unfold lcF
      rw [e1]
      dsimp only
      rw [e2, hb]
      exact e4
    · obtain ⟨acc', ρ', e4, i3⟩ := lcF_inv I h i2
      refine ⟨acc', ρ', ?_, i3⟩
      unfold lcF
      rw [e1]
      dsimp only
      rw [e2, hb]
      dsimp only
      rw [e3]
      dsimp only
      rw [if_pos hl]
      exact e4
/-- a comprehension that leaves its surroundings as they are -/
theorem lcF_pure {ix : List Nat} {t : Tg} {tt : Mm Bool} {el : Mm D} {ρ0 : En} (g : D → Option D) :
    ∀ {ds acc : List D}, (∀ d ∈ ds, ∃ ρ1 b ρ2, asg t d ρ0 = some ρ1 ∧ tt ρ1 = some (b, ρ2) ∧ ((b = false ∧ g d = none ∧ clr ix ρ2 = ρ0) ∨ (b = true ∧ ∃ y ρ3, el ρ2 = some (y, ρ3) ∧ g d = some y ∧ clr ix ρ3 = ρ0))) →
      acc.length + ds.length ≤ 16777216 → lcF ix t tt el ds acc ρ0 = some (acc ++ ds.filterMap g, ρ0)
  | [], acc, h, hl => by
    unfold lcF
    rw [List.filterMap_nil, List.append_nil]
  | d :: ds, acc, h, hl => by
    rw [List.length_cons] at hl
    obtain ⟨ρ1, b, ρ2, e1, e2, hf⟩ := h d List.mem_cons_self
    have ht : ∀ d ∈ ds, _ := fun d hd => h d (List.mem_cons_of_mem _ hd)
    unfold lcF
    rw [e1]
    dsimp only
    rw [e2]
    rcases hf with ⟨hb, hg, hc⟩ | ⟨hb, y, ρ3, e3, hg, hc⟩
    · subst hb
      dsimp only
      rw [hc, lcF_pure g ht (by omega), List.filterMap_cons, hg]
    · subst hb
      dsimp only
      rw [e3]
      dsimp only
      rw [if_pos (by omega), hc, lcF_pure g ht (by rw [List.length_append, List.length_singleton]; omega), List.filterMap_cons, hg, List.append_assoc]
      rfl
theorem dcF_pure {ix : List Nat} {t : Tg} {tt : Mm Bool} {mk el : Mm D} {ρ0 : En} (g : D → Key × D) :
    ∀ {ds : List D} {ks : List Key} {acc : List D}, (∀ d ∈ ds, ∃ ρ1 ρ2 x ρ3 y ρ4, asg t d ρ0 = some ρ1 ∧ tt ρ1 = some (true, ρ2) ∧ mk ρ2 = some (x, ρ3) ∧ keyOf x = some (g d).1 ∧ el ρ3 = some (y, ρ4) ∧ (g d).2 = y ∧ clr ix ρ4 = ρ0) →
      ks.length + ds.length ≤ 16777216 → dcF ix t tt mk el ds ks acc ρ0 = some (mergeD ks acc (ds.map g), ρ0)
  | [], ks, acc, h, hl => by
    unfold dcF mergeD
    rfl
  | d :: ds, ks, acc, h, hl => by
    rw [List.length_cons] at hl
    obtain ⟨ρ1, ρ2, x, ρ3, y, ρ4, e1, e2, e3, e4, e5, e6, e7⟩ := h d List.mem_cons_self
    have ht : ∀ d ∈ ds, _ := fun d hd => h d (List.mem_cons_of_mem _ hd)
    unfold dcF
    rw [e1]
    dsimp only
    rw [e2]
    dsimp only
    rw [e3]
    dsimp only
    rw [e5]
    dsimp only
    rw [e4]
    dsimp only
    have hlen : (putKs ks (g d).1).length ≤ ks.length + 1 := by
      unfold putKs
      split
      · omega
      · rw [List.length_append, List.length_singleton]
        omega
    rw [if_pos (by omega), e7, dcF_pure g ht (by omega), List.map_cons]
    conv => rhs; unfold mergeD
    rw [e6]
theorem forF_idx {t : Tg} {b : Ms} {ds : List D} (I : Nat → En → Prop) (h : ∀ k d ρ, ds[k]? = some d → I k ρ → ∃ ρ1 f ρ2, asg t d ρ = some ρ1 ∧ b ρ1 = some (f, ρ2) ∧ (f = .nx ∨ f = .ct) ∧ I (k + 1) ρ2) {ρ : En} (i : I 0 ρ) :
    ∃ ρ', forF t b ds ρ = some (.nx, ρ') ∧ I ds.length ρ' := by
  obtain ⟨ρ', e, k, h1, h2, h3⟩ := forF_inv (t := t) (b := b) (fun rest ρ => ∃ k, rest = ds.drop k ∧ k ≤ ds.length ∧ I k ρ) (fun d rest ρ ⟨k, h1, h2, h3⟩ => by
    have hk : ds[k]? = some d := by
      have := congrArg (fun l => l[0]?) h1
      simpa using this.symm
    obtain ⟨ρ1, f, ρ2, e1, e2, e3, e4⟩ := h k d ρ hk h3
    have hlt := (List.getElem?_eq_some_iff.mp hk).1
    refine ⟨ρ1, f, ρ2, e1, e2, e3, k + 1, ?_, hlt, e4⟩
    have := congrArg List.tail h1
    simpa using this) (ds := ds) (ρ := ρ) ⟨0, by rw [List.drop_zero], Nat.zero_le _, i⟩
  have hk : k = ds.length := by
    have := congrArg List.length h1
    rw [List.length_drop, List.length_nil] at this
    omega
  subst hk
  exact ⟨ρ', e, h3⟩
theorem rngD_get {lo : Int} {n k : Nat} {d : D} (h : (rngD lo n)[k]? = some d) : k < n ∧ d = .int (lo + (k : Int)) := by
  unfold rngD at h
  rw [List.getElem?_map] at h
  obtain ⟨m, q1, rfl⟩ := Option.map_eq_some_iff.mp h
  obtain ⟨h1, h2⟩ := List.getElem?_eq_some_iff.mp q1
  rw [List.length_range] at h1
  rw [List.getElem_range] at h2
  subst h2
  exact ⟨h1, rfl⟩
theorem rngD_len {lo : Int} {n : Nat} : (rngD lo n).length = n := by
  unfold rngD
  rw [List.length_map, List.length_range]
theorem forF_rng {t : Tg} {b : Ms} {n : Nat} (I : Nat → En → Prop) (h : ∀ k ρ, k < n → I k ρ → ∃ ρ1 f ρ2, asg t (.int (k : Int)) ρ = some ρ1 ∧ b ρ1 = some (f, ρ2) ∧ (f = .nx ∨ f = .ct) ∧ I (k + 1) ρ2) {ρ : En} (i : I 0 ρ) :
    ∃ ρ', forF t b (rngD 0 n) ρ = some (.nx, ρ') ∧ I n ρ' := by
  have q := forF_idx (t := t) (b := b) (ds := rngD 0 n) I (fun k d ρ hk i => by
    obtain ⟨h1, rfl⟩ := rngD_get hk
    rw [Int.zero_add]
    exact h k ρ h1 i) i
  rw [rngD_len] at q
  exact q
theorem lcF_idx {ix : List Nat} {t : Tg} {tt : Mm Bool} {el : Mm D} {ds : List D} (I : Nat → List D → En → Prop)
    (h : ∀ k d acc ρ, ds[k]? = some d → I k acc ρ → ∃ ρ1 b ρ2, asg t d ρ = some ρ1 ∧ tt ρ1 = some (b, ρ2) ∧ ((b = false ∧ I (k + 1) acc (clr ix ρ2)) ∨ (b = true ∧ ∃ y ρ3, el ρ2 = some (y, ρ3) ∧ acc.length < 16777216 ∧ I (k + 1) (acc ++ [y]) (clr ix ρ3)))) {ρ : En} (i : I 0 [] ρ) :
    ∃ acc ρ', lcF ix t tt el ds [] ρ = some (acc, ρ') ∧ I ds.length acc ρ' := by
  obtain ⟨acc, ρ', e, k, h1, h2, h3⟩ := lcF_inv (ix := ix) (t := t) (tt := tt) (el := el) (fun rest acc ρ => ∃ k, rest = ds.drop k ∧ k ≤ ds.length ∧ I k acc ρ) (fun d rest acc ρ ⟨k, h1, h2, h3⟩ => by
    have hk : ds[k]? = some d := by
      have := congrArg (fun l => l[0]?) h1
      simpa using this.symm
    obtain ⟨ρ1, b, ρ2, e1, e2, e3⟩ := h k d acc ρ hk h3
    have hlt := (List.getElem?_eq_some_iff.mp hk).1
    have hr : rest = ds.drop (k + 1) := by
      have := congrArg List.tail h1
      simpa using this
    refine ⟨ρ1, b, ρ2, e1, e2, ?_⟩
    rcases e3 with ⟨e3, e4⟩ | ⟨e3, y, ρ3, e4, e5, e6⟩
    · exact .inl ⟨e3, k + 1, hr, hlt, e4⟩
    · exact .inr ⟨e3, y, ρ3, e4, e5, k + 1, hr, hlt, e6⟩) (ds := ds) (acc := []) (ρ := ρ) ⟨0, by rw [List.drop_zero], Nat.zero_le _, i⟩
  have hk : k = ds.length := by
    have := congrArg List.length h1
    rw [List.length_drop, List.length_nil] at this
    omega
  subst hk
  exact ⟨acc, ρ', e, h3⟩
/-! ### dicts -/
theorem hasK_mem {ks : List Key} {k : Key} : hasK ks k = true ↔ k ∈ ks := by
  unfold hasK
  rw [List.any_eq_true]
  exact ⟨fun ⟨x, h1, h2⟩ => by rw [← of_decide_eq_true h2]; exact h1, fun h => ⟨k, h, decide_eq_true rfl⟩⟩
theorem hasK_not {ks : List Key} {k : Key} (h : k ∉ ks) : hasK ks k = false := by
  cases e : hasK ks k with
  | false => rfl
  | true => exact absurd (hasK_mem.mp e) h
theorem mergeD_nodup : ∀ {qs : List (Key × D)} {ks : List Key} {ds : List D}, (ks ++ qs.map (·.1)).Nodup → mergeD ks ds qs = (ks ++ qs.map (·.1), ds ++ qs.map (·.2))
  | [], ks, ds, h => by
    unfold mergeD
    rw [List.map_nil, List.map_nil, List.append_nil, List.append_nil]
  | q :: qs, ks, ds, h => by
    unfold mergeD
    have hk : q.1 ∉ ks := fun z => by
      rw [List.map_cons] at h
      have h2 := (List.nodup_append.mp h).2.2 q.1 z q.1 List.mem_cons_self
      exact h2 rfl
    unfold putKs putDs
    rw [hasK_not hk]
    simp only [Bool.false_eq_true, if_false]
    rw [mergeD_nodup (by rw [List.append_assoc]; exact h), List.append_assoc, List.append_assoc]
    rfl
/-- a dict by its keys and a function -/
theorem lk_fun {α : Type} {f : α → Key} {g : α → D} : ∀ {xs : List α} {x : α}, x ∈ xs → (∀ y ∈ xs, f y = f x → y = x) → lk (xs.map f) (xs.map g) (f x) = some (g x)
  | [], x, h, _ => by cases h
  | y :: xs, x, h, inj => by
    rw [List.map_cons, List.map_cons]
    show (if f y = f x then some (g y) else lk (xs.map f) (xs.map g) (f x)) = _
    by_cases e : f y = f x
    · rw [if_pos e, inj y List.mem_cons_self e]
    · rw [if_neg e]
      have hx : x ∈ xs := (List.mem_cons.mp h).resolve_left fun z => e (by rw [z])
      exact lk_fun hx fun z hz => inj z (List.mem_cons_of_mem _ hz)
theorem putDs_fun {α : Type} {f : α → Key} {g : α → D} {xs : List α} {k : Key} {d : D} (h : k ∈ xs.map f) : putKs (xs.map f) k = xs.map f ∧ putDs (xs.map f) (xs.map g) k d = xs.map fun x => if f x = k then d else g x := by
  unfold putKs putDs
  rw [hasK_mem.mpr h]
  refine ⟨rfl, ?_⟩
  simp only [if_true]
  rw [List.zip_map', List.map_map]
  rfl
/-! ### membership, order of texts -/
theorem eqF_str (a b : Str) : eqF (.str a) (.str b) = decide (a = b) := by
  show (a == b) = _
  rw [beq_dec]
theorem inF_strs (a : Str) (xs : List Str) : inF (.str a) (xs.map .str) = decide (a ∈ xs) := by
  unfold inF
  rw [List.any_map, Bool.eq_iff_iff, List.any_eq_true, decide_eq_true_eq]
  constructor
  · rintro ⟨y, h1, h2⟩
    have h2 : eqF (.str y) (.str a) = true := h2
    rw [eqF_str, decide_eq_true_eq] at h2
    exact h2 ▸ h1
  · intro h
    refine ⟨a, h, ?_⟩
    show eqF (.str a) (.str a) = true
    rw [eqF_str, decide_eq_true rfl]
theorem flD_strs (xs : List Str) : (xs.map D.str).all flD = true := by
  rw [List.all_map, List.all_eq_true]
  intro _ _
  rfl
theorem dIn_l (a : Str) (xs : List Str) : dIn (.str a) (.lst (xs.map .str)) = some (.bl (decide (a ∈ xs))) := by
  show ((if (flD (.str a) && (xs.map D.str).all flD) = true then some (inF (.str a) (xs.map .str)) else none).map D.bl) = _
  rw [if_pos (by rw [flD_strs]; rfl), inF_strs]
  rfl
theorem dIn_t (a : Str) (xs : List Str) : dIn (.str a) (.tup (xs.map .str)) = some (.bl (decide (a ∈ xs))) := dIn_l a xs
theorem dIn_d (a : Str) (xs : List Str) (ds : List D) : dIn (.str a) (.dct (xs.map .inr) ds) = some (.bl (decide (a ∈ xs))) := by
  show (some (hasK (xs.map .inr) (.inr a))).map D.bl = _
  rw [Option.map_some]
  congr 2
  rw [Bool.eq_iff_iff, hasK_mem, decide_eq_true_eq, List.mem_map]
  exact ⟨fun ⟨y, h1, h2⟩ => by cases h2; exact h1, fun h => ⟨a, h, rfl⟩⟩
theorem dNotIn_l (a : Str) (xs : List Str) : dNotIn (.str a) (.lst (xs.map .str)) = some (.bl (!decide (a ∈ xs))) := by
  show ((if (flD (.str a) && (xs.map D.str).all flD) = true then some (inF (.str a) (xs.map .str)) else none).map fun b => D.bl !b) = _
  rw [if_pos (by rw [flD_strs]; rfl), inF_strs]
  rfl
theorem dNotIn_t (a : Str) (xs : List Str) : dNotIn (.str a) (.tup (xs.map .str)) = some (.bl (!decide (a ∈ xs))) := dNotIn_l a xs
theorem dNotIn_d (a : Str) (xs : List Str) (ds : List D) : dNotIn (.str a) (.dct (xs.map .inr) ds) = some (.bl (!decide (a ∈ xs))) := by
  have h := dIn_d a xs ds
  unfold dIn at h
  unfold dNotIn
  cases e : dInB (.str a) (.dct (xs.map .inr) ds) with
  | none => rw [e] at h; cases h
  | some b => rw [e] at h; cases h; rfl
/-- texts in order -/
def srt (xs : List Str) : List Str := xs.mergeSort fun a b => leD (.str a) (.str b)
theorem srt_map (xs : List Str) : (xs.map D.str).mergeSort leD = (srt xs).map D.str := (PySem.W.sort_maps (r := fun a b => leD (.str a) (.str b)) (s := leD) D.str (fun _ _ _ _ => rfl)).symm
theorem srt_perm (xs : List Str) : (srt xs).Perm xs := List.mergeSort_perm _ _
theorem srt_mem {xs : List Str} {a : Str} : a ∈ srt xs ↔ a ∈ xs := (srt_perm xs).mem_iff
theorem plL_strs : ∀ xs : List Str, plL (xs.map D.str) = true
  | [] => by unfold plL; rfl
  | x :: xs => by
    show ((D.str x).pl && plL (xs.map D.str)) = true
    rw [plL_strs xs]
    rfl
theorem sortOk_strs (xs : List Str) : sortOk (xs.map .str) = true := by
  unfold sortOk
  rw [Bool.and_eq_true, Bool.and_eq_true, Bool.and_eq_true]
  refine ⟨⟨⟨plL_strs xs, ?_⟩, ?_⟩, ?_⟩
  · unfold alikeB
    rw [List.all_map, List.all_eq_true]
    intro a _
    show ((xs.map D.str).all fun e => PySem.W.alike (D.str a).py e.py) = true
    rw [List.all_map, List.all_eq_true]
    intro b _
    show PySem.W.alike (D.str a).py (D.str b).py = true
    unfold D.py
    rfl
  · rw [List.all_map, List.all_eq_true]
    intro a _
    show decide ((D.str a).py.depth ≤ 60) = true
    unfold D.py
    rfl
  · rw [Bool.or_eq_true]
    right
    rw [List.all_map, List.all_eq_true]
    intro a _
    rfl
theorem dSort_strs (xs : List Str) : dSort (.lst (xs.map .str)) = some (.lst ((srt xs).map .str)) := by
  show (if sortOk (xs.map .str) = true then some (Ow.lst ((xs.map D.str).mergeSort leD)) else none) = _
  rw [if_pos (sortOk_strs xs), srt_map]
theorem strsOf_inr : ∀ xs : List Str, strsOf (xs.map .inr) = some xs
  | [] => rfl
  | x :: xs => by
    show (strsOf (xs.map .inr)).map (x :: ·) = _
    rw [strsOf_inr xs]
    rfl
theorem dSort_dct (xs : List Str) (ds : List D) (h : xs.length < 64) : dSort (.dct (xs.map .inr) ds) = some (.lst ((srt xs).map .str)) := by
  show (strsOf (xs.map .inr)).bind (fun xs => if xs.length < 64 then some (Ow.lst ((xs.map D.str).mergeSort leD)) else none) = _
  rw [strsOf_inr, Option.bind_some, if_pos h, srt_map]
/-- tuples of texts -/
def stD (w : List Str) : D := .tup (w.map .str)
theorem alike_strs : ∀ a b : List Str, PySem.W.alikeAll (pyL (a.map D.str)) (pyL (b.map D.str)) = true
  | [], [] => by unfold pyL; rfl
  | [], y :: b => by unfold pyL; rfl
  | x :: a, [] => by unfold pyL; rfl
  | x :: a, y :: b => by
    show PySem.W.alikeAll (pyL (D.str x :: a.map D.str)) (pyL (D.str y :: b.map D.str)) = true
    unfold pyL
    rw [PySem.W.alikeAll, alike_strs a b]
    unfold D.py
    rfl
theorem depth_strs : ∀ a : List Str, PyData.depthAll (pyL (a.map D.str)) ≤ 1
  | [] => by unfold pyL PyData.depthAll; decide
  | x :: a => by
    have := depth_strs a
    show PyData.depthAll (pyL (D.str x :: a.map D.str)) ≤ 1
    unfold pyL PyData.depthAll D.py PyData.depth
    omega
theorem sortOk_ways (ws : List (List Str)) : sortOk (ws.map stD) = true := by
  unfold sortOk
  rw [Bool.and_eq_true, Bool.and_eq_true, Bool.and_eq_true]
  refine ⟨⟨⟨?_, ?_⟩, ?_⟩, ?_⟩
  · induction ws with
    | nil => unfold plL; rfl
    | cons w ws ih =>
      show ((stD w).pl && plL (ws.map stD)) = true
      rw [ih, Bool.and_true]
      unfold stD D.pl
      exact plL_strs w
  · unfold alikeB
    rw [List.all_map, List.all_eq_true]
    intro a _
    show ((ws.map stD).all fun e => PySem.W.alike (stD a).py e.py) = true
    rw [List.all_map, List.all_eq_true]
    intro b _
    show PySem.W.alike (stD a).py (stD b).py = true
    unfold stD D.py
    exact alike_strs a b
  · rw [List.all_map, List.all_eq_true]
    intro a _
    show decide ((stD a).py.depth ≤ 60) = true
    rw [decide_eq_true_eq]
    have := depth_strs a
    unfold stD D.py PyData.depth
    omega
  · rw [Bool.or_eq_true]
    left
    rw [List.all_map, List.all_eq_true]
    intro a _
    rfl
def srtW (ws : List (List Str)) : List (List Str) := ws.mergeSort fun a b => leD (stD a) (stD b)
theorem dSort_ways (ws : List (List Str)) : dSort (.lst (ws.map stD)) = some (.lst ((srtW ws).map stD)) := by
  show (if sortOk (ws.map stD) = true then some (Ow.lst ((ws.map stD).mergeSort leD)) else none) = _
  rw [if_pos (sortOk_ways ws)]
  rw [← PySem.W.sort_maps (r := fun a b => leD (stD a) (stD b)) (s := leD) stD (fun _ _ _ _ => rfl)]
  rfl
theorem py_tup (ds : List D) : (D.tup ds).py = .tuple (pyL ds) := by rw [D.py]
theorem py_str (x : Str) : (D.str x).py = .str x := by rw [D.py]
theorem py_nil : pyL [] = [] := by rw [pyL]
theorem py_cons (d : D) (ds : List D) : pyL (d :: ds) = d.py :: pyL ds := by rw [pyL]
theorem pl_tup (ds : List D) : (D.tup ds).pl = plL ds := by rw [D.pl]
theorem pl_str (x : Str) : (D.str x).pl = true := rfl
theorem pl_nil : plL [] = true := by rw [plL]
theorem pl_cons (d : D) (ds : List D) : plL (d :: ds) = (d.pl && plL ds) := by rw [plL]
/-! ### rows of a text and a tuple of texts -/
abbrev Row := Str × List Str
def rowD (r : Row) : D := .tup [.str r.1, stD r.2]
def ladD (L : List Row) : D := .tup (L.map rowD)
theorem sortOk_rows (L : List Row) : sortOk (L.map rowD) = true := by
  unfold sortOk
  rw [Bool.and_eq_true, Bool.and_eq_true, Bool.and_eq_true]
  refine ⟨⟨⟨?_, ?_⟩, ?_⟩, ?_⟩
  · induction L with
    | nil => unfold plL; rfl
    | cons w ws ih =>
      show ((rowD w).pl && plL (ws.map rowD)) = true
      rw [ih, Bool.and_true]
      rw [rowD, stD, pl_tup, pl_cons, pl_cons, pl_nil, pl_tup, plL_strs, pl_str]
      rfl
  · unfold alikeB
    rw [List.all_map, List.all_eq_true]
    intro a _
    show ((L.map rowD).all fun e => PySem.W.alike (rowD a).py e.py) = true
    rw [List.all_map, List.all_eq_true]
    intro b _
    show PySem.W.alike (rowD a).py (rowD b).py = true
    have h := alike_strs a.2 b.2
    have e3 : (rowD a).py = .tuple [.str a.1, .tuple (pyL (a.2.map D.str))] := by rw [rowD, stD, py_tup, py_cons, py_cons, py_nil, py_tup, py_str]
    have e4 : (rowD b).py = .tuple [.str b.1, .tuple (pyL (b.2.map D.str))] := by rw [rowD, stD, py_tup, py_cons, py_cons, py_nil, py_tup, py_str]
    rw [e3, e4]
    rw [PySem.W.alike, PySem.W.alikeAll, PySem.W.alikeAll, PySem.W.alike, PySem.W.alike, h]
    rfl
  · rw [List.all_map, List.all_eq_true]
    intro a _
    show decide ((rowD a).py.depth ≤ 60) = true
    rw [decide_eq_true_eq]
    have := depth_strs a.2
    rw [rowD, stD, py_tup, py_cons, py_cons, py_nil, py_tup, py_str, PyData.depth, PyData.depthAll, PyData.depthAll, PyData.depthAll, PyData.depth, PyData.depth]
    omega
  · rw [Bool.or_eq_true]
    left
    rw [List.all_map, List.all_eq_true]
    intro a _
    rfl
def srtR (L : List Row) : List Row := L.mergeSort fun a b => leD (rowD a) (rowD b)
theorem srtR_perm (L : List Row) : (srtR L).Perm L := List.mergeSort_perm _ _
theorem dSort_rows (L : List Row) : dSort (.lst (L.map rowD)) = some (.lst ((srtR L).map rowD)) := by
  show (if sortOk (L.map rowD) = true then some (Ow.lst ((L.map rowD).mergeSort leD)) else none) = _
  rw [if_pos (sortOk_rows L)]
  rw [← PySem.W.sort_maps (r := fun a b => leD (rowD a) (rowD b)) (s := leD) rowD (fun _ _ _ _ => rfl)]
  rfl
end DL

set_option Elab.async false
set_option linter.all false
set_option maxRecDepth 100000
namespace DL
open PySem PySem.Spec PyProof.Rows L2
/-! ### ladders: rows of a kind and its bosses -/
def keys (L : List Row) : List Str := L.map (·.1)
theorem keys_len (L : List Row) : (keys L).length = L.length := List.length_map ..
def bo : List Row → Str → Option (List Str)
  | [], _ => none
  | r :: L, k => if r.1 = k then some r.2 else bo L k
theorem bo_mem : ∀ {L : List Row} {k : Str} {bs : List Str}, bo L k = some bs → (k, bs) ∈ L
  | [], _, _, h => by cases h
  | r :: L, k, bs, h => by
    unfold bo at h
    split at h
    · rename_i e
      cases h
      subst e
      exact List.mem_cons_self
    · exact List.mem_cons_of_mem _ (bo_mem h)
theorem bo_key : ∀ {L : List Row} {k : Str}, k ∈ keys L → ∃ bs, bo L k = some bs
  | [], _, h => by cases h
  | r :: L, k, h => by
    unfold bo
    by_cases e : r.1 = k
    · exact ⟨_, if_pos e⟩
    · rw [if_neg e]
      exact bo_key ((List.mem_cons.mp (show k ∈ r.1 :: keys L from h)).resolve_left fun z => e z.symm)
structure LOk (L : List Row) : Prop where
  nd : (keys L).Nodup
  ne : ("" : Str) ∉ keys L
  inn : ∀ r ∈ L, ∀ b ∈ r.2, b = "" ∨ b ∈ keys L
  bnd : ∀ r ∈ L, r.2.Nodup
  len : L.length ≤ 5
theorem LOk.inn' {L : List Row} (h : LOk L) {k b : Str} {bs : List Str} (e : bo L k = some bs) (hb : b ∈ bs) (hn : b ≠ "") : b ∈ keys L := (h.inn _ (bo_mem e) b hb).resolve_left hn
theorem LOk.bnd' {L : List Row} (h : LOk L) {k : Str} {bs : List Str} (e : bo L k = some bs) : bs.Nodup := h.bnd _ (bo_mem e)
theorem LOk.blen {L : List Row} (h : LOk L) {k : Str} {bs : List Str} (e : bo L k = some bs) : bs.length ≤ 6 := by
  have h1 : bs ⊆ "" :: keys L := fun b hb => by
    rcases h.inn _ (bo_mem e) b hb with z | z
    · exact z ▸ List.mem_cons_self
    · exact List.mem_cons_of_mem _ z
  have h2 := (h.bnd' e).length_le_of_subset h1
  have := h.len
  rw [List.length_cons, keys_len] at h2
  omega
def dctKs (L : List Row) : List Key := (keys L).map .inr
def dctDs (L : List Row) : List D := L.map fun r => stD r.2
theorem pairsOf_lad : ∀ L : List Row, pairsOf (L.map rowD) = some (L.map fun r => (.inr r.1, stD r.2))
  | [] => rfl
  | r :: L => by
    show (some (Sum.inr r.1)).bind (fun k => (pairsOf (L.map rowD)).map ((k, stD r.2) :: ·)) = _
    rw [pairsOf_lad L]
    rfl
theorem dDict_lad {L : List Row} (h : (keys L).Nodup) : dDict (ladD L) = some (.dct (dctKs L) (dctDs L)) := by
  show (pairsOf (L.map rowD)).map (fun qs => Ow.dct (mergeD [] [] qs).1 (mergeD [] [] qs).2) = _
  rw [pairsOf_lad, Option.map_some, mergeD_nodup]
  · unfold dctKs dctDs keys
    simp [List.map_map, Function.comp_def]
  · rw [List.nil_append, List.map_map]
    have : ((fun q : Key × D => q.1) ∘ fun r : Row => ((Sum.inr r.1 : Key), stD r.2)) = (Sum.inr ∘ fun r : Row => r.1) := rfl
    rw [this, ← List.map_map]
    exact List.Pairwise.map _ (fun a b h z => h (Sum.inr.inj z)) h
theorem lk_lad : ∀ (L : List Row) (k : Str), lk (dctKs L) (dctDs L) (.inr k) = (bo L k).map stD
  | [], k => rfl
  | r :: L, k => by
    show (if (Sum.inr r.1 : Key) = .inr k then some (stD r.2) else lk (dctKs L) (dctDs L) (.inr k)) = _
    unfold bo
    by_cases e : r.1 = k
    · rw [if_pos (by rw [e]), if_pos e]
      rfl
    · rw [if_neg (fun z => e (Sum.inr.inj z)), if_neg e]
      exact lk_lad L k
theorem dIx_lad (L : List Row) (k : Str) : dIx (.dct (dctKs L) (dctDs L)) (.str k) = (bo L k).map stD := by
  show (some (Sum.inr k)).bind (fun k => lk (dctKs L) (dctDs L) k) = _
  rw [Option.bind_some, lk_lad]
/-! ### the walk upwards: what is found, what waits -/
abbrev FW := List Str × List Str
def vis (s : FW) (b : Str) : FW := if b ≠ "" ∧ b ∉ s.1 then (s.1 ++ [b], s.2 ++ [b]) else s
inductive Dfs (L : List Row) : FW → List Str → Prop where
  | nil (f : List Str) : Dfs L (f, []) f
  | step (f w : List Str) (k : Str) (bs r : List Str) (e : bo L k = some bs) (h : Dfs L (bs.foldl vis (f, w)) r) : Dfs L (f, w ++ [k]) r
/-- found and waiting are kinds -/
structure FOk (L : List Row) (s : FW) : Prop where
  nd : s.1.Nodup
  f : ∀ b ∈ s.1, b ∈ keys L
  w : ∀ b ∈ s.2, b ∈ keys L
theorem FOk.len {L : List Row} {s : FW} (h : FOk L s) : s.1.length ≤ L.length := by
  have := h.nd.length_le_of_subset (l₂ := keys L) h.f
  rwa [keys_len] at this
theorem vis_le (s : FW) (b : Str) : (vis s b).2.length ≤ s.2.length + 1 := by
  unfold vis
  split
  · rw [List.length_append]
    exact Nat.le_refl _
  · omega
theorem vis_ok {L : List Row} {s : FW} {b : Str} (h : FOk L s) (hb : b = "" ∨ b ∈ keys L) : FOk L (vis s b) ∧ (vis s b).2.length + s.1.length = s.2.length + (vis s b).1.length ∧ s.1.length ≤ (vis s b).1.length := by
  unfold vis
  split
  · rename_i q
    have hk := hb.resolve_left q.1
    refine ⟨⟨List.nodup_append.mpr ⟨h.nd, List.pairwise_singleton _ _, fun a ha c hc z => q.2 ?_⟩, fun a ha => ?_, fun a ha => ?_⟩, ?_⟩
    · rw [List.mem_singleton] at hc
      rw [← hc, ← z]
      exact ha
    · rcases List.mem_append.mp ha with ha | ha
      · exact h.f a ha
      · rw [List.mem_singleton] at ha
        exact ha ▸ hk
    · rcases List.mem_append.mp ha with ha | ha
      · exact h.w a ha
      · rw [List.mem_singleton] at ha
        exact ha ▸ hk
    · simp
      omega
  · exact ⟨h, rfl, Nat.le_refl _⟩
theorem visL_ok {L : List Row} : ∀ {bs : List Str} {s : FW}, FOk L s → (∀ b ∈ bs, b = "" ∨ b ∈ keys L) → FOk L (bs.foldl vis s) ∧ (bs.foldl vis s).2.length + s.1.length = s.2.length + (bs.foldl vis s).1.length ∧ s.1.length ≤ (bs.foldl vis s).1.length
  | [], s, h, _ => ⟨h, rfl, Nat.le_refl _⟩
  | b :: bs, s, h, hb => by
    obtain ⟨h1, h2, h5⟩ := vis_ok h (hb b List.mem_cons_self)
    obtain ⟨h3, h4, h6⟩ := visL_ok h1 fun c hc => hb c (List.mem_cons_of_mem _ hc)
    refine ⟨h3, ?_⟩
    rw [List.foldl_cons]
    constructor <;> omega
theorem dfs_ex {L : List Row} (hL : LOk L) : ∀ (n : Nat) (s : FW), FOk L s → 2 * (L.length - s.1.length) + s.2.length ≤ n → ∃ r, Dfs L s r ∧ r.Nodup ∧ ∀ b ∈ r, b ∈ keys L
  | n, (f, []), h, _ => ⟨f, .nil f, h.nd, h.f⟩
  | 0, (f, k :: w), h, hn => by simp at hn
  | n + 1, (f, k :: w), h, hn => by
    obtain ⟨w', k', e⟩ : ∃ w' k', k :: w = w' ++ [k'] := ⟨_, _, (List.dropLast_concat_getLast (List.cons_ne_nil k w)).symm⟩
    rw [e] at h hn ⊢
    obtain ⟨bs, eb⟩ := bo_key (h.w k' (List.mem_append_right _ (List.mem_singleton_self _)))
    have h0 : FOk L (f, w') := ⟨h.nd, h.f, fun b hb => h.w b (List.mem_append_left _ hb)⟩
    obtain ⟨h1, h2, h5⟩ := visL_ok h0 (hL.inn _ (bo_mem eb))
    have h3 := h1.len
    have h4 := h0.len
    obtain ⟨r, d, g1, g2⟩ := dfs_ex hL n (bs.foldl vis (f, w')) h1 (by
      dsimp only at h4 hn h2 h5 h3
      rw [List.length_append, List.length_singleton] at hn
      omega)
    exact ⟨r, .step f w' k' bs r eb d, g1, g2⟩
theorem reach_ex {L : List Row} (hL : LOk L) {k : Str} (hk : k ∈ keys L) : ∃ r, Dfs L ([], [k]) r ∧ r.Nodup ∧ ∀ b ∈ r, b ∈ keys L :=
  dfs_ex hL _ ([], [k]) ⟨.nil, (fun b h => by cases h), fun b h => by rw [List.mem_singleton] at h; exact h ▸ hk⟩ (Nat.le_refl _)
end DL

set_option Elab.async false
set_option linter.all false
set_option maxRecDepth 100000
set_option maxHeartbeats 0
namespace DL
open PySem PySem.Spec PyProof.Rows L2
def top (i : Nat) : Stmt := PySem.Challenge.pw_whoeversigns_k43_ladders_looked_at.main.body.getD i (.Pass ⟨0, 0, 0, 0⟩)
structure Bt (mg : Str → Option Value) : Prop where
  b_abs : mg "abs" = none
  b_bool : mg "bool" = none
  b_dict : mg "dict" = none
  b_int : mg "int" = none
  b_isinstance : mg "isinstance" = none
  b_len : mg "len" = none
  b_list : mg "list" = none
  b_range : mg "range" = none
  b_sorted : mg "sorted" = none
  b_str : mg "str" = none
  b_sum : mg "sum" = none
  b_tuple : mg "tuple" = none
abbrev st_kinds_of : Stmt := top 1
abbrev st_bosses_of : Stmt := top 2
abbrev st_ways_of : Stmt := top 4
abbrev st_way_count : Stmt := top 5
abbrev st_kinds_above : Stmt := top 7
abbrev st_can_be_over : Stmt := top 8
abbrev st_kinds_below : Stmt := top 9
abbrev st_ring_kinds : Stmt := top 10
abbrev st__law_take : Stmt := top 12
abbrev st__law_vat : Stmt := top 13
abbrev st__law_same : Stmt := top 14
abbrev st__law_words : Stmt := top 15
abbrev st__law_ladder : Stmt := top 16
abbrev st__law_reach : Stmt := top 17
abbrev st__law_ways : Stmt := top 18
abbrev st__law_many : Stmt := top 19
abbrev st__law_looked : Stmt := top 20
abbrev st__law_named : Stmt := top 21
abbrev st_law : Stmt := top 22
/-! ### mirrors -/
noncomputable section
-- kinds_of(ladder): slots 0 ladder, 1 kind, 2 bosses -> V
def m_kinds_of : Ms := (mRet (m1 (.e (mOv (mLc (mIt (mVar 0)) [1, 2] (.tup [(.nm 1), (.nm 2)]) (ret true) (mVar 1)))) dTuple))
def f_kinds_of : Fm := runF 3 m_kinds_of
-- bosses_of(ladder, kind): slots 0 ladder, 1 kind -> V
def m_bosses_of : Ms := (mRet (m2 (.e (mOv (m1 (.n 0) dDict))) (.n 1) dIx))
def f_bosses_of : Fm := runF 2 m_bosses_of
-- ways_of(ladder, kind, aim, bars, most): slots 0 ladder, 1 kind, 2 aim, 3 bars, 4 most, 5 found, 6 layer, 7 length, 8 further, 9 way, 10 last, 11 boss -> V
def l1_ways_of : Ms := (mSeq (mAsg (mIf (m1 (.n 9) dTru) (m2 (.n 9) (.e (m1 (.e (mC (.int 1))) dNeg)) dIx) (mVar 1)) (.nm 10))
  (mSeq (mIfS (mTb (m2 (.n 2) (.e (asV (mCallR 2 f_bosses_of [.v (mVar 0), .v (mVar 10)]))) dIn))
  (mExpr (mM1 5 (mVar 9) fApp))
  mSkip)
  (mExpr (mM1 8 (mOv (mLc (mIt (asV (mCallR 2 f_bosses_of [.v (mVar 0), .v (mVar 10)]))) [11] (.nm 11) (mAnd (mTb (m2 (.n 11) (.e (mC (.str ""))) dNe)) (mTb (m2 (.n 11) (.n 3) dNotIn))) (m2 (.n 9) (.e (mTup (mCons (mVar 11) mNil))) dAdd))) fExt))))
def l2_ways_of : Ms := (mSeq (mSetO (mLst mNil) 8)
  (mSeq (mFor (mIt (mVar 6)) (.nm 9)
  l1_ways_of)
  (mAsg (mVar 8) (.nm 6))))
def m_ways_of : Ms := (mSeq (mSetO (mLst mNil) 5)
  (mSeq (mSetO (mLst (mCons (mTup mNil) mNil)) 6)
  (mSeq (mFor (mRng rng1 (mCons (m2 (.n 4) (.e (mC (.int 1))) dAdd) mNil)) (.nm 7)
  l2_ways_of)
  (mRet (m1 (.e (mOv (m1 (.n 5) dSort))) dTuple)))))
def f_ways_of : Fm := runF 12 m_ways_of
-- way_count(ladder, kind, aim, many): slots 0 ladder, 1 kind, 2 aim, 3 many, 4 counts, 5 lap, 6 further, 7 one, 8 boss -> V
def l1_way_count : Ms := (mIfS (mTb (m2 (.n 8) (.e (mC (.str ""))) dNe))
  (mAugIx 6 (mVar 8) (m2 (.n 4) (.n 7) dIx) gAddI)
  mSkip)
def l2_way_count : Ms := (mFor (mIt (asV (mCallR 2 f_bosses_of [.v (mVar 0), .v (mVar 7)]))) (.nm 8)
  l1_way_count)
def l3_way_count : Ms := (mSeq (mSetO (mDc (mIt (asV (mCallR 1 f_kinds_of [.v (mVar 0)]))) [7] (.nm 7) (ret true) (mVar 7) (mC (.int 0))) 6)
  (mSeq (mFor (mIt (mVar 4)) (.nm 7)
  l2_way_count)
  (mAsg (mVar 6) (.nm 4))))
def m_way_count : Ms := (mSeq (mSetO (mDc (mIt (asV (mCallR 1 f_kinds_of [.v (mVar 0)]))) [7] (.nm 7) (ret true) (mVar 7) (m1 (.e (m2 (.n 7) (.n 1) dEq)) dInt)) 4)
  (mSeq (mFor (mRng rng1 (mCons (mVar 3) mNil)) (.nm 5)
  l3_way_count)
  (mRet (m1 (.e (mOv (mLc (mIt (mVar 4)) [7] (.nm 7) (mTb (m2 (.n 2) (.e (asV (mCallR 2 f_bosses_of [.v (mVar 0), .v (mVar 7)]))) dIn)) (m2 (.n 4) (.n 7) dIx)))) dSum))))
def f_way_count : Fm := runF 9 m_way_count
-- kinds_above(ladder, kind): slots 0 ladder, 1 kind, 2 found, 3 waiting, 4 boss -> V
def l1_kinds_above : Ms := (mIfS (mAnd (mTb (m2 (.n 4) (.e (mC (.str ""))) dNe)) (mTb (m2 (.n 4) (.n 2) dNotIn)))
  (mSeq (mSetIx (mC (.bl true)) 2 (mVar 4))
  (mExpr (mM1 3 (mVar 4) fApp)))
  mSkip)
def l2_kinds_above : Ms := (mFor (mIt (asV (mCallR 2 f_bosses_of [.v (mVar 0), .v (mM0 3 fPop)]))) (.nm 4)
  l1_kinds_above)
def m_kinds_above : Ms := (mSeq (mSetO mDct0 2)
  (mSeq (mSetO (mLst (mCons (mVar 1) mNil)) 3)
  (mSeq (mWhile (m1 (.n 3) dTru)
  l2_kinds_above)
  (mRet (m1 (.e (mOv (m1 (.n 2) dSort))) dTuple)))))
def f_kinds_above : Fm := runF 5 m_kinds_above
-- can_be_over(ladder, one, other): slots 0 ladder, 1 one, 2 other -> V
def m_can_be_over : Ms := (mRet (m2 (.n 1) (.e (asV (mCallR 2 f_kinds_above [.v (mVar 0), .v (mVar 2)]))) dIn))
def f_can_be_over : Fm := runF 3 m_can_be_over
-- kinds_below(ladder, kind): slots 0 ladder, 1 kind, 2 one -> V
def m_kinds_below : Ms := (mRet (m1 (.e (mOv (mLc (mIt (asV (mCallR 1 f_kinds_of [.v (mVar 0)]))) [2] (.nm 2) (m1 (.e (asV (mCallR 3 f_can_be_over [.v (mVar 0), .v (mVar 1), .v (mVar 2)]))) dTru) (mVar 2)))) dTuple))
def f_kinds_below : Fm := runF 3 m_kinds_below
-- ring_kinds(ladder): slots 0 ladder, 1 kind -> V
def m_ring_kinds : Ms := (mRet (m1 (.e (mOv (mLc (mIt (asV (mCallR 1 f_kinds_of [.v (mVar 0)]))) [1] (.nm 1) (m1 (.e (asV (mCallR 3 f_can_be_over [.v (mVar 0), .v (mVar 1), .v (mVar 1)]))) dTru) (mVar 1)))) dTuple))
def f_ring_kinds : Fm := runF 2 m_ring_kinds
-- _law_take(vat, many): slots 0 vat, 1 many, 2 cell, 3 got io vat -> V
def m__law_take : Ms := (mSeq (mIfS (mTb (m2 (.e (m2 (.n 0) (.e (mC (.int 1))) dIx)) (.e (m1 (.e (m2 (.n 0) (.e (mC (.int 0))) dIx)) dLen)) dLt))
  (mSeq (mAsg (m1 (.e (m2 (.e (m2 (.n 0) (.e (mC (.int 0))) dIx)) (.e (m2 (.n 0) (.e (mC (.int 1))) dIx)) dIx)) dAbs) (.nm 2))
  (mSeq (mIfS (mTb (m2 (.e (m2 (.n 0) (.e (mC (.int 2))) dIx)) (.e (mC (.int 0))) dEq))
  (mSeq (mSetIx (m2 (.e (m1 (.e (m2 (.e (m2 (.e (m2 (.e (m2 (.n 0) (.e (mC (.int 3))) dIx)) (.e (mC (.int 41203))) dMul)) (.e (m2 (.e (m2 (.n 2) (.e (mC (.int 999763))) dMod)) (.e (mC (.int 9209))) dMul)) dAdd)) (.e (mC (.int 70003))) dAdd)) dInt)) (.e (mC (.int 2147483543))) dMod) 0 (mC (.int 3)))
  (mSetIx (mIf (mTb (m2 (.n 2) (.e (m2 (.e (mC (.int 10))) (.e (mC (.int 18))) dPow)) dGe)) (m2 (.n 2) (.e (m2 (.e (mC (.int 10))) (.e (mC (.int 18))) dPow)) dFdiv) (m1 (.e (mC (.int 1))) dNeg)) 0 (mC (.int 2))))
  mSkip)
  (mSeq (mIfS (mTb (m2 (.e (m2 (.n 0) (.e (mC (.int 2))) dIx)) (.e (mC (.int 0))) dGt))
  (mSeq (mAsg (m2 (.e (m1 (.e (m2 (.n 0) (.e (mC (.int 2))) dIx)) dInt)) (.n 1) dMod) (.nm 3))
  (mSeq (mSetIx (m2 (.e (m2 (.n 0) (.e (mC (.int 2))) dIx)) (.n 1) dFdiv) 0 (mC (.int 2)))
  (mSeq (mIfS (mTb (m2 (.e (m2 (.n 0) (.e (mC (.int 2))) dIx)) (.e (mC (.int 0))) dEq))
  (mAugIx 0 (mC (.int 1)) (mC (.int 1)) gAddI)
  mSkip)
  (mRet (mVar 3)))))
  mSkip)
  (mSeq (mAugIx 0 (mC (.int 1)) (mC (.int 1)) gAddI)
  (mSetIx (mC (.int 0)) 0 (mC (.int 2)))))))
  mSkip)
  (mSeq (mSetIx (m2 (.e (m1 (.e (m2 (.e (m2 (.e (m2 (.e (m2 (.n 0) (.e (mC (.int 3))) dIx)) (.e (mC (.int 41203))) dMul)) (.e (m2 (.e (m2 (.n 0) (.e (mC (.int 1))) dIx)) (.e (mC (.int 70003))) dMul)) dAdd)) (.e (mC (.int 9209))) dAdd)) dInt)) (.e (mC (.int 2147483543))) dMod) 0 (mC (.int 3)))
  (mRet (m2 (.e (m1 (.e (m2 (.e (m2 (.n 0) (.e (mC (.int 3))) dIx)) (.e (mC (.int 1009))) dFdiv)) dInt)) (.n 1) dMod))))
def f__law_take : Fm := runF 4 m__law_take
-- _law_vat(script): slots 0 script, 1 cell -> O
def m__law_vat : Ms := (mRetO (mLst (mCons (mOv (mLc (mIt (mOv (mSl (.n 0) mPn (mPs (mC (.int 63))) dSlL))) [1] (.nm 1) (ret true) (m1 (.n 1) dInt))) (mCons (mC (.int 0)) (mCons (mC (.int 0)) (mCons (mC (.int 92987)) mNil))))))
def f__law_vat : Fm := runF 2 m__law_vat
-- _law_same(told, due): slots 0 told, 1 due, 2 rest, 3 count, 4 one, 5 two, 6 k -> V
def l1__law_same : Ms := (mExpr (mM1 2 (mTup (mCons (m2 (.n 4) (.n 6) dIx) (mCons (m2 (.n 5) (.n 6) dIx) mNil))) fApp))
def l2__law_same : Ms := (mSeq (mIfS (mTb (m2 (.e (m1 (.n 2) dLen)) (.e (mC (.int 0))) dEq))
  (mRet (mC (.bl true)))
  mSkip)
  (mSeq (mAsg (mM0 2 fPop) (.tup [(.nm 4), (.nm 5)]))
  (mIfS (m1 (.e (m1 (.n 5) (dIsi "tuple"))) dTru)
  (mSeq (mIfS (mOr (mNot (m1 (.e (m1 (.n 4) (dIsi "tuple"))) dTru)) (mTb (m2 (.e (m1 (.n 4) dLen)) (.e (m1 (.n 5) dLen)) dNe)))
  (mRet (mC (.bl false)))
  mSkip)
  (mFor (mRng rng1 (mCons (m1 (.n 5) dLen) mNil)) (.nm 6)
  l1__law_same))
  (mIfS (mTb (m2 (.n 5) (.e (mC .non)) dIsN))
  (mIfS (mTb (m2 (.n 4) (.e (mC .non)) dNotN))
  (mRet (mC (.bl false)))
  mSkip)
  (mIfS (m1 (.e (m1 (.n 5) (dIsi "bool"))) dTru)
  (mIfS (mOr (mNot (m1 (.e (m1 (.n 4) (dIsi "bool"))) dTru)) (mTb (m2 (.n 4) (.n 5) dNe)))
  (mRet (mC (.bl false)))
  mSkip)
  (mIfS (m1 (.e (m1 (.n 5) (dIsi "int"))) dTru)
  (mIfS (mOr (mNot (m1 (.e (m1 (.n 4) (dIsi "int"))) dTru)) (mOr (m1 (.e (m1 (.n 4) (dIsi "bool"))) dTru) (mTb (m2 (.n 4) (.n 5) dNe))))
  (mRet (mC (.bl false)))
  mSkip)
  (mIfS (mOr (mNot (m1 (.e (m1 (.n 5) (dIsi "str"))) dTru)) (mOr (mNot (m1 (.e (m1 (.n 4) (dIsi "str"))) dTru)) (mTb (m2 (.n 4) (.n 5) dNe))))
  (mRet (mC (.bl false)))
  mSkip)))))))
def m__law_same : Ms := (mSeq (mSetO (mLst (mCons (mTup (mCons (mVar 0) (mCons (mVar 1) mNil))) mNil)) 2)
  (mSeq (mFor (mRng rng1 (mCons (mC (.int 2000000)) mNil)) (.nm 3)
  l2__law_same)
  (mRet (mC (.bl false)))))
def f__law_same : Fm := runF 7 m__law_same
-- _law_words(vat, many): slots 0 vat, 1 many, 2 signs, 3 habit, 4 found, 5 k, 6 word io vat -> O
def l1__law_words : Ms := (mSeq (mAsg (m2 (.e (m2 (.n 2) (.e (asV (mCallR 2 f__law_take [.o 0, .v (mC (.int 19))]))) dIx)) (.e (m2 (.e (mTup (mCons (mC (.str "")) (mCons (mC (.str "e")) (mCons (mC (.str "0")) (mCons (mC (.str "a7")) (mCons (mC (.str "oo3u")) (mCons (mC (.str "eeee99a")) mNil)))))))) (.e (asV (mCallR 2 f__law_take [.o 0, .v (mC (.int 6))]))) dIx)) dAdd) (.nm 6))
  (mSeq (mIfS (mTb (m2 (.n 3) (.e (mC (.int 1))) dEq))
  (mAsg (mSl (.e (mC (.str "zebra0xy"))) mPn (mPs (m2 (.e (mC (.int 1))) (.e (m2 (.e (m1 (.n 5) dInt)) (.e (mC (.int 8))) dMod)) dAdd)) dSlV) (.nm 6))
  mSkip)
  (mSeq (mIfS (mTb (m2 (.n 6) (.n 4) dIn))
  (mAsg (m2 (.e (mC (.str "y"))) (.e (m1 (.e (m2 (.e (mC (.int 100))) (.n 5) dAdd)) dStr)) dAdd) (.nm 6))
  mSkip)
  (mExpr (mM1 4 (mVar 6) fApp)))))
def m__law_words : Ms := (mSeq (mAsg (mC (.str "bdfghjklmnpqrstvwxz")) (.nm 2))
  (mSeq (mAsg (asV (mCallR 2 f__law_take [.o 0, .v (mC (.int 3))])) (.nm 3))
  (mSeq (mSetO (mLst mNil) 4)
  (mSeq (mFor (mRng rng1 (mCons (mVar 1) mNil)) (.nm 5)
  l1__law_words)
  (mRetO (m1 (.n 4) dSort))))))
def f__law_words : Fm := runF 7 m__law_words
-- _law_ladder(vat, many): slots 0 vat, 1 many, 2 kinds, 3 left, 4 order, 5 share, 6 rows, 7 k, 8 bosses, 9 kind io vat -> V
def l1__law_ladder : Ms := (mIfS (mAnd (mTb (m2 (.n 9) (.n 8) dNotIn)) (mTb (m2 (.e (asV (mCallR 2 f__law_take [.o 0, .v (mVar 5)]))) (.e (mC (.int 0))) dEq)))
  (mExpr (mM1 8 (mVar 9) fApp))
  mSkip)
def l2__law_ladder : Ms := (mSeq (mSetO (mLst (mCons (mIf (mOr (mTb (m2 (.n 7) (.e (mC (.int 0))) dEq)) (mTb (m2 (.e (asV (mCallR 2 f__law_take [.o 0, .v (mC (.int 3))]))) (.e (mC (.int 0))) dEq))) (mC (.str "")) (m2 (.n 4) (.e (asV (mCallR 2 f__law_take [.o 0, .v (mVar 7)]))) dIx)) mNil)) 8)
  (mSeq (mFor (mIt (mOv (m2 (.n 2) (.e (mOv (mLst (mCons (mC (.str "")) mNil)))) dCat))) (.nm 9)
  l1__law_ladder)
  (mExpr (mM1 6 (mTup (mCons (m2 (.n 4) (.n 7) dIx) (mCons (m1 (.e (mOv (m1 (.n 8) dSort))) dTuple) mNil))) fApp))))
def m__law_ladder : Ms := (mSeq (mSetO (asO (mCallR 2 f__law_words [.o 0, .v (mVar 1)])) 2)
  (mSeq (mSetO (m1 (.n 2) dList) 3)
  (mSeq (mSetO (mLc (mRng rng1 (mCons (mVar 1) mNil)) [7] (.nm 7) (ret true) (mM1 3 (asV (mCallR 2 f__law_take [.o 0, .v (m1 (.n 3) dLen)])) fPopAt)) 4)
  (mSeq (mAsg (m2 (.e (mC (.int 2))) (.e (asV (mCallR 2 f__law_take [.o 0, .v (mC (.int 4))]))) dAdd) (.nm 5))
  (mSeq (mSetO (mLst mNil) 6)
  (mSeq (mFor (mRng rng1 (mCons (mVar 1) mNil)) (.nm 7)
  l2__law_ladder)
  (mRet (m1 (.e (mOv (m1 (.n 6) dSort))) dTuple))))))))
def f__law_ladder : Fm := runF 10 m__law_ladder
-- _law_reach(ladder, kind): slots 0 ladder, 1 kind, 2 bosses, 3 met, 4 todo, 5 other -> V
def l1__law_reach : Ms := (mIfS (mAnd (mTb (m2 (.n 5) (.e (mC (.str ""))) dNe)) (mTb (m2 (.n 5) (.n 3) dNotIn)))
  (mSeq (mExpr (mM1 3 (mVar 5) fApp))
  (mExpr (mM1 4 (mVar 5) fApp)))
  mSkip)
def l2__law_reach : Ms := (mFor (mIt (m2 (.n 2) (.e (mM0 4 fPop)) dIx)) (.nm 5)
  l1__law_reach)
def m__law_reach : Ms := (mSeq (mSetO (m1 (.n 0) dDict) 2)
  (mSeq (mSetO (mLst mNil) 3)
  (mSeq (mSetO (mLst (mCons (mVar 1) mNil)) 4)
  (mSeq (mWhile (mTb (m2 (.e (m1 (.n 4) dLen)) (.e (mC (.int 0))) dGt))
  l2__law_reach)
  (mRet (mVar 3))))))
def f__law_reach : Fm := runF 6 m__law_reach
-- _law_ways(ladder, kind, aim, bars, most): slots 0 ladder, 1 kind, 2 aim, 3 bars, 4 most, 5 bosses, 6 found, 7 rows, 8 size, 9 more, 10 row, 11 last, 12 other -> V
def l1__law_ways : Ms := (mSeq (mAsg (mIf (mTb (m2 (.e (m1 (.n 10) dLen)) (.e (mC (.int 0))) dGt)) (m2 (.n 10) (.e (m1 (.e (mC (.int 1))) dNeg)) dIx) (mVar 1)) (.nm 11))
  (mSetO (m2 (.n 9) (.e (mOv (mLc (mIt (m2 (.n 5) (.n 11) dIx)) [12] (.nm 12) (mAnd (mTb (m2 (.n 12) (.e (mC (.str ""))) dNe)) (mTb (m2 (.n 12) (.n 3) dNotIn))) (m2 (.n 10) (.e (mTup (mCons (mVar 12) mNil))) dAdd)))) dCat) 9))
def l2__law_ways : Ms := (mSeq (mSetO (mLst mNil) 9)
  (mSeq (mFor (mIt (mVar 7)) (.nm 10)
  l1__law_ways)
  (mSeq (mAsg (mVar 9) (.nm 7))
  (mSetO (m2 (.n 6) (.e (mOv (mLc (mIt (mVar 7)) [10] (.nm 10) (mTb (m2 (.n 2) (.e (m2 (.n 5) (.e (m2 (.n 10) (.e (m1 (.e (mC (.int 1))) dNeg)) dIx)) dIx)) dIn)) (mVar 10)))) dCat) 6))))
def m__law_ways : Ms := (mSeq (mSetO (m1 (.n 0) dDict) 5)
  (mSeq (mSetO (mIf (mTb (m2 (.n 2) (.e (m2 (.n 5) (.n 1) dIx)) dIn)) (mLst (mCons (mTup mNil) mNil)) (mLst mNil)) 6)
  (mSeq (mSetO (mLst (mCons (mTup mNil) mNil)) 7)
  (mSeq (mFor (mRng rng1 (mCons (mVar 4) mNil)) (.nm 8)
  l2__law_ways)
  (mRet (m1 (.e (mOv (m1 (.n 6) dSort))) dTuple))))))
def f__law_ways : Fm := runF 13 m__law_ways
-- _law_many(ladder, kind, aim, many): slots 0 ladder, 1 kind, 2 aim, 3 many, 4 bosses, 5 here, 6 other, 7 lap, 8 above, 9 below -> V
def l1__law_many : Ms := (mSetIx (m1 (.e (m2 (.n 6) (.n 1) dEq)) dInt) 5 (mVar 6))
def l2__law_many : Ms := (mSetIx (m1 (.e (mOv (mLc (mIt (mVar 4)) [9] (.nm 9) (mTb (m2 (.n 6) (.e (m2 (.n 4) (.n 9) dIx)) dIn)) (m2 (.n 5) (.n 9) dIx)))) dSum) 8 (mVar 6))
def l3__law_many : Ms := (mSeq (mSetO mDct0 8)
  (mSeq (mFor (mIt (mVar 4)) (.nm 6)
  l2__law_many)
  (mAsg (mVar 8) (.nm 5))))
def m__law_many : Ms := (mSeq (mSetO (m1 (.n 0) dDict) 4)
  (mSeq (mSetO mDct0 5)
  (mSeq (mFor (mIt (mVar 4)) (.nm 6)
  l1__law_many)
  (mSeq (mFor (mRng rng1 (mCons (mVar 3) mNil)) (.nm 7)
  l3__law_many)
  (mRet (m1 (.e (mOv (mLc (mIt (mVar 4)) [6] (.nm 6) (mTb (m2 (.n 2) (.e (m2 (.n 4) (.n 6) dIx)) dIn)) (m2 (.n 5) (.n 6) dIx)))) dSum))))))
def f__law_many : Fm := runF 10 m__law_many
-- _law_looked(vat, ladder, most): slots 0 vat, 1 ladder, 2 most, 3 kinds, 4 above, 5 kind, 6 below, 7 other, 8 told, 9 lap, 10 aim, 11 bars, 12 size, 13 many, 14 bosses io vat -> V
def l1__law_looked : Ms := (mSetIx (mOv (m1 (.e (asV (mCallR 2 f__law_reach [.v (mVar 1), .v (mVar 5)]))) dSort)) 4 (mVar 5))
def l2__law_looked : Ms := (mSeq (mAsg (asV (mCallR 3 f_can_be_over [.v (mVar 1), .v (mVar 5), .v (mVar 7)])) (.nm 8))
  (mIfS (mOr (mNot (m1 (.e (m1 (.n 8) (dIsi "bool"))) dTru)) (mTb (m2 (.n 8) (.e (m2 (.n 5) (.e (m2 (.n 4) (.n 7) dIx)) dIn)) dNe)))
  (mRet (mC (.bl false)))
  mSkip))
def l3__law_looked : Ms := (mSeq (mSetO (mLc (mIt (mVar 3)) [7] (.nm 7) (mTb (m2 (.n 5) (.e (m2 (.n 4) (.n 7) dIx)) dIn)) (mVar 7)) 6)
  (mSeq (mIfS (mNot (m1 (.e (asV (mCallR 2 f__law_same [.v (mTup (mCons (asV (mCallR 2 f_kinds_above [.v (mVar 1), .v (mVar 5)])) (mCons (asV (mCallR 2 f_kinds_below [.v (mVar 1), .v (mVar 5)])) mNil))), .v (mTup (mCons (m1 (.e (m2 (.n 4) (.n 5) dIx)) dTuple) (mCons (m1 (.n 6) dTuple) mNil)))]))) dTru))
  (mRet (mC (.bl false)))
  mSkip)
  (mFor (mIt (mVar 3)) (.nm 7)
  l2__law_looked)))
def l4__law_looked : Ms := (mSeq (mAsg (m2 (.n 3) (.e (asV (mCallR 2 f__law_take [.o 0, .v (m1 (.n 3) dLen)]))) dIx) (.nm 5))
  (mSeq (mAsg (m2 (.e (mOv (m2 (.n 3) (.e (mOv (mLst (mCons (mC (.str "")) (mCons (mC (.str "")) mNil))))) dCat))) (.e (asV (mCallR 2 f__law_take [.o 0, .v (m2 (.e (m1 (.n 3) dLen)) (.e (mC (.int 2))) dAdd)]))) dIx) (.nm 10))
  (mSeq (mAsg (m1 (.e (mOv (mLc (mIt (mVar 3)) [7] (.nm 7) (mTb (m2 (.e (asV (mCallR 2 f__law_take [.o 0, .v (mC (.int 4))]))) (.e (mC (.int 0))) dEq)) (mVar 7)))) dTuple) (.nm 11))
  (mSeq (mAsg (asV (mCallR 2 f__law_take [.o 0, .v (m2 (.n 2) (.e (mC (.int 1))) dAdd)])) (.nm 12))
  (mSeq (mIfS (mNot (m1 (.e (asV (mCallR 2 f__law_same [.v (asV (mCallR 5 f_ways_of [.v (mVar 1), .v (mVar 5), .v (mVar 10), .v (mVar 11), .v (mVar 12)])), .v (asV (mCallR 5 f__law_ways [.v (mVar 1), .v (mVar 5), .v (mVar 10), .v (mVar 11), .v (mVar 12)]))]))) dTru))
  (mRet (mC (.bl false)))
  mSkip)
  (mSeq (mAsg (m2 (.e (mTup (mCons (asV (mCallR 2 f__law_take [.o 0, .v (mC (.int 7))])) (mCons (asV (mCallR 2 f__law_take [.o 0, .v (mC (.int 101))])) (mCons (mC (.int 100)) mNil))))) (.e (asV (mCallR 2 f__law_take [.o 0, .v (mC (.int 3))]))) dIx) (.nm 13))
  (mIfS (mNot (m1 (.e (asV (mCallR 2 f__law_same [.v (asV (mCallR 4 f_way_count [.v (mVar 1), .v (mVar 5), .v (mVar 10), .v (mVar 13)])), .v (asV (mCallR 4 f__law_many [.v (mVar 1), .v (mVar 5), .v (mVar 10), .v (mVar 13)]))]))) dTru))
  (mRet (mC (.bl false)))
  mSkip)))))))
def m__law_looked : Ms := (mSeq (mSetO (mLc (mIt (mVar 1)) [5, 14] (.tup [(.nm 5), (.nm 14)]) (ret true) (mVar 5)) 3)
  (mSeq (mSetO mDct0 4)
  (mSeq (mFor (mIt (mVar 3)) (.nm 5)
  l1__law_looked)
  (mSeq (mFor (mIt (mVar 3)) (.nm 5)
  l3__law_looked)
  (mSeq (mIfS (mNot (m1 (.e (asV (mCallR 2 f__law_same [.v (asV (mCallR 1 f_ring_kinds [.v (mVar 1)])), .v (m1 (.e (mOv (mLc (mIt (mVar 3)) [5] (.nm 5) (mTb (m2 (.n 5) (.e (m2 (.n 4) (.n 5) dIx)) dIn)) (mVar 5)))) dTuple)]))) dTru))
  (mRet (mC (.bl false)))
  mSkip)
  (mSeq (mFor (mRng rng1 (mCons (mC (.int 3)) mNil)) (.nm 9)
  l4__law_looked)
  (mRet (mC (.bl true)))))))))
def f__law_looked : Fm := runF 15 m__law_looked
-- _law_named(vat): slots 0 vat, 1 rungs, 2 many, 3 pair, 4 both, 5 kind io vat -> V
def m__law_named : Ms := (mSeq (mAsg (mTup (mCons (mTup (mCons (mC (.str "chief")) (mCons (mTup (mCons (mC (.str "")) mNil)) mNil))) (mCons (mTup (mCons (mC (.str "lead")) (mCons (mTup (mCons (mC (.str "chief")) (mCons (mC (.str "lead")) mNil))) mNil))) (mCons (mTup (mCons (mC (.str "staff")) (mCons (mTup (mCons (mC (.str "lead")) mNil)) mNil))) mNil)))) (.nm 1))
  (mSeq (mIfS (mNot (m1 (.e (asV (mCallR 2 f__law_same [.v (mTup (mCons (asV (mCallK 2 f_kinds_above [] [.v (mC (.str "staff")), .v (mVar 1)] [1, 0])) (mCons (asV (mCallK 2 f_kinds_below [] [.v (mC (.str "lead")), .v (mVar 1)] [1, 0])) (mCons (asV (mCallK 1 f_ring_kinds [] [.v (mVar 1)] [0])) mNil)))), .v (mTup (mCons (mTup (mCons (mC (.str "chief")) (mCons (mC (.str "lead")) mNil))) (mCons (mTup (mCons (mC (.str "lead")) (mCons (mC (.str "staff")) mNil))) (mCons (mTup (mCons (mC (.str "lead")) mNil)) mNil))))]))) dTru))
  (mRet (mC (.bl false)))
  mSkip)
  (mSeq (mIfS (mOr (mTb (m2 (.e (asV (mCallK 3 f_can_be_over [] [.v (mC (.str "staff")), .v (mC (.str "chief")), .v (mVar 1)] [2, 1, 0]))) (.e (mC (.bl true))) dNotB)) (mTb (m2 (.e (asV (mCallR 3 f_can_be_over [.v (mVar 1), .v (mC (.str "chief")), .v (mC (.str "chief"))]))) (.e (mC (.bl false))) dNotB)))
  (mRet (mC (.bl false)))
  mSkip)
  (mSeq (mAsg (asV (mCallR 2 f__law_take [.o 0, .v (mC (.int 101))])) (.nm 2))
  (mSeq (mIfS (mOr (mNot (m1 (.e (asV (mCallR 2 f__law_same [.v (asV (mCallK 4 f_way_count [] [.v (mVar 2), .v (mC (.str "")), .v (mC (.str "staff")), .v (mVar 1)] [3, 2, 1, 0])), .v (m1 (.e (m2 (.n 2) (.e (mC (.int 1))) dGt)) dInt)]))) dTru)) (mNot (m1 (.e (asV (mCallR 2 f__law_same [.v (asV (mCallR 4 f_way_count [.v (mVar 1), .v (mC (.str "chief")), .v (mC (.str "")), .v (mVar 2)])), .v (m1 (.e (m2 (.n 2) (.e (mC (.int 0))) dEq)) dInt)]))) dTru)))
  (mRet (mC (.bl false)))
  mSkip)
  (mSeq (mIfS (mNot (m1 (.e (asV (mCallR 2 f__law_same [.v (asV (mCallK 5 f_ways_of [] [.v (mC (.int 3)), .v (mTup mNil), .v (mC (.str "")), .v (mC (.str "staff")), .v (mVar 1)] [4, 3, 2, 1, 0])), .v (mTup (mCons (mTup (mCons (mC (.str "lead")) (mCons (mC (.str "chief")) mNil))) (mCons (mTup (mCons (mC (.str "lead")) (mCons (mC (.str "lead")) (mCons (mC (.str "chief")) mNil)))) mNil)))]))) dTru))
  (mRet (mC (.bl false)))
  mSkip)
  (mSeq (mIfS (mOr (mNot (m1 (.e (asV (mCallR 2 f__law_same [.v (asV (mCallR 5 f_ways_of [.v (mVar 1), .v (mC (.str "staff")), .v (mC (.str "lead")), .v (mTup mNil), .v (mC (.int 0))])), .v (mTup (mCons (mTup mNil) mNil))]))) dTru)) (mNot (m1 (.e (asV (mCallR 2 f__law_same [.v (asV (mCallR 5 f_ways_of [.v (mVar 1), .v (mC (.str "staff")), .v (mC (.str "chief")), .v (mTup (mCons (mC (.str "lead")) mNil)), .v (mC (.int 5))])), .v (mTup mNil)]))) dTru)))
  (mRet (mC (.bl false)))
  mSkip)
  (mSeq (mSetO (asO (mCallR 2 f__law_words [.o 0, .v (mC (.int 2))])) 3)
  (mSeq (mAsg (m1 (.e (mOv (mLc (mIt (mVar 3)) [5] (.nm 5) (ret true) (mTup (mCons (mVar 5) (mCons (m2 (.e (mTup (mCons (mC (.str "")) mNil))) (.e (m1 (.n 3) dTuple)) dAdd) mNil)))))) dTuple) (.nm 4))
  (mRet (mAndV (asV (mCallR 2 f__law_same [.v (asV (mCallR 4 f_way_count [.v (mVar 4), .v (m2 (.n 3) (.e (mC (.int 0))) dIx), .v (mC (.str "")), .v (mVar 2)])), .v (m2 (.e (mC (.int 1))) (.n 2) dShl)])) (asV (mCallR 2 f__law_same [.v (asV (mCallR 5 f_ways_of [.v (mVar 4), .v (m2 (.n 3) (.e (mC (.int 1))) dIx), .v (m2 (.n 3) (.e (mC (.int 1))) dIx), .v (mTup (mCons (m2 (.n 3) (.e (mC (.int 1))) dIx) mNil)), .v (mC (.int 2))])), .v (mTup (mCons (mTup mNil) (mCons (mTup (mCons (m2 (.n 3) (.e (mC (.int 0))) dIx) mNil)) (mCons (mTup (mCons (m2 (.n 3) (.e (mC (.int 0))) dIx) (mCons (m2 (.n 3) (.e (mC (.int 0))) dIx) mNil))) mNil))))])))))))))))))
def f__law_named : Fm := runF 6 m__law_named
-- law(script): slots 0 script, 1 vat, 2 lap, 3 kinds, 4 full, 5 kind -> V
def l1_law : Ms := (mIfS (mNot (m1 (.e (asV (mCallR 3 f__law_looked [.o 1, .v (asV (mCallR 2 f__law_ladder [.o 1, .v (m2 (.e (mC (.int 1))) (.e (asV (mCallR 2 f__law_take [.o 1, .v (mC (.int 5))]))) dAdd)])), .v (mC (.int 4))]))) dTru))
  (mRet (mC (.bl false)))
  mSkip)
def m_law : Ms := (mSeq (mSetO (asO (mCallR 1 f__law_vat [.v (mVar 0)])) 1)
  (mSeq (mIfS (mNot (m1 (.e (asV (mCallR 1 f__law_named [.o 1]))) dTru))
  (mRet (mC (.bl false)))
  mSkip)
  (mSeq (mFor (mRng rng1 (mCons (mC (.int 4)) mNil)) (.nm 2)
  l1_law)
  (mSeq (mIfS (mTb (m2 (.e (asV (mCallR 2 f__law_take [.o 1, .v (mC (.int 13))]))) (.e (mC (.int 7))) dNe))
  (mRet (mC (.bl true)))
  mSkip)
  (mSeq (mSetO (asO (mCallR 2 f__law_words [.o 1, .v (mC (.int 5))])) 3)
  (mSeq (mAsg (m1 (.e (mOv (mLc (mIt (mVar 3)) [5] (.nm 5) (ret true) (mTup (mCons (mVar 5) (mCons (m2 (.e (mTup (mCons (mC (.str "")) mNil))) (.e (m1 (.n 3) dTuple)) dAdd) mNil)))))) dTuple) (.nm 4))
  (mRet (asV (mCallR 3 f__law_looked [.o 1, .v (mVar 4), .v (mC (.int 5))])))))))))
def f_law : Fm := runF 6 m_law
end
end DL

set_option Elab.async false
set_option linter.all false
set_option maxRecDepth 100000
namespace DL
open PySem PySem.Spec PyProof.Rows L2
structure Vt where
  cs : List Int
  pos : Nat
  cur : Int
  seed : Int
def Vt.o (v : Vt) : Ow := .lst [.lst (v.cs.map .int), .int v.pos, .int v.cur, .int v.seed]
structure VOk (v : Vt) : Prop where
  s0 : 0 ≤ v.seed
  s1 : v.seed < 2147483543
  p : v.pos ≤ v.cs.length
  l : v.cs.length ≤ 63
/-- the last step of a draw -/
def take3 (seed : Int) (pos : Nat) : Int := (seed * 41203 + pos * 70003 + 9209) % 2147483543
theorem take_ok {v : Vt} (h : VOk v) {many : Int} (hm : 0 < many) (hm2 : many ≤ 1000000) :
    ∃ r v', f__law_take [.io v.o, .va (.int many)] = some (.va (.int r), some v'.o) ∧ 0 ≤ r ∧ r < many ∧ VOk v' := by
  obtain ⟨cs, pos, cur, seed⟩ := v
  obtain ⟨s0, s1, hp, hl⟩ := h
  dsimp only at s0 s1 hp hl
  have hml : many.natAbs.log2 ≤ 1000 := by
    have := log_small (i := many) (n := 20) (by omega) (by omega)
    omega
  have hdm : ∀ x, dFdiv (.int x) (.int many) = some (.int (x / many)) := fun x => dFdiv_ok hm hml
  have hmm : ∀ x, dMod (.int x) (.int many) = some (.int (x % many)) := fun x => dMod_ok hm
  have ms := mul_seed s0 s1
  have mp := mul_pos' (s := (pos : Int)) (by omega) (by omega)
  have r0 : ∀ x : Int, 0 ≤ x % many ∧ x % many < many := fun x => ⟨Int.emod_nonneg _ (by omega), Int.emod_lt_of_pos _ hm⟩
  by_cases h1 : pos < cs.length
  · obtain ⟨cell, hc⟩ : ∃ c, cs[pos]? = some c := ⟨_, List.getElem?_eq_getElem h1⟩
    have hat : dAt (cs.map D.int) (pos : Int) = some (.int cell) := dAt_nat (by rw [List.getElem?_map, hc]; rfl)
    have mp1 := mul_pos' (s := (pos : Int) + 1) (by omega) (by omega)
    generalize hce : (if cell < 0 then -cell else cell) = ce
    by_cases h2 : cur = 0
    · subst h2
      have ms2 := mul_seed (s := (seed * 41203 + ce % 999763 * 9209 + 70003) % 2147483543) (by omega) (by omega)
      by_cases h3 : 1000000000000000000 ≤ ce
      · by_cases h4 : 0 < ce / 1000000000000000000
        · by_cases h5 : ce / 1000000000000000000 / many = 0
          · refine ⟨_, ⟨cs, pos + 1, 0, (seed * 41203 + ce % 999763 * 9209 + 70003) % 2147483543⟩, ?_, (r0 (ce / 1000000000000000000)).1, (r0 _).2, ⟨by dsimp only; omega, by dsimp only; omega, h1, hl⟩⟩
            unfold f__law_take m__law_take Vt.o
            simp -implicitDefEqProofs [h1, hat, hce, h3, h4, h5, ms, mul_cell, pow18, div18, hdm, hmm, ioOut_some ioIx2]
          · refine ⟨_, ⟨cs, pos, ce / 1000000000000000000 / many, (seed * 41203 + ce % 999763 * 9209 + 70003) % 2147483543⟩, ?_, (r0 (ce / 1000000000000000000)).1, (r0 _).2, ⟨by dsimp only; omega, by dsimp only; omega, hp, hl⟩⟩
            unfold f__law_take m__law_take Vt.o
            simp -implicitDefEqProofs [h1, hat, hce, h3, h4, h5, ms, mul_cell, pow18, div18, hdm, hmm, ioOut_some ioIx2]
        · omega
      · refine ⟨_, ⟨cs, pos + 1, 0, take3 ((seed * 41203 + ce % 999763 * 9209 + 70003) % 2147483543) (pos + 1)⟩, ?_, (r0 (take3 ((seed * 41203 + ce % 999763 * 9209 + 70003) % 2147483543) (pos + 1) / 1009)).1, (r0 _).2, ⟨by unfold take3; dsimp only; omega, by unfold take3; dsimp only; omega, h1, hl⟩⟩
        unfold f__law_take m__law_take Vt.o take3
        simp -implicitDefEqProofs [h1, hat, hce, h3, ms, ms2, mp1, mul_cell, pow18, div18, div1009, hdm, hmm, ioOut_some ioIx2]
    · by_cases h4 : 0 < cur
      · by_cases h5 : cur / many = 0
        · refine ⟨_, ⟨cs, pos + 1, 0, seed⟩, ?_, (r0 cur).1, (r0 _).2, ⟨s0, s1, h1, hl⟩⟩
          unfold f__law_take m__law_take Vt.o
          simp -implicitDefEqProofs [h1, hat, hce, h2, h4, h5, ms, hdm, hmm, ioOut_some ioIx2]
        · refine ⟨_, ⟨cs, pos, cur / many, seed⟩, ?_, (r0 cur).1, (r0 _).2, ⟨s0, s1, hp, hl⟩⟩
          unfold f__law_take m__law_take Vt.o
          simp -implicitDefEqProofs [h1, hat, hce, h2, h4, h5, ms, hdm, hmm, ioOut_some ioIx2]
      · refine ⟨_, ⟨cs, pos + 1, 0, take3 seed (pos + 1)⟩, ?_, (r0 (take3 seed (pos + 1) / 1009)).1, (r0 _).2, ⟨by unfold take3; dsimp only; omega, by unfold take3; dsimp only; omega, h1, hl⟩⟩
        unfold f__law_take m__law_take Vt.o take3
        simp -implicitDefEqProofs [h1, hat, hce, h2, h4, ms, mp1, div1009, hdm, hmm, ioOut_some ioIx2]
  · refine ⟨_, ⟨cs, pos, cur, take3 seed pos⟩, ?_, (r0 (take3 seed pos / 1009)).1, (r0 _).2, ⟨by unfold take3; dsimp only; omega, by unfold take3; dsimp only; omega, hp, hl⟩⟩
    unfold f__law_take m__law_take Vt.o take3
    simp -implicitDefEqProofs [h1, ms, mp, div1009, hdm, hmm, ioOut_some ioIx2]
end DL

set_option Elab.async false
set_option linter.all false
set_option maxRecDepth 100000
namespace DL
open PySem PySem.Spec PyProof.Rows L2
@[simp] theorem ixs_nil : ioIx [] = none := rfl
theorem ioOut1 {ρ : En} {d : D} {r : Rs} : ioOut [.va d] ρ r = some (r, none) := ioOut_none rfl
theorem ioOut2 {ρ : En} {d d2 : D} {r : Rs} : ioOut [.va d, .va d2] ρ r = some (r, none) := ioOut_none rfl
theorem ioOut3 {ρ : En} {d d2 d3 : D} {r : Rs} : ioOut [.va d, .va d2, .va d3] ρ r = some (r, none) := ioOut_none rfl
theorem ioOut4 {ρ : En} {d d2 d3 d4 : D} {r : Rs} : ioOut [.va d, .va d2, .va d3, .va d4] ρ r = some (r, none) := ioOut_none rfl
theorem ioOut5 {ρ : En} {d d2 d3 d4 d5 : D} {r : Rs} : ioOut [.va d, .va d2, .va d3, .va d4, .va d5] ρ r = some (r, none) := ioOut_none rfl
@[simp] theorem itemsOf_l {ds : List D} : itemsOf (.lst ds) = some ds := rfl
@[simp] theorem itemsOf_t {ds : List D} : itemsOf (.tup ds) = some ds := rfl
theorem itemsOf_d {xs : List Str} {ds : List D} : itemsOf (.dct (xs.map .inr) ds) = some (xs.map .str) := by
  show some ((xs.map Sum.inr).map D.ofK) = _
  rw [List.map_map]
  rfl
def vat0 (ns : List Int) : Vt := ⟨ns.take 63, 0, 0, 92987⟩
theorem vat0_ok (ns : List Int) : VOk (vat0 ns) := ⟨by show (0 : Int) ≤ 92987; decide, by show (92987 : Int) < 2147483543; decide, Nat.zero_le _, by show (ns.take 63).length ≤ 63; rw [List.length_take]; omega⟩
theorem cut_63 (ds : List D) : cutD ds none (some 63) = ds.take 63 := by
  unfold cutD
  rw [HT.sIx_none, show HT.sIx ds.length ds.length (some 63) = min 63 ds.length from HT.sIx_nat _ _ 63, List.drop_zero, Nat.sub_zero]
  by_cases h : 63 ≤ ds.length
  · rw [Nat.min_eq_left h]
  · rw [Nat.min_eq_right (by omega), List.take_length, List.take_of_length_le (by omega)]
theorem vat_ok (ns : List Int) (hl : ns.length ≤ 63) : f__law_vat [.va (.scr (ns.map .int))] = some (.ow (vat0 ns).o, none) := by
  have hc : lcF [1] (.nm 1) (ret true) (m1 (.n 1) dInt) ((ns.take 63).map D.int) [] [.va (.scr (ns.map .int)), .no] = some ((ns.take 63).map D.int, [.va (.scr (ns.map .int)), .no]) := by
    refine (lcF_pure (fun d => some d) (fun d hd => ?_) ?_).trans ?_
    · obtain ⟨n, _, rfl⟩ := List.mem_map.mp hd
      refine ⟨_, true, _, by simp; rfl, rfl, .inr ⟨rfl, _, _, by simp; rfl, rfl, rfl⟩⟩
    · rw [List.length_map, List.length_take, List.length_nil]
      omega
    · simp
  unfold f__law_vat m__law_vat
  rw [List.map_take] at hc
  simp -implicitDefEqProofs [mSl, mPn, mPs, asI, dSlL, cut_63, dem, clr, hc, rst, szOk, ioOut1, vat0, Vt.o]
end DL

set_option Elab.async false
set_option linter.all false
set_option maxRecDepth 100000
namespace DL
open PySem PySem.Spec PyProof.Rows L2
@[simp] theorem dIx_si {z : Str} {i : Int} : dIx (.str z) (.int i) = if z.length ≤ 16777216 then (dAt z.cps.toList i).map fun c => .str ⟨#[c]⟩ else none := rfl
@[simp] theorem dAdd_ss {a b : Str} : dAdd (.str a) (.str b) = if a.length + b.length ≤ 16777216 then some (.str (a ++ b)) else none := rfl
@[simp] theorem dAdd_tt {a b : List D} : dAdd (.tup a) (.tup b) = if a.length + b.length ≤ 16777216 then some (.tup (a ++ b)) else none := rfl
def yd (k : Nat) : Str := ((toString ((100 : Int) + (k : Int)) : String) : Str)
def yw (k : Nat) : Str := ("y" : Str) ++ yd k
theorem yw_inj : ∀ j : Nat, j < 5 → ∀ k : Nat, k < 5 → yw j = yw k → j = k := by decide +kernel
theorem yw_y : ∀ j < 5, (yw j).cps[0]? = some 121 := by decide +kernel
theorem yw_len : ∀ k : Nat, k < 5 → ("y" : Str).length + (yd k).length ≤ 16777216 := by decide +kernel
theorem dStr_100 : ∀ k : Nat, k < 5 → dStr (.int (100 + (k : Int))) = some (.str (yd k)) := fun k hk => by
  show (if ((100 : Int) + (k : Int)).natAbs.log2 < 1920 then some (D.str ((toString ((100 : Int) + (k : Int)) : String) : Str)) else none) = _
  have := log_small (i := 100 + (k : Int)) (n := 7) (by omega) (by omega)
  rw [if_pos (by omega)]
  rfl
/-- words found by turn k -/
structure WOk (fs : List Str) (k : Nat) : Prop where
  nd : fs.Nodup
  len : fs.length = k
  ok : ∀ w ∈ fs, (∃ c, w.cps[0]? = some c ∧ c ≠ 121) ∨ ∃ j < k, w = yw j
theorem WOk.ne {fs : List Str} {k : Nat} (h : WOk fs k) (hk : k ≤ 5) : ("" : Str) ∉ fs := fun z => by
  rcases h.ok _ z with ⟨c, h1, _⟩ | ⟨j, h1, h2⟩
  · cases h1
  · have := yw_y j (by omega)
    rw [← h2] at this
    cases this
theorem WOk.addN {fs : List Str} {k : Nat} {w : Str} (h : WOk fs k) (hw : w ∉ fs) (hc : ∃ c, w.cps[0]? = some c ∧ c ≠ 121) : WOk (fs ++ [w]) (k + 1) :=
  ⟨List.nodup_append.mpr ⟨h.nd, List.pairwise_singleton _ _, fun a ha b hb z => hw (by rw [List.mem_singleton] at hb; rw [← hb, ← z]; exact ha)⟩, by rw [List.length_append, h.len]; rfl, fun v hv => by
    rcases List.mem_append.mp hv with hv | hv
    · rcases h.ok v hv with q | ⟨j, q1, q2⟩
      · exact .inl q
      · exact .inr ⟨j, by omega, q2⟩
    · rw [List.mem_singleton] at hv
      subst hv
      exact .inl hc⟩
theorem WOk.addY {fs : List Str} {k : Nat} (h : WOk fs k) (hk : k < 5) : WOk (fs ++ [yw k]) (k + 1) := by
  have hw : yw k ∉ fs := fun z => by
    rcases h.ok _ z with ⟨c, h1, h2⟩ | ⟨j, h1, h2⟩
    · rw [yw_y k hk] at h1
      cases h1
      exact h2 rfl
    · have := yw_inj k hk j (by omega) h2
      omega
  refine ⟨List.nodup_append.mpr ⟨h.nd, List.pairwise_singleton _ _, fun a ha b hb z => hw (by rw [List.mem_singleton] at hb; rw [← hb, ← z]; exact ha)⟩, by rw [List.length_append, h.len]; rfl, fun v hv => ?_⟩
  rcases List.mem_append.mp hv with hv | hv
  · rcases h.ok v hv with q | ⟨j, q1, q2⟩
    · exact .inl q
    · exact .inr ⟨j, by omega, q2⟩
  · rw [List.mem_singleton] at hv
    exact .inr ⟨k, by omega, hv⟩
def signs : Str := "bdfghjklmnpqrstvwxz"
theorem signs_at {r : Int} (h0 : 0 ≤ r) (h1 : r < 19) : ∃ c, dAt signs.cps.toList r = some c ∧ c ≠ 121 := by
  have hl : signs.cps.toList.length = 19 := by decide +kernel
  obtain ⟨k, rfl⟩ := Int.eq_ofNat_of_zero_le h0
  have hk : k < signs.cps.toList.length := by omega
  refine ⟨_, dAt_nat (List.getElem?_eq_getElem hk), ?_⟩
  have hall : ∀ c ∈ signs.cps.toList, c ≠ 121 := by decide +kernel
  exact hall _ (List.getElem_mem hk)
def sufs : List Str := ["", "e", "0", "a7", "oo3u", "eeee99a"]
theorem sufs_at {r : Int} (h0 : 0 ≤ r) (h1 : r < 6) : ∃ s ∈ sufs, dAt [D.str "", D.str "e", D.str "0", D.str "a7", D.str "oo3u", D.str "eeee99a"] r = some (.str s) := by
  obtain ⟨k, rfl⟩ := Int.eq_ofNat_of_zero_le h0
  have hk : k < sufs.length := by show k < 6; omega
  exact ⟨_, List.getElem_mem hk, dAt_nat (xs := sufs.map D.str) (by rw [List.getElem?_map, List.getElem?_eq_getElem hk]; rfl)⟩
theorem sufs_len : ∀ s ∈ sufs, (1 : Nat) + s.length ≤ 16777216 := by decide +kernel
def zw (k : Nat) : Str := cutS "zebra0xy" none (some (1 + (k : Int) % 8))
theorem zw_z : ∀ k < 5, (zw k).cps[0]? = some 122 := by decide +kernel
theorem word0 (c : Nat) (s : Str) : ((⟨#[c]⟩ : Str) ++ s).cps[0]? = some c := by
  show (#[c] ++ s.cps)[0]? = some c
  rw [Array.getElem?_append_left (show 0 < 1 by decide)]
  rfl
theorem sl_zebra (k : Nat) : dSlV (.str "zebra0xy") none (some (1 + (k : Int) % 8)) = some (.str (zw k)) := by
  show (if ("zebra0xy" : Str).length ≤ 16777216 then some (D.str (cutS "zebra0xy" none (some (1 + (k : Int) % 8)))) else none) = _
  rw [if_pos (by decide +kernel)]
  rfl
theorem fApp_ok {ds : List D} {x : D} (h : ds.length < 16777216) : fApp ds x = some (.non, ds ++ [x]) := by
  unfold fApp
  rw [if_pos h]
theorem words_turn {v : Vt} {k : Nat} {fs : List Str} {m s6 : Sl} {habit : Int} (hv : VOk v) (hk : k < 5) (hw : WOk fs k) (h6 : s6 = .no ∨ ∃ d, s6 = .va d) :
    ∃ w' v' fs', l1__law_words [.io v.o, m, .va (.str signs), .va (.int habit), .ow (.lst (fs.map .str)), .va (.int k), s6] = some (.nx, [.io v'.o, m, .va (.str signs), .va (.int habit), .ow (.lst (fs'.map .str)), .va (.int k), .va w']) ∧ WOk fs' (k + 1) ∧ VOk v' := by
  obtain ⟨r1, va, ea, ga1, ga2, hva⟩ := take_ok hv (many := 19) (by decide) (by decide)
  obtain ⟨r2, vb, eb, gb1, gb2, hvb⟩ := take_ok hva (many := 6) (by decide) (by decide)
  obtain ⟨c, hc, hc2⟩ := signs_at ga1 ga2
  obtain ⟨s, hs, hs2⟩ := sufs_at gb1 gb2
  have hsl := sufs_len s hs
  have e100 := dStr_100 k hk
  have hyl := yw_len k hk
  have hz := sl_zebra k
  have hl : fs.length < 16777216 := by have := hw.len; omega
  have hsg : signs.length ≤ 16777216 := by decide +kernel
  have hcl : (⟨#[c]⟩ : Str).length = 1 := rfl
  have key : ∀ w : Str, (∃ c, w.cps[0]? = some c ∧ c ≠ 121) → ∃ fs', WOk fs' (k + 1) ∧ fs' = (if w ∈ fs then fs ++ [yw k] else fs ++ [w]) := fun w h => by
    by_cases hm : w ∈ fs
    · exact ⟨_, hw.addY hk, by rw [if_pos hm]⟩
    · exact ⟨_, hw.addN hm h, by rw [if_neg hm]⟩
  have hst : s6 = .no ∨ ∃ d, s6 = .va d := h6
  by_cases hh : habit = 1
  · obtain ⟨fs', h1, h2⟩ := key (zw k) ⟨122, zw_z k hk, by decide⟩
    by_cases hm : zw k ∈ fs
    · rw [if_pos hm] at h2
      refine ⟨.str (yw k), vb, fs', ?_, h1, hvb⟩
      subst h2
      rcases hst with rfl | ⟨d, rfl⟩ <;>
      simp -implicitDefEqProofs [l1__law_words, ea, eb, hc, hs2, hsl, hcl, hsg, hh, mSl, mPn, mPs, asI, hz, dIn_l, hm, e100, hyl, fApp_ok, hl, szOk, yw]
    · rw [if_neg hm] at h2
      refine ⟨.str (zw k), vb, fs', ?_, h1, hvb⟩
      subst h2
      rcases hst with rfl | ⟨d, rfl⟩ <;>
      simp -implicitDefEqProofs [l1__law_words, ea, eb, hc, hs2, hsl, hcl, hsg, hh, mSl, mPn, mPs, asI, hz, dIn_l, hm, e100, hyl, fApp_ok, hl, szOk]
  · obtain ⟨fs', h1, h2⟩ := key (⟨#[c]⟩ ++ s) ⟨c, word0 c s, hc2⟩
    by_cases hm : (⟨#[c]⟩ ++ s) ∈ fs
    · rw [if_pos hm] at h2
      refine ⟨.str (yw k), vb, fs', ?_, h1, hvb⟩
      subst h2
      rcases hst with rfl | ⟨d, rfl⟩ <;>
      simp -implicitDefEqProofs [l1__law_words, ea, eb, hc, hs2, hsl, hcl, hsg, hh, mSl, mPn, mPs, asI, hz, dIn_l, hm, e100, hyl, fApp_ok, hl, szOk, yw]
    · rw [if_neg hm] at h2
      refine ⟨.str (⟨#[c]⟩ ++ s), vb, fs', ?_, h1, hvb⟩
      subst h2
      rcases hst with rfl | ⟨d, rfl⟩ <;>
      simp -implicitDefEqProofs [l1__law_words, ea, eb, hc, hs2, hsl, hcl, hsg, hh, mSl, mPn, mPs, asI, hz, dIn_l, hm, e100, hyl, fApp_ok, hl, szOk]
theorem inR_nat {n : Nat} (h : n ≤ 1000000) : inR (n : Int) = true := by
  unfold inR
  rw [Bool.and_eq_true, decide_eq_true_eq, decide_eq_true_eq]
  constructor <;> omega
theorem rng1_nat {n : Nat} (h : n ≤ 1000000) : rng1 [.int (n : Int)] = some (rngD 0 n) := by
  show (if inR (n : Int) = true then some (rngD 0 (n : Int).toNat) else none) = _
  rw [if_pos (inR_nat h), Int.toNat_natCast]
theorem words_ok {v : Vt} (h : VOk v) {many : Nat} (hm : many ≤ 5) :
    ∃ (ws : List Str) (v' : Vt), f__law_words [.io v.o, .va (.int many)] = some (.ow (.lst (ws.map .str)), some v'.o) ∧ ws.Nodup ∧ ws.length = many ∧ ("" : Str) ∉ ws ∧ VOk v' := by
  obtain ⟨habit, v1, e1, g1, g2, hv1⟩ := take_ok h (many := 3) (by decide) (by decide)
  obtain ⟨ρ', ef, fs, v2, s5, s6, er, h5, h6, hw, hv2⟩ := forF_rng (t := .nm 5) (n := many) (b := l1__law_words)
    (fun k ρ => ∃ (fs : List Str) (v : Vt) (s5 s6 : Sl), ρ = [.io v.o, .va (.int many), .va (.str signs), .va (.int habit), .ow (.lst (fs.map .str)), s5, s6] ∧ (s5 = .no ∨ ∃ d, s5 = .va d) ∧ (s6 = .no ∨ ∃ d, s6 = .va d) ∧ WOk fs k ∧ VOk v)
    (fun k ρ hk ⟨fs, v, s5, s6, er, h5, h6, hw, hv⟩ => by
      subst er
      obtain ⟨w', v', fs', e, hw', hv'⟩ := words_turn (m := .va (.int many)) (habit := habit) hv (by omega) hw h6
      refine ⟨_, .nx, _, ?_, e, .inl rfl, fs', v', _, _, rfl, .inr ⟨_, rfl⟩, .inr ⟨_, rfl⟩, hw', hv'⟩
      rcases h5 with rfl | ⟨d, rfl⟩ <;> simp)
    ⟨[], v1, .no, .no, rfl, .inl rfl, .inl rfl, ⟨.nil, rfl, fun w hw => by cases hw⟩, hv1⟩
  subst er
  refine ⟨srt fs, v2, ?_, (srt_perm fs).nodup_iff.mpr hw.nd, by rw [(srt_perm fs).length_eq, hw.len], fun z => hw.ne hm (srt_mem.mp z), hv2⟩
  have ef : forF (.nm 5) l1__law_words (rngD 0 many) [.io v1.o, .va (.int many), .va (.str "bdfghjklmnpqrstvwxz"), .va (.int habit), .ow (.lst []), .no, .no] = _ := ef
  simp -implicitDefEqProofs [f__law_words, m__law_words, e1, rng1_nat (show many ≤ 1000000 by omega), ef, szOk, dSort_strs, ioOut_some (show ioIx [.io v.o, .va (.int (many : Int))] = some 0 from rfl)]
end DL

set_option Elab.async false
set_option linter.all false
set_option maxRecDepth 100000
namespace DL
open PySem PySem.Spec PyProof.Rows L2
@[simp] theorem dTuple_l {ds : List D} : dTuple (.lst ds) = some (.tup ds) := rfl
theorem ioIx_1 {d : D} : ioIx [.va d] = none := rfl
theorem ioIx_2 {d d2 : D} : ioIx [.va d, .va d2] = none := rfl
theorem kinds_of_ok {L : List Row} (hl : L.length ≤ 5) : f_kinds_of [.va (ladD L)] = some (.va (.tup ((keys L).map .str)), none) := by
  have hc : lcF [1, 2] (.tup [.nm 1, .nm 2]) (ret true) (mVar 1) (L.map rowD) [] [.va (ladD L), .no, .no] = some ((keys L).map .str, [.va (ladD L), .no, .no]) := by
    refine (lcF_pure (fun d => match d with | .tup [x, _] => some x | _ => none) (fun d hd => ?_) ?_).trans ?_
    · obtain ⟨r, _, rfl⟩ := List.mem_map.mp hd
      refine ⟨_, true, _, by simp [rowD]; rfl, rfl, .inr ⟨rfl, _, _, by simp; rfl, rfl, rfl⟩⟩
    · rw [List.length_map, List.length_nil]
      omega
    · rw [List.nil_append, List.filterMap_map, keys, List.map_map]
      congr 2
      rw [← List.filterMap_eq_map]
      rfl
  have hi : itemsOf (ladD L) = some (L.map rowD) := rfl
  simp -implicitDefEqProofs [f_kinds_of, m_kinds_of, hi, dem, clr, hc, rst, ioOut1]
theorem bosses_of_ok {L : List Row} (h : LOk L) {k : Str} {bs : List Str} (e : bo L k = some bs) : f_bosses_of [.va (ladD L), .va (.str k)] = some (.va (stD bs), none) := by
  simp -implicitDefEqProofs [f_bosses_of, m_bosses_of, dDict_lad h.nd, dIx_lad, e, ioOut2]
/-! ### kinds_above -/
def dctF (f : List Str) : Ow := .dct (f.map .inr) (f.map fun _ => .bl true)
theorem putF {f : List Str} {b : Str} (h : b ∉ f) (hl : f.length < 16777216) : setO (dctF f) (.str b) (.bl true) = some (dctF (f ++ [b])) := by
  show (if (f.map Sum.inr).length < 16777216 then some (Ow.dct (putKs (f.map .inr) (.inr b)) (putDs (f.map .inr) (f.map fun _ => .bl true) (.inr b) (.bl true))) else none) = _
  rw [if_pos (by rw [List.length_map]; exact hl)]
  unfold putKs putDs
  have hk : hasK (f.map Sum.inr) (.inr b) = false := hasK_not fun z => by
    obtain ⟨c, h1, h2⟩ := List.mem_map.mp z
    cases h2
    exact h h1
  rw [hk]
  unfold dctF
  simp
theorem above_turn {f w : List Str} {b : Str} {x y s4 : Sl} (hl : f.length < 16777216) (hw : w.length < 16777216) :
    l1_kinds_above [x, y, .ow (dctF f), .ow (.lst (w.map .str)), .va (.str b)] = some (.nx, [x, y, .ow (dctF (vis (f, w) b).1), .ow (.lst ((vis (f, w) b).2.map .str)), .va (.str b)]) := by
  unfold vis
  by_cases h : b ≠ "" ∧ b ∉ f
  · have hb : (b == ("" : Str)) = false := by rw [beq_eq_false_iff_ne]; exact h.1
    have hn : dNotIn (.str b) (dctF f).d = some (.bl true) := by
      have := dNotIn_d b f (f.map fun _ => .bl true)
      rw [decide_eq_false h.2] at this
      exact this
    rw [if_pos h]
    simp -implicitDefEqProofs [l1_kinds_above, hb, hn, putF h.2 hl, fApp_ok, hw]
  · rw [if_neg h]
    by_cases hb : b = ""
    · have hb : (b == ("" : Str)) = true := by rw [hb]; exact beq_self_eq_true _
      simp -implicitDefEqProofs [l1_kinds_above, hb]
    · have hf : b ∈ f := by
        by_cases z : b ∈ f
        · exact z
        · exact absurd ⟨hb, z⟩ h
      have hb : (b == ("" : Str)) = false := by rw [beq_eq_false_iff_ne]; exact hb
      have hn : dNotIn (.str b) (dctF f).d = some (.bl false) := by
        have := dNotIn_d b f (f.map fun _ => .bl true)
        rw [decide_eq_true hf] at this
        exact this
      simp -implicitDefEqProofs [l1_kinds_above, hb, hn]
theorem above_for {L : List Row} {x y : Sl} : ∀ {bs : List Str} {s : FW} {s4 : Sl}, FOk L s → L.length ≤ 5 → s.2.length + bs.length ≤ 1000000 → (∀ b ∈ bs, b = "" ∨ b ∈ keys L) → (s4 = .no ∨ ∃ d, s4 = .va d) →
    ∃ s4', forF (.nm 4) l1_kinds_above (bs.map .str) [x, y, .ow (dctF s.1), .ow (.lst (s.2.map .str)), s4] = some (.nx, [x, y, .ow (dctF (bs.foldl vis s).1), .ow (.lst ((bs.foldl vis s).2.map .str)), s4']) ∧ (s4' = .no ∨ ∃ d, s4' = .va d)
  | [], s, s4, h, hl, hz, hb, h4 => ⟨s4, rfl, h4⟩
  | b :: bs, s, s4, h, hl, hz, hb, h4 => by
    obtain ⟨h1, h2, h3⟩ := vis_ok h (hb b List.mem_cons_self)
    have hf := h.len
    have hf1 := h1.len
    have hvl := vis_le s b
    rw [List.length_cons] at hz
    obtain ⟨s4', e, h5⟩ := above_for (x := x) (y := y) (bs := bs) (s := vis s b) (s4 := .va (.str b)) h1 hl (by omega) (fun c hc => hb c (List.mem_cons_of_mem _ hc)) (.inr ⟨_, rfl⟩)
    refine ⟨s4', ?_, h5⟩
    have et := above_turn (f := s.1) (w := s.2) (b := b) (x := x) (y := y) (s4 := s4) (by omega) (by omega)
    rw [List.map_cons, List.foldl_cons]
    refine (forF_nx ?_ et).trans e
    rcases h4 with rfl | ⟨d, rfl⟩ <;> simp
theorem FOk.wlen {L : List Row} {f w : List Str} {k : Str} (h : FOk L (f, w ++ [k])) : FOk L (f, w) ∧ k ∈ keys L :=
  ⟨⟨h.nd, h.f, fun b hb => h.w b (List.mem_append_left _ hb)⟩, h.w k (List.mem_append_right _ (List.mem_singleton_self _))⟩
theorem above_while {L : List Row} (hL : LOk L) {k : Sl} {s : FW} {r : List Str} (d : Dfs L s r) : FOk L s → s.2.length + 6 * (L.length - s.1.length) ≤ 1000 → ∀ {s4 : Sl}, (s4 = .no ∨ ∃ d, s4 = .va d) →
    ∃ n s4', whF (m1 (.n 3) dTru) l2_kinds_above n [.va (ladD L), k, .ow (dctF s.1), .ow (.lst (s.2.map .str)), s4] = some (.nx, [.va (ladD L), k, .ow (dctF r), .ow (.lst []), s4']) := by
  induction d with
  | nil f =>
    intro h hz s4 h4
    refine ⟨1, s4, ?_⟩
    unfold whF
    simp -implicitDefEqProofs [dTru]
  | step f w q bs r e d ih =>
    intro h hz s4 h4
    obtain ⟨h0, hk⟩ := h.wlen
    have hbs := hL.inn _ (bo_mem e)
    obtain ⟨h1, h2, h3⟩ := visL_ok h0 hbs
    have hbl := hL.blen e
    have hLl := hL.len
    have hfl := h0.len
    have hfl1 := h1.len
    dsimp only at hz h2 h3 hfl hfl1
    rw [List.length_append, List.length_singleton] at hz
    obtain ⟨s4a, ef, h4a⟩ := above_for (x := .va (ladD L)) (y := k) (bs := bs) (s := (f, w)) (s4 := s4) h0 hLl (by dsimp only; omega) hbs h4
    obtain ⟨n, s4b, ew⟩ := ih h1 (by omega) h4a
    refine ⟨n + 1, s4b, ?_⟩
    dsimp only at ef
    refine (whF_nx (ρ1 := [.va (ladD L), k, .ow (dctF f), .ow (.lst ((w ++ [q]).map .str)), s4]) ?_ ?_).trans ew
    · simp -implicitDefEqProofs [dTru]
    · have hp : fPop ((w ++ [q]).map D.str) = some (.str q, w.map .str) := by
        unfold fPop
        simp
      simp -implicitDefEqProofs only [l2_kinds_above, ev_for, ev_it, ev_asV, ev_callR, ev_arv, ev_ar0, ev_var, ev_M0, ev_getL, ev_getO, List.getElem?_cons_zero, List.getElem?_cons_succ, slV_va, gO_ow, lsO_l, Option.bind_some, hp, Option.map_some, ev_putO]
      simp -implicitDefEqProofs [bosses_of_ok hL e, stD, ef]
end DL

set_option Elab.async false
set_option linter.all false
set_option maxRecDepth 100000
namespace DL
open PySem PySem.Spec PyProof.Rows L2
theorem mWhile_eq {t : Mm Bool} {b : Ms} {n : Nat} {ρ : En} {r : Fl × En} (h : whF t b n ρ = some r) : mWhile t b ρ = some r := mWhile_of h
theorem start_ok {L : List Row} {k : Str} (hk : k ∈ keys L) : FOk L ([], [k]) :=
  ⟨.nil, (fun b h => by cases h), fun b h => by rw [List.mem_singleton] at h; exact h ▸ hk⟩
theorem kinds_above_ok {L : List Row} (hL : LOk L) {k : Str} (hk : k ∈ keys L) {r : List Str} (d : Dfs L ([], [k]) r) (hr : r.length ≤ 5) :
    f_kinds_above [.va (ladD L), .va (.str k)] = some (.va (.tup ((srt r).map .str)), none) := by
  have hLl := hL.len
  obtain ⟨n, s4, ew⟩ := above_while hL (k := .va (.str k)) d (start_ok hk) (by dsimp only; rw [List.length_singleton, List.length_nil]; omega) (s4 := .no) (.inl rfl)
  have ew := mWhile_eq ew
  have ew : mWhile (m1 (.n 3) dTru) l2_kinds_above [.va (ladD L), .va (.str k), .ow (.dct [] []), .ow (.lst [.str k]), .no] = _ := ew
  simp -implicitDefEqProofs [f_kinds_above, m_kinds_above, szOk, ew, dctF, dSort_dct r _ (show r.length < 64 by omega), ioOut2]
theorem can_be_over_ok {L : List Row} (hL : LOk L) {one k : Str} (hk : k ∈ keys L) {r : List Str} (d : Dfs L ([], [k]) r) (hr : r.length ≤ 5) :
    f_can_be_over [.va (ladD L), .va (.str one), .va (.str k)] = some (.va (.bl (decide (one ∈ r))), none) := by
  have e := dIn_t one (srt r)
  rw [show decide (one ∈ srt r) = decide (one ∈ r) from decide_eq_decide.mpr srt_mem] at e
  simp -implicitDefEqProofs [f_can_be_over, m_can_be_over, kinds_above_ok hL hk d hr, e, ioOut3]
theorem filterMap_if {α β : Type} (p : α → Bool) (f : α → β) (l : List α) : l.filterMap (fun x => if p x then some (f x) else none) = (l.filter p).map f := by
  induction l with
  | nil => rfl
  | cons x l ih =>
    rw [List.filterMap_cons, List.filter_cons]
    cases h : p x with
    | true => simp [ih]
    | false => simp [ih]
theorem kinds_below_ok {L : List Row} (hL : LOk L) {k : Str} {R : Str → List Str} (hR : ∀ x ∈ keys L, Dfs L ([], [x]) (R x) ∧ (R x).length ≤ 5) :
    f_kinds_below [.va (ladD L), .va (.str k)] = some (.va (.tup (((keys L).filter fun x => decide (k ∈ R x)).map .str)), none) := by
  have hLl := hL.len
  have hc : lcF [2] (.nm 2) (m1 (.e (asV (mCallR 3 f_can_be_over [.v (mVar 0), .v (mVar 1), .v (mVar 2)]))) dTru) (mVar 2) ((keys L).map .str) [] [.va (ladD L), .va (.str k), .no] = some (((keys L).filter fun x => decide (k ∈ R x)).map .str, [.va (ladD L), .va (.str k), .no]) := by
    refine (lcF_pure (fun d => match d with | .str x => if decide (k ∈ R x) then some (.str x) else none | _ => none) (fun d hd => ?_) ?_).trans ?_
    · obtain ⟨x, hx, rfl⟩ := List.mem_map.mp hd
      obtain ⟨h1, h2⟩ := hR x hx
      refine ⟨[.va (ladD L), .va (.str k), .va (.str x)], decide (k ∈ R x), [.va (ladD L), .va (.str k), .va (.str x)], by simp, by simp -implicitDefEqProofs [can_be_over_ok hL hx h1 h2, dTru], ?_⟩
      by_cases hm : k ∈ R x
      · exact .inr ⟨decide_eq_true hm, .str x, _, by simp; rfl, by simp [hm], rfl⟩
      · exact .inl ⟨decide_eq_false hm, by simp [hm], rfl⟩
    · rw [List.length_map, keys_len, List.length_nil]
      omega
    · rw [List.nil_append, List.filterMap_map]
      congr 2
      exact filterMap_if (fun x => decide (k ∈ R x)) D.str (keys L)
  simp -implicitDefEqProofs [f_kinds_below, m_kinds_below, kinds_of_ok hLl, dem, clr, hc, rst, ioOut2]
theorem ring_kinds_ok {L : List Row} (hL : LOk L) {R : Str → List Str} (hR : ∀ x ∈ keys L, Dfs L ([], [x]) (R x) ∧ (R x).length ≤ 5) :
    f_ring_kinds [.va (ladD L)] = some (.va (.tup (((keys L).filter fun x => decide (x ∈ R x)).map .str)), none) := by
  have hLl := hL.len
  have hc : lcF [1] (.nm 1) (m1 (.e (asV (mCallR 3 f_can_be_over [.v (mVar 0), .v (mVar 1), .v (mVar 1)]))) dTru) (mVar 1) ((keys L).map .str) [] [.va (ladD L), .no] = some (((keys L).filter fun x => decide (x ∈ R x)).map .str, [.va (ladD L), .no]) := by
    refine (lcF_pure (fun d => match d with | .str x => if decide (x ∈ R x) then some (.str x) else none | _ => none) (fun d hd => ?_) ?_).trans ?_
    · obtain ⟨x, hx, rfl⟩ := List.mem_map.mp hd
      obtain ⟨h1, h2⟩ := hR x hx
      refine ⟨[.va (ladD L), .va (.str x)], decide (x ∈ R x), [.va (ladD L), .va (.str x)], by simp, by simp -implicitDefEqProofs [can_be_over_ok hL hx h1 h2, dTru], ?_⟩
      by_cases hm : x ∈ R x
      · exact .inr ⟨decide_eq_true hm, .str x, _, by simp; rfl, by simp [hm], rfl⟩
      · exact .inl ⟨decide_eq_false hm, by simp [hm], rfl⟩
    · rw [List.length_map, keys_len, List.length_nil]
      omega
    · rw [List.nil_append, List.filterMap_map]
      congr 2
      exact filterMap_if (fun x => decide (x ∈ R x)) D.str (keys L)
  simp -implicitDefEqProofs [f_ring_kinds, m_ring_kinds, kinds_of_ok hLl, dem, clr, hc, rst, ioOut1]
/-! ### the law's own walk -/
theorem reach_turn {f w : List Str} {b : Str} {x y z : Sl} (hl : f.length < 16777216) (hw : w.length < 16777216) :
    l1__law_reach [x, y, z, .ow (.lst (f.map .str)), .ow (.lst (w.map .str)), .va (.str b)] = some (.nx, [x, y, z, .ow (.lst ((vis (f, w) b).1.map .str)), .ow (.lst ((vis (f, w) b).2.map .str)), .va (.str b)]) := by
  unfold vis
  by_cases h : b ≠ "" ∧ b ∉ f
  · have hb : (b == ("" : Str)) = false := by rw [beq_eq_false_iff_ne]; exact h.1
    rw [if_pos h]
    simp -implicitDefEqProofs [l1__law_reach, hb, dNotIn_l, h.2, fApp_ok, hw, hl]
  · rw [if_neg h]
    by_cases hb : b = ""
    · have hb : (b == ("" : Str)) = true := by rw [hb]; exact beq_self_eq_true _
      simp -implicitDefEqProofs [l1__law_reach, hb]
    · have hf : b ∈ f := by
        by_cases z : b ∈ f
        · exact z
        · exact absurd ⟨hb, z⟩ h
      have hb : (b == ("" : Str)) = false := by rw [beq_eq_false_iff_ne]; exact hb
      simp -implicitDefEqProofs [l1__law_reach, hb, dNotIn_l, hf]
theorem reach_for {L : List Row} {x y z : Sl} : ∀ {bs : List Str} {s : FW} {s4 : Sl}, FOk L s → L.length ≤ 5 → s.2.length + bs.length ≤ 1000000 → (∀ b ∈ bs, b = "" ∨ b ∈ keys L) → (s4 = .no ∨ ∃ d, s4 = .va d) →
    ∃ s4', forF (.nm 5) l1__law_reach (bs.map .str) [x, y, z, .ow (.lst (s.1.map .str)), .ow (.lst (s.2.map .str)), s4] = some (.nx, [x, y, z, .ow (.lst ((bs.foldl vis s).1.map .str)), .ow (.lst ((bs.foldl vis s).2.map .str)), s4']) ∧ (s4' = .no ∨ ∃ d, s4' = .va d)
  | [], s, s4, h, hl, hz, hb, h4 => ⟨s4, rfl, h4⟩
  | b :: bs, s, s4, h, hl, hz, hb, h4 => by
    obtain ⟨h1, h2, h3⟩ := vis_ok h (hb b List.mem_cons_self)
    have hf := h.len
    have hf1 := h1.len
    have hvl := vis_le s b
    rw [List.length_cons] at hz
    obtain ⟨s4', e, h5⟩ := reach_for (x := x) (y := y) (z := z) (bs := bs) (s := vis s b) (s4 := .va (.str b)) h1 hl (by omega) (fun c hc => hb c (List.mem_cons_of_mem _ hc)) (.inr ⟨_, rfl⟩)
    refine ⟨s4', ?_, h5⟩
    have et := reach_turn (f := s.1) (w := s.2) (b := b) (x := x) (y := y) (z := z) (by omega) (by omega)
    rw [List.map_cons, List.foldl_cons]
    refine (forF_nx ?_ et).trans e
    rcases h4 with rfl | ⟨d, rfl⟩ <;> simp
def dctL (L : List Row) : Ow := .dct (dctKs L) (dctDs L)
theorem reach_while {L : List Row} (hL : LOk L) {k : Sl} {s : FW} {r : List Str} (d : Dfs L s r) : FOk L s → s.2.length + 6 * (L.length - s.1.length) ≤ 1000 → ∀ {s4 : Sl}, (s4 = .no ∨ ∃ d, s4 = .va d) →
    ∃ n s4', whF (mTb (m2 (.e (m1 (.n 4) dLen)) (.e (mC (.int 0))) dGt)) l2__law_reach n [.va (ladD L), k, .ow (dctL L), .ow (.lst (s.1.map .str)), .ow (.lst (s.2.map .str)), s4] = some (.nx, [.va (ladD L), k, .ow (dctL L), .ow (.lst (r.map .str)), .ow (.lst []), s4']) := by
  induction d with
  | nil f =>
    intro h hz s4 h4
    refine ⟨1, s4, whF_end ?_⟩
    simp -implicitDefEqProofs
  | step f w q bs r e d ih =>
    intro h hz s4 h4
    obtain ⟨h0, hk⟩ := h.wlen
    have hbs := hL.inn _ (bo_mem e)
    obtain ⟨h1, h2, h3⟩ := visL_ok h0 hbs
    have hbl := hL.blen e
    have hLl := hL.len
    have hfl := h0.len
    have hfl1 := h1.len
    dsimp only at hz h2 h3 hfl hfl1
    rw [List.length_append, List.length_singleton] at hz
    obtain ⟨s4a, ef, h4a⟩ := reach_for (x := .va (ladD L)) (y := k) (z := .ow (dctL L)) (bs := bs) (s := (f, w)) (s4 := s4) h0 hLl (by dsimp only; omega) hbs h4
    obtain ⟨n, s4b, ew⟩ := ih h1 (by omega) h4a
    refine ⟨n + 1, s4b, ?_⟩
    dsimp only at ef
    refine (whF_nx (ρ1 := [.va (ladD L), k, .ow (dctL L), .ow (.lst (f.map .str)), .ow (.lst ((w ++ [q]).map .str)), s4]) ?_ ?_).trans ew
    · simp -implicitDefEqProofs
    · have hp : fPop ((w ++ [q]).map D.str) = some (.str q, w.map .str) := by
        unfold fPop
        simp
      have hx : dIx (dctL L).d (.str q) = some (stD bs) := by
        have := dIx_lad L q
        rw [e] at this
        exact this
      simp -implicitDefEqProofs only [l2__law_reach, ev_for, ev_it, ev_m2ne, ev_bor, slB_ow, ev_M0, ev_getL, ev_getO, List.getElem?_cons_zero, List.getElem?_cons_succ, slV_va, gO_ow, lsO_l, Option.bind_some, hp, Option.map_some, ev_putO]
      simp -implicitDefEqProofs [hx, stD, ef]
theorem law_reach_ok {L : List Row} (hL : LOk L) {k : Str} (hk : k ∈ keys L) {r : List Str} (d : Dfs L ([], [k]) r) :
    f__law_reach [.va (ladD L), .va (.str k)] = some (.va (.lst (r.map .str)), none) := by
  have hLl := hL.len
  obtain ⟨n, s4, ew⟩ := reach_while hL (k := .va (.str k)) d (start_ok hk) (by dsimp only; rw [List.length_singleton, List.length_nil]; omega) (s4 := .no) (.inl rfl)
  have ew := mWhile_eq ew
  have ew : mWhile (mTb (m2 (.e (m1 (.n 4) dLen)) (.e (mC (.int 0))) dGt)) l2__law_reach [.va (ladD L), .va (.str k), .ow (.dct (dctKs L) (dctDs L)), .ow (.lst []), .ow (.lst [.str k]), .no] = _ := ew
  simp -implicitDefEqProofs [f__law_reach, m__law_reach, dDict_lad hL.nd, szOk, ew, ioOut2]
end DL

set_option Elab.async false
set_option linter.all false
set_option maxRecDepth 100000
namespace DL
open PySem PySem.Spec PyProof.Rows L2
mutual
def nd : D → Nat
  | .tup ds => 1 + ndL ds
  | _ => 1
def ndL : List D → Nat
  | [] => 0
  | d :: ds => nd d + ndL ds
end
mutual
/-- tuples, texts, numbers, truths, None -/
def D.pn : D → Bool
  | .tup ds => pnL ds
  | .str _ => true
  | .int _ => true
  | .bl _ => true
  | .non => true
  | _ => false
def pnL : List D → Bool
  | [] => true
  | d :: ds => d.pn && pnL ds
end
theorem nd_pos (d : D) : 1 ≤ nd d := by
  cases d <;> simp [nd]
theorem ndL_len : ∀ ds : List D, ds.length ≤ ndL ds
  | [] => Nat.zero_le _
  | d :: ds => by
    have := nd_pos d
    have := ndL_len ds
    simp [ndL]
    omega
theorem ndL_app : ∀ a b : List D, ndL (a ++ b) = ndL a + ndL b
  | [], b => by simp [ndL]
  | x :: a, b => by
    rw [List.cons_append]
    simp [ndL]
    rw [ndL_app a b]
    omega
theorem pnL_mem : ∀ {ds : List D}, pnL ds = true → ∀ d ∈ ds, d.pn = true
  | [], _, d, h => by cases h
  | x :: ds, h, d, hd => by
    simp [pnL] at h
    rcases List.mem_cons.mp hd with e | hd
    · rw [e]; exact h.1
    · exact pnL_mem h.2 d hd
theorem pnL_of : ∀ {ds : List D}, (∀ d ∈ ds, d.pn = true) → pnL ds = true
  | [], _ => by simp [pnL]
  | x :: ds, h => by
    simp [pnL]
    exact ⟨h x List.mem_cons_self, pnL_of fun d hd => h d (List.mem_cons_of_mem _ hd)⟩
def pr (x : D) : D := .tup [x, x]
theorem fApp_pr {xs : List D} {x : D} (h : xs.length < 16777216) : fApp (xs.map pr) (.tup [x, x]) = some (.non, (xs ++ [x]).map pr) := by
  rw [fApp_ok (by rw [List.length_map]; exact h), List.map_append]
  rfl
theorem same_in {t u s3 : Sl} {ys zs : List D} (hl : ys.length + zs.length < 1000000) : ∀ {s6 : Sl}, (s6 = .no ∨ ∃ d, s6 = .va d) →
    ∃ s6', forF (.nm 6) l1__law_same (rngD 0 zs.length) [t, u, .ow (.lst (ys.map pr)), s3, .va (.tup zs), .va (.tup zs), s6] = some (.nx, [t, u, .ow (.lst ((ys ++ zs).map pr)), s3, .va (.tup zs), .va (.tup zs), s6']) ∧ (s6' = .no ∨ ∃ d, s6' = .va d) := by
  intro s6 h6
  obtain ⟨ρ', e, s6', er, h6'⟩ := forF_rng (t := .nm 6) (b := l1__law_same) (n := zs.length) (fun k ρ => ∃ s6, ρ = [t, u, .ow (.lst ((ys ++ zs.take k).map pr)), s3, .va (.tup zs), .va (.tup zs), s6] ∧ (s6 = .no ∨ ∃ d, s6 = .va d))
    (fun k ρ hk ⟨s6, er, h6⟩ => by
      subst er
      obtain ⟨z, hz⟩ : ∃ z, zs[k]? = some z := ⟨_, List.getElem?_eq_getElem hk⟩
      have hx : dAt zs (k : Int) = some z := dAt_nat hz
      have hz2 : zs.take (k + 1) = zs.take k ++ [z] := by
        obtain ⟨h1, h2⟩ := List.getElem?_eq_some_iff.mp hz
        rw [List.take_add_one, hz]
        rfl
      have hlen : (ys ++ zs.take k).length < 16777216 := by
        rw [List.length_append, List.length_take]
        omega
      refine ⟨[t, u, .ow (.lst ((ys ++ zs.take k).map pr)), s3, .va (.tup zs), .va (.tup zs), .va (.int k)], .nx, _, ?_, ?_, .inl rfl, .va (.int k), rfl, .inr ⟨_, rfl⟩⟩
      · rcases h6 with rfl | ⟨d, rfl⟩ <;> simp
      · rw [hz2, ← List.append_assoc]
        have ha := fApp_pr (x := z) hlen
        generalize hq : (ys ++ zs.take k).map pr = q at ha
        simp -implicitDefEqProofs [l1__law_same, hx, szOk, ha])
    ⟨s6, by rw [List.take_zero, List.append_nil], h6⟩
  subst er
  rw [List.take_length] at e
  exact ⟨s6', e, h6'⟩
def NoVa (s : Sl) : Prop := s = .no ∨ ∃ d, s = .va d
theorem same_for {t u : Sl} : ∀ {ds xs : List D} {s3 s4 s5 s6 : Sl}, (∀ d ∈ ds, ∃ i, d = .int i) → pnL xs = true → ndL xs < ds.length → ndL xs < 900000 → NoVa s3 → NoVa s4 → NoVa s5 → NoVa s6 →
    ∃ ρ', forF (.nm 3) l2__law_same ds [t, u, .ow (.lst (xs.map pr)), s3, s4, s5, s6] = some (.rv (.bl true), ρ')
  | [], xs, s3, s4, s5, s6, _, _, h, _, _, _, _, _ => by simp at h
  | d :: ds, xs, s3, s4, s5, s6, hi, hp, h, hz, h3, h4, h5, h6 => by
    rw [List.length_cons] at h
    have e3 : ∀ q, asg (.nm 3) d [t, u, .ow (.lst q), s3, s4, s5, s6] = some [t, u, .ow (.lst q), .va d, s4, s5, s6] := fun q => by
      rcases h3 with rfl | ⟨_, rfl⟩ <;> simp
    have hd := hi d List.mem_cons_self
    have hds : ∀ d ∈ ds, ∃ i, d = .int i := fun d hd => hi d (List.mem_cons_of_mem _ hd)
    rcases List.eq_nil_or_concat xs with rfl | ⟨ys, x, rfl⟩
    · refine ⟨_, forF_rv (ρ2 := [t, u, .ow (.lst []), .va d, s4, s5, s6]) (e3 _) ?_⟩
      simp -implicitDefEqProofs [l2__law_same]
    · have hps : ∀ d ∈ ys ++ [x], d.pn = true := pnL_mem (by rw [← List.concat_eq_append]; exact hp)
      have hnd : ndL ys + nd x = ndL (ys.concat x) := by
        rw [List.concat_eq_append, ndL_app]
        simp [ndL]
      have hy : ys.length ≤ ndL ys := ndL_len ys
      have hx1 := nd_pos x
      have hpop : fPop ((ys ++ [x]).map pr) = some (.tup [x, x], ys.map pr) := by
        unfold fPop
        simp [pr]
      have hpy : pnL ys = true := pnL_of fun d hd => hps d (List.mem_append_left _ hd)
      have hxp : x.pn = true := hps x (List.mem_append_right _ (List.mem_singleton_self _))
      have e45 : ∀ q, asgL [.nm 4, .nm 5] [x, x] [t, u, .ow (.lst q), .va d, s4, s5, s6] = some [t, u, .ow (.lst q), .va d, .va x, .va x, s6] := fun q => by
        rcases h4 with rfl | ⟨_, rfl⟩ <;> rcases h5 with rfl | ⟨_, rfl⟩ <;> simp
      have hlen : (((ys ++ [x]).map pr).length : Int) = (ys.length : Int) + 1 := by simp
      have hnz : ((ys.length : Int) + 1 == 0) = false := by rw [beq_eq_false_iff_ne]; omega
      rw [List.concat_eq_append]
      generalize hq : (ys ++ [x]).map pr = q at hpop hlen
      cases x with
      | tup zs =>
        have hzs : pnL zs = true := by rw [D.pn] at hxp; exact hxp
        have hzl := ndL_len zs
        have hnt : nd (.tup zs) = 1 + ndL zs := by rw [nd]
        obtain ⟨s6', ei, h6'⟩ := same_in (t := t) (u := u) (s3 := .va d) (ys := ys) (zs := zs) (by omega) h6
        obtain ⟨ρ', er⟩ := same_for (t := t) (u := u) (ds := ds) (xs := ys ++ zs) (s3 := .va d) (s4 := .va (.tup zs)) (s5 := .va (.tup zs)) (s6 := s6') hds (pnL_of fun d hd => (List.mem_append.mp hd).elim (pnL_mem hpy d) (pnL_mem hzs d)) (by rw [ndL_app]; omega) (by rw [ndL_app]; omega) (.inr ⟨_, rfl⟩) (.inr ⟨_, rfl⟩) (.inr ⟨_, rfl⟩) h6'
        refine ⟨ρ', (forF_nx (e3 q) ?_).trans er⟩
        have hr : rng1 [.int (zs.length : Int)] = some (rngD 0 zs.length) := rng1_nat (by omega)
        have it : dIsi "tuple" (.tup zs) = some (.bl true) := rfl
        simp -implicitDefEqProofs [l2__law_same, hlen, hnz, hpop, e45, it, dTru, hr, ei]
      | str z =>
        obtain ⟨ρ', er⟩ := same_for (t := t) (u := u) (ds := ds) (xs := ys) (s3 := .va d) (s4 := .va (.str z)) (s5 := .va (.str z)) (s6 := s6) hds hpy (by omega) (by omega) (.inr ⟨_, rfl⟩) (.inr ⟨_, rfl⟩) (.inr ⟨_, rfl⟩) h6
        refine ⟨ρ', (forF_nx (e3 q) ?_).trans er⟩
        have it : ∀ n, dIsi n (.str z) = some (.bl (n == "str")) := fun n => rfl
        simp -implicitDefEqProofs [l2__law_same, hlen, hnz, hpop, e45, it, dTru, dIsN, D.isNon]
      | int z =>
        obtain ⟨ρ', er⟩ := same_for (t := t) (u := u) (ds := ds) (xs := ys) (s3 := .va d) (s4 := .va (.int z)) (s5 := .va (.int z)) (s6 := s6) hds hpy (by omega) (by omega) (.inr ⟨_, rfl⟩) (.inr ⟨_, rfl⟩) (.inr ⟨_, rfl⟩) h6
        refine ⟨ρ', (forF_nx (e3 q) ?_).trans er⟩
        have it : ∀ n, dIsi n (.int z) = some (.bl (n == "int")) := fun n => rfl
        simp -implicitDefEqProofs [l2__law_same, hlen, hnz, hpop, e45, it, dTru, dIsN, D.isNon]
      | bl z =>
        obtain ⟨ρ', er⟩ := same_for (t := t) (u := u) (ds := ds) (xs := ys) (s3 := .va d) (s4 := .va (.bl z)) (s5 := .va (.bl z)) (s6 := s6) hds hpy (by omega) (by omega) (.inr ⟨_, rfl⟩) (.inr ⟨_, rfl⟩) (.inr ⟨_, rfl⟩) h6
        refine ⟨ρ', (forF_nx (e3 q) ?_).trans er⟩
        have it : ∀ n, dIsi n (.bl z) = some (.bl (n == "bool" || n == "int")) := fun n => rfl
        have ne : dNe (.bl z) (.bl z) = some (.bl (!(z == z))) := rfl
        simp -implicitDefEqProofs [l2__law_same, hlen, hnz, hpop, e45, it, dTru, dIsN, D.isNon, ne]
      | non =>
        obtain ⟨ρ', er⟩ := same_for (t := t) (u := u) (ds := ds) (xs := ys) (s3 := .va d) (s4 := .va .non) (s5 := .va .non) (s6 := s6) hds hpy (by omega) (by omega) (.inr ⟨_, rfl⟩) (.inr ⟨_, rfl⟩) (.inr ⟨_, rfl⟩) h6
        refine ⟨ρ', (forF_nx (e3 q) ?_).trans er⟩
        have it : ∀ n, dIsi n .non = some (.bl (n == "NoneType")) := fun n => rfl
        simp -implicitDefEqProofs [l2__law_same, hlen, hnz, hpop, e45, it, dTru, dIsN, dNotN, D.isNon]
      | lst _ => simp [D.pn] at hxp
      | dct _ _ => simp [D.pn] at hxp
      | scr _ => simp [D.pn] at hxp
theorem same_ok {x : D} (hp : x.pn = true) (hn : nd x < 900000) : f__law_same [.va x, .va x] = some (.va (.bl true), none) := by
  have hr : rng1 [.int 2000000] = some (rngD 0 2000000) := rfl
  obtain ⟨ρ', e⟩ := same_for (t := .va x) (u := .va x) (ds := rngD 0 2000000) (xs := [x]) (s3 := .no) (s4 := .no) (s5 := .no) (s6 := .no) (fun d hd => by
      unfold rngD at hd
      obtain ⟨i, _, rfl⟩ := List.mem_map.mp hd
      exact ⟨_, rfl⟩) (by simp [pnL, hp]) (by rw [rngD_len]; simp [ndL]; omega) (by simp [ndL]; omega) (.inl rfl) (.inl rfl) (.inl rfl) (.inl rfl)
  have e : forF (.nm 3) l2__law_same (rngD 0 2000000) [.va x, .va x, .ow (.lst [.tup [x, x]]), .no, .no, .no, .no] = _ := e
  generalize rngD 0 2000000 = rg at hr e
  simp -implicitDefEqProofs [f__law_same, m__law_same, szOk, hr, e, ioOut2]
end DL

set_option Elab.async false
set_option linter.all false
set_option maxRecDepth 100000
namespace DL
open PySem PySem.Spec PyProof.Rows L2
theorem eraseIdx_map {α β : Type} (f : α → β) : ∀ (l : List α) (i : Nat), (l.map f).eraseIdx i = (l.eraseIdx i).map f
  | [], i => by simp
  | x :: l, 0 => rfl
  | x :: l, i + 1 => by
    rw [List.map_cons, List.eraseIdx_cons_succ, List.eraseIdx_cons_succ, List.map_cons, eraseIdx_map f l i]
theorem erase_perm {α : Type} : ∀ {l : List α} {i : Nat} {x : α}, l[i]? = some x → (x :: l.eraseIdx i).Perm l
  | [], i, x, h => by simp at h
  | y :: l, 0, x, h => by
    have h : y = x := by simpa using h
    subst h
    exact .refl _
  | y :: l, i + 1, x, h => by
    have ih := erase_perm (l := l) (i := i) (x := x) (by simpa using h)
    rw [List.eraseIdx_cons_succ]
    exact (List.Perm.swap y x _).trans (ih.cons y)
theorem popAt_ok {l : List Str} {r : Int} (h0 : 0 ≤ r) (h1 : r < l.length) (hl : l.length ≤ 1000) : ∃ x l', fPopAt (l.map .str) (.int r) = some (.str x, l'.map .str) ∧ (x :: l').Perm l := by
  obtain ⟨k, rfl⟩ := Int.eq_ofNat_of_zero_le h0
  have hk : k < l.length := by omega
  obtain ⟨x, hx⟩ : ∃ x, l[k]? = some x := ⟨_, List.getElem?_eq_getElem hk⟩
  refine ⟨x, l.eraseIdx k, ?_, erase_perm hx⟩
  show (if (0 : Int) ≤ (k : Int) ∧ (k : Int) < 4611686018427387904 then (match (l.map D.str)[(k : Int).toNat]? with
    | some d => some (d, (l.map D.str).eraseIdx (k : Int).toNat)
    | none => none) else none) = _
  rw [if_pos ⟨h0, by omega⟩, Int.toNat_natCast, List.getElem?_map, hx, eraseIdx_map]
  rfl
theorem order_ok {v : Vt} (hv : VOk v) {ws : List Str} (hw : ws.length ≤ 5) {m s2 : Sl} :
    ∃ (od : List Str) (v' : Vt), lcF [7] (.nm 7) (ret true) (mM1 3 (asV (mCallR 2 f__law_take [.o 0, .v (m1 (.n 3) dLen)])) fPopAt) (rngD 0 ws.length) [] [.io v.o, m, s2, .ow (.lst (ws.map .str)), .no, .no, .no, .no, .no, .no] =
      some (od.map .str, [.io v'.o, m, s2, .ow (.lst []), .no, .no, .no, .no, .no, .no]) ∧ od.Perm ws ∧ VOk v' := by
  obtain ⟨acc, ρ', e, od, left, v', er, ea, hp, hl, hv'⟩ := lcF_idx (ix := [7]) (t := .nm 7) (tt := ret true) (el := mM1 3 (asV (mCallR 2 f__law_take [.o 0, .v (m1 (.n 3) dLen)])) fPopAt) (ds := rngD 0 ws.length)
    (fun k acc ρ => ∃ (od left : List Str) (v : Vt), ρ = [.io v.o, m, s2, .ow (.lst (left.map .str)), .no, .no, .no, .no, .no, .no] ∧ acc = od.map .str ∧ (od ++ left).Perm ws ∧ od.length = k ∧ VOk v)
    (fun k d acc ρ hd ⟨od, left, v, er, ea, hp, hk, hv⟩ => by
      subst er ea
      obtain ⟨hlt, rfl⟩ := rngD_get hd
      have hlen := hp.length_eq
      rw [List.length_append] at hlen
      obtain ⟨r, v', et, h0, h1, hv'⟩ := take_ok hv (many := (left.length : Int)) (by omega) (by omega)
      obtain ⟨x, l', ep, hp'⟩ := popAt_ok h0 h1 (by omega)
      refine ⟨[.io v.o, m, s2, .ow (.lst (left.map .str)), .no, .no, .no, .va (.int (0 + (k : Int))), .no, .no], true, _, by simp, rfl, .inr ⟨rfl, .str x, [.io v'.o, m, s2, .ow (.lst (l'.map .str)), .no, .no, .no, .va (.int (0 + (k : Int))), .no, .no], ?_, ?_, od ++ [x], l', v', by simp [clr], by rw [List.map_append]; rfl, ?_, by rw [List.length_append, hk]; rfl, hv'⟩⟩
      · simp -implicitDefEqProofs [et, ep]
      · rw [List.length_map]
        omega
      · rw [List.append_assoc]
        exact (hp'.append_left od).trans hp)
    ⟨[], ws, v, rfl, rfl, .refl _, rfl, hv⟩
  subst er ea
  rw [rngD_len] at hl
  have hlen := hp.length_eq
  rw [List.length_append] at hlen
  have : left = [] := List.eq_nil_of_length_eq_zero (by omega)
  subst this
  rw [List.append_nil] at hp
  exact ⟨od, v', e, hp, hv'⟩
/-- bosses being drawn -/
structure BOk (ws : List Str) (bs : List Str) : Prop where
  nd : bs.Nodup
  mem : ∀ b ∈ bs, b = "" ∨ b ∈ ws
theorem BOk.len {ws bs : List Str} (h : BOk ws bs) : bs.length ≤ ws.length + 1 := by
  have := h.nd.length_le_of_subset (l₂ := ("" : Str) :: ws) fun b hb => (h.mem b hb).elim (fun z => z ▸ List.mem_cons_self) (List.mem_cons_of_mem _)
  simpa using this
theorem bosses_for {ws : List Str} (hw : ws.length ≤ 5) {share : Int} (hs : 0 < share) (hs2 : share ≤ 5) {m s2 s3 s4 s6 s7 : Sl} : ∀ {rest : List Str} {v : Vt} {bs : List Str} {s9 : Sl}, VOk v → BOk ws bs → (∀ b ∈ rest, b = "" ∨ b ∈ ws) → NoVa s9 →
    ∃ v' bs' s9', forF (.nm 9) l1__law_ladder (rest.map .str) [.io v.o, m, s2, s3, s4, .va (.int share), s6, s7, .ow (.lst (bs.map .str)), s9] = some (.nx, [.io v'.o, m, s2, s3, s4, .va (.int share), s6, s7, .ow (.lst (bs'.map .str)), s9']) ∧ VOk v' ∧ BOk ws bs' ∧ NoVa s9'
  | [], v, bs, s9, hv, hb, hr, h9 => ⟨v, bs, s9, rfl, hv, hb, h9⟩
  | b :: rest, v, bs, s9, hv, hb, hr, h9 => by
    have hr' : ∀ c ∈ rest, c = "" ∨ c ∈ ws := fun c hc => hr c (List.mem_cons_of_mem _ hc)
    have ea : asg (.nm 9) (.str b) [.io v.o, m, s2, s3, s4, .va (.int share), s6, s7, .ow (.lst (bs.map .str)), s9] = some [.io v.o, m, s2, s3, s4, .va (.int share), s6, s7, .ow (.lst (bs.map .str)), .va (.str b)] := by
      rcases h9 with rfl | ⟨d, rfl⟩ <;> simp
    by_cases hm : b ∈ bs
    · obtain ⟨v', bs', s9', e, h⟩ := bosses_for hw hs hs2 (m := m) (s2 := s2) (s3 := s3) (s4 := s4) (s6 := s6) (s7 := s7) (rest := rest) (s9 := .va (.str b)) hv hb hr' (.inr ⟨_, rfl⟩)
      refine ⟨v', bs', s9', (forF_nx ea ?_).trans e, h⟩
      simp -implicitDefEqProofs [l1__law_ladder, dNotIn_l, hm]
    · obtain ⟨r, v1, et, h0, h1, hv1⟩ := take_ok hv hs (by omega)
      by_cases hz : r = 0
      · subst hz
        have hb' : BOk ws (bs ++ [b]) := ⟨List.nodup_append.mpr ⟨hb.nd, List.pairwise_singleton _ _, fun a ha c hc z => hm (by rw [List.mem_singleton] at hc; rw [← hc, ← z]; exact ha)⟩, fun c hc => by
          rcases List.mem_append.mp hc with hc | hc
          · exact hb.mem c hc
          · rw [List.mem_singleton] at hc
            exact hc ▸ hr b List.mem_cons_self⟩
        have hbl := hb.len
        obtain ⟨v', bs', s9', e, h⟩ := bosses_for hw hs hs2 (m := m) (s2 := s2) (s3 := s3) (s4 := s4) (s6 := s6) (s7 := s7) (rest := rest) (s9 := .va (.str b)) hv1 hb' hr' (.inr ⟨_, rfl⟩)
        refine ⟨v', bs', s9', (forF_nx ea ?_).trans e, h⟩
        simp -implicitDefEqProofs [l1__law_ladder, dNotIn_l, hm, et, fApp_ok, show bs.length < 16777216 by omega]
      · obtain ⟨v', bs', s9', e, h⟩ := bosses_for hw hs hs2 (m := m) (s2 := s2) (s3 := s3) (s4 := s4) (s6 := s6) (s7 := s7) (rest := rest) (s9 := .va (.str b)) hv1 hb hr' (.inr ⟨_, rfl⟩)
        refine ⟨v', bs', s9', (forF_nx ea ?_).trans e, h⟩
        simp -implicitDefEqProofs [l1__law_ladder, dNotIn_l, hm, et, hz]
def NoOw (s : Sl) : Prop := s = .no ∨ (∃ d, s = .va d) ∨ ∃ o, s = .ow o
theorem row_turn {ws od : List Str} (hw : ws.length ≤ 5) (hp : od.Perm ws) {share : Int} (hs : 0 < share) (hs2 : share ≤ 5) {m s3 s8 s9 : Sl} {k : Nat} (hk : k < od.length) {L0 : List Row} (hL0 : L0.length ≤ 5) {v : Vt} (hv : VOk v) (h8 : NoOw s8) (h9 : NoVa s9) :
    ∃ v' bs s9' x, od[k]? = some x ∧ l2__law_ladder [.io v.o, m, .ow (.lst (ws.map .str)), s3, .ow (.lst (od.map .str)), .va (.int share), .ow (.lst (L0.map rowD)), .va (.int k), s8, s9] =
      some (.nx, [.io v'.o, m, .ow (.lst (ws.map .str)), s3, .ow (.lst (od.map .str)), .va (.int share), .ow (.lst ((L0 ++ [(x, srt bs)]).map rowD)), .va (.int k), .ow (.lst (bs.map .str)), s9']) ∧ VOk v' ∧ BOk ws bs ∧ NoVa s9' := by
  have hol := hp.length_eq
  obtain ⟨x, hx⟩ : ∃ x, od[k]? = some x := ⟨_, List.getElem?_eq_getElem hk⟩
  have hxa : dAt (od.map D.str) (k : Int) = some (.str x) := dAt_nat (by rw [List.getElem?_map, hx]; rfl)
  -- the first boss
  have first : ∃ (b : Str) (v1 : Vt), VOk v1 ∧ (b = "" ∨ b ∈ ws) ∧ mIf (mOr (mTb (m2 (.n 7) (.e (mC (.int 0))) dEq)) (mTb (m2 (.e (asV (mCallR 2 f__law_take [.o 0, .v (mC (.int 3))]))) (.e (mC (.int 0))) dEq))) (mC (.str "")) (m2 (.n 4) (.e (asV (mCallR 2 f__law_take [.o 0, .v (mVar 7)]))) dIx) [.io v.o, m, .ow (.lst (ws.map .str)), s3, .ow (.lst (od.map .str)), .va (.int share), .ow (.lst (L0.map rowD)), .va (.int k), s8, s9] =
      some (.str b, [.io v1.o, m, .ow (.lst (ws.map .str)), s3, .ow (.lst (od.map .str)), .va (.int share), .ow (.lst (L0.map rowD)), .va (.int k), s8, s9]) := by
    by_cases h0 : k = 0
    · subst h0
      refine ⟨"", v, hv, .inl rfl, ?_⟩
      simp -implicitDefEqProofs
    · obtain ⟨r, v1, et, g0, g1, hv1⟩ := take_ok hv (many := 3) (by decide) (by decide)
      have hk0 : ((k : Int) == 0) = false := by rw [beq_eq_false_iff_ne]; omega
      by_cases hr : r = 0
      · subst hr
        refine ⟨"", v1, hv1, .inl rfl, ?_⟩
        simp -implicitDefEqProofs [hk0, et]
      · have hr0 : (r == 0) = false := by rw [beq_eq_false_iff_ne]; exact hr
        obtain ⟨q, v2, et2, f0, f1, hv2⟩ := take_ok hv1 (many := (k : Int)) (by omega) (by omega)
        obtain ⟨j, rfl⟩ := Int.eq_ofNat_of_zero_le f0
        obtain ⟨y, hy⟩ : ∃ y, od[j]? = some y := ⟨_, List.getElem?_eq_getElem (by omega)⟩
        have hya : dAt (od.map D.str) (j : Int) = some (.str y) := dAt_nat (by rw [List.getElem?_map, hy]; rfl)
        refine ⟨y, v2, hv2, .inr (hp.mem_iff.mp (List.mem_of_getElem? hy)), ?_⟩
        simp -implicitDefEqProofs [hk0, et, hr0, et2, hya]
  obtain ⟨b, v1, hv1, hb, ef⟩ := first
  obtain ⟨v2, bs, s9', eb, hv2, hbs, h9'⟩ := bosses_for hw hs hs2 (m := m) (s2 := .ow (.lst (ws.map .str))) (s3 := s3) (s4 := .ow (.lst (od.map .str))) (s6 := .ow (.lst (L0.map rowD))) (s7 := .va (.int k)) (rest := ws ++ [("" : Str)]) (bs := [b]) (s9 := s9) hv1
    ⟨List.pairwise_singleton _ _, fun c hc => by rw [List.mem_singleton] at hc; exact hc ▸ hb⟩ (fun c hc => by
      rcases List.mem_append.mp hc with hc | hc
      · exact .inr hc
      · rw [List.mem_singleton] at hc
        exact .inl hc) h9
  refine ⟨v2, bs, s9', x, hx, ?_, hv2, hbs, h9'⟩
  rw [List.map_append] at eb
  have eb : forF (.nm 9) l1__law_ladder (ws.map D.str ++ [.str ""]) [.io v1.o, m, .ow (.lst (ws.map .str)), s3, .ow (.lst (od.map .str)), .va (.int share), .ow (.lst (L0.map rowD)), .va (.int k), .ow (.lst [.str b]), s9] = _ := eb
  have hcat : dCat (.lst (ws.map D.str)) (.lst [.str ""]) = some (.lst (ws.map D.str ++ [.str ""])) := by
    show (if (ws.map D.str).length + 1 ≤ 16777216 then some (Ow.lst (ws.map D.str ++ [.str ""])) else none) = _
    rw [if_pos (by rw [List.length_map]; omega)]
  have hrow : (L0 ++ [(x, srt bs)]).map rowD = L0.map rowD ++ [.tup [.str x, .tup ((srt bs).map .str)]] := by
    rw [List.map_append]
    rfl
  rw [hrow]
  have e1 : (mSetO (mLst (mCons (mIf (mOr (mTb (m2 (.n 7) (.e (mC (.int 0))) dEq)) (mTb (m2 (.e (asV (mCallR 2 f__law_take [.o 0, .v (mC (.int 3))]))) (.e (mC (.int 0))) dEq))) (mC (.str "")) (m2 (.n 4) (.e (asV (mCallR 2 f__law_take [.o 0, .v (mVar 7)]))) dIx)) mNil)) 8)
      [.io v.o, m, .ow (.lst (ws.map .str)), s3, .ow (.lst (od.map .str)), .va (.int share), .ow (.lst (L0.map rowD)), .va (.int k), s8, s9] =
      some (.nx, [.io v1.o, m, .ow (.lst (ws.map .str)), s3, .ow (.lst (od.map .str)), .va (.int share), .ow (.lst (L0.map rowD)), .va (.int k), .ow (.lst [.str b]), s9]) := by
    rw [ev_setO, ev_lst, ev_cons, ef]
    rcases h8 with rfl | ⟨d, rfl⟩ | ⟨o, rfl⟩ <;> simp [szOk]
  rw [l2__law_ladder, ev_seq, e1, flS_nx]
  simp -implicitDefEqProofs [hcat, eb, hxa, dSort_strs, szOk, fApp_ok, show L0.length < 16777216 by omega]
theorem ladder_ok {v : Vt} (hv : VOk v) {many : Nat} (h1 : 1 ≤ many) (h5 : many ≤ 5) :
    ∃ (L : List Row) (v' : Vt), f__law_ladder [.io v.o, .va (.int many)] = some (.va (ladD L), some v'.o) ∧ LOk L ∧ L.length = many ∧ VOk v' := by
  obtain ⟨ws, va, ew, hnd, hwl, hne, hva⟩ := words_ok hv h5
  obtain ⟨od, vb, eo, hp, hvb⟩ := order_ok hva (ws := ws) (by omega) (m := .va (.int many)) (s2 := .ow (.lst (ws.map .str)))
  rw [hwl] at eo
  obtain ⟨sh, vc, es, g0, g1, hvc⟩ := take_ok hvb (many := 4) (by decide) (by decide)
  have hol := hp.length_eq
  obtain ⟨ρ', ef, vd, L0, s7, s8, s9, er, hk, hL0, hb, h7, h8, h9, hvd⟩ := forF_rng (t := .nm 7) (b := l2__law_ladder) (n := many)
    (fun k ρ => ∃ (v : Vt) (L0 : List Row) (s7 s8 s9 : Sl), ρ = [.io v.o, .va (.int many), .ow (.lst (ws.map .str)), .ow (.lst []), .ow (.lst (od.map .str)), .va (.int (2 + sh)), .ow (.lst (L0.map rowD)), s7, s8, s9] ∧ keys L0 = od.take k ∧ L0.length = k ∧ (∀ r ∈ L0, BOk ws r.2) ∧ NoVa s7 ∧ NoOw s8 ∧ NoVa s9 ∧ VOk v)
    (fun k ρ hkm ⟨v, L0, s7, s8, s9, er, hk, hL0, hb, h7, h8, h9, hv⟩ => by
      subst er
      obtain ⟨v', bs, s9', x, hx, e, hv', hbs, h9'⟩ := row_turn (by omega) hp (show 0 < 2 + sh by omega) (by omega) (m := .va (.int many)) (s3 := .ow (.lst [])) (k := k) (by omega) (L0 := L0) (by omega) hv h8 h9
      refine ⟨_, .nx, _, ?_, e, .inl rfl, v', L0 ++ [(x, srt bs)], _, _, _, rfl, ?_, by rw [List.length_append, hL0]; rfl, fun r hr => ?_, .inr ⟨_, rfl⟩, .inr (.inr ⟨_, rfl⟩), h9', hv'⟩
      · rcases h7 with rfl | ⟨d, rfl⟩ <;> simp
      · rw [keys, List.map_append, List.take_add_one, hx]
        show keys L0 ++ [x] = _
        rw [hk]
        rfl
      · rcases List.mem_append.mp hr with hr | hr
        · exact hb r hr
        · rw [List.mem_singleton] at hr
          subst hr
          exact ⟨(srt_perm bs).nodup_iff.mpr hbs.nd, fun b h => hbs.mem b (srt_mem.mp h)⟩)
    ⟨vc, [], .no, .no, .no, rfl, rfl, rfl, (fun r h => by cases h), .inl rfl, .inl rfl, .inl rfl, hvc⟩
  subst er
  rw [List.take_of_length_le (by omega)] at hk
  have hkp : (keys (srtR L0)).Perm ws := ((srtR_perm L0).map _).trans (by show (keys L0).Perm ws; rw [hk]; exact hp)
  refine ⟨srtR L0, vd, ?_, ⟨hkp.nodup_iff.mpr hnd, fun z => hne (hkp.mem_iff.mp z), fun r hr b hbr => ?_, fun r hr => ?_, by rw [(srtR_perm L0).length_eq]; omega⟩, by rw [(srtR_perm L0).length_eq, hL0], hvd⟩
  · have hm : rng1 [.int (many : Int)] = some (rngD 0 many) := rng1_nat (by omega)
    have ef : forF (.nm 7) l2__law_ladder (rngD 0 many) [.io vc.o, .va (.int many), .ow (.lst (ws.map .str)), .ow (.lst []), .ow (.lst (od.map .str)), .va (.int (2 + sh)), .ow (.lst []), .no, .no, .no] = _ := ef
    have hdl : dList (.lst (ws.map D.str)) = some (.lst (ws.map D.str)) := rfl
    simp -implicitDefEqProofs [f__law_ladder, m__law_ladder, ew, hdl, hm, dem, clr, eo, rst, svd, es, szOk, ef, dSort_rows, ladD, ioOut_some (show ioIx [.io v.o, .va (.int (many : Int))] = some 0 from rfl)]
  · rcases (hb r ((srtR_perm L0).mem_iff.mp hr)).mem b hbr with z | z
    · exact .inl z
    · exact .inr (hkp.mem_iff.mpr z)
  · exact (hb r ((srtR_perm L0).mem_iff.mp hr)).nd
end DL

set_option Elab.async false
set_option linter.all false
set_option maxRecDepth 100000
namespace DL
open PySem PySem.Spec PyProof.Rows L2
/-! ### ways, layer by layer -/
section
variable (L : List Row) (kind aim : Str) (bars : List Str)
def lastW (w : List Str) : Str := w.getLast?.getD kind
def bsW (w : List Str) : List Str := (bo L (lastW kind w)).getD []
def goB (b : Str) : Bool := decide (b ≠ "") && decide (b ∉ bars)
def extW (w : List Str) : List (List Str) := ((bsW L kind w).filter (goB bars)).map fun b => w ++ [b]
def hitW (w : List Str) : Bool := decide (aim ∈ bsW L kind w)
def layW : Nat → List (List Str)
  | 0 => [[]]
  | n + 1 => (layW n).flatMap (extW L kind bars)
def foundW : Nat → List (List Str)
  | 0 => []
  | n + 1 => foundW n ++ (layW L kind bars n).filter (hitW L kind aim)
end
section
variable {L : List Row} {kind aim : Str} {bars : List Str}
theorem last_app (w : List Str) (b : Str) : lastW kind (w ++ [b]) = b := by
  unfold lastW
  rw [List.getLast?_append]
  rfl
theorem last_key (hk : kind ∈ keys L) {w : List Str} (hw : ∀ b ∈ w, b ∈ keys L) : lastW kind w ∈ keys L := by
  unfold lastW
  cases e : w.getLast? with
  | none => exact hk
  | some b => exact hw b (List.mem_of_getLast? e)
theorem bsW_some (hk : kind ∈ keys L) {w : List Str} (hw : ∀ b ∈ w, b ∈ keys L) : bo L (lastW kind w) = some (bsW L kind w) := by
  obtain ⟨bs, e⟩ := bo_key (last_key hk hw)
  unfold bsW
  rw [e]
  rfl
theorem ext_ok (hL : LOk L) (hk : kind ∈ keys L) {w : List Str} (hw : ∀ b ∈ w, b ∈ keys L) : (extW L kind bars w).length ≤ 6 ∧ ∀ u ∈ extW L kind bars w, u.length = w.length + 1 ∧ ∀ b ∈ u, b ∈ keys L := by
  have e := bsW_some hk hw
  constructor
  · unfold extW
    rw [List.length_map]
    exact Nat.le_trans (List.length_filter_le _ _) (hL.blen e)
  · intro u hu
    unfold extW at hu
    obtain ⟨b, hb, rfl⟩ := List.mem_map.mp hu
    rw [List.mem_filter] at hb
    unfold goB at hb
    simp only [Bool.and_eq_true, decide_eq_true_eq] at hb
    refine ⟨by rw [List.length_append]; rfl, fun c hc => ?_⟩
    rcases List.mem_append.mp hc with hc | hc
    · exact hw c hc
    · rw [List.mem_singleton] at hc
      exact hc ▸ hL.inn' e hb.1 hb.2.1
theorem flat_len {α β : Type} {f : α → List β} {n : Nat} : ∀ {l : List α}, (∀ x ∈ l, (f x).length ≤ n) → (l.flatMap f).length ≤ n * l.length
  | [], _ => by simp
  | x :: l, h => by
    have h1 := h x List.mem_cons_self
    have h2 := flat_len (l := l) fun y hy => h y (List.mem_cons_of_mem _ hy)
    rw [List.flatMap_cons, List.length_append, List.length_cons, Nat.mul_succ]
    omega
theorem lay_ok (hL : LOk L) (hk : kind ∈ keys L) : ∀ n, (layW L kind bars n).length ≤ 6 ^ n ∧ ∀ w ∈ layW L kind bars n, w.length = n ∧ ∀ b ∈ w, b ∈ keys L
  | 0 => by
    unfold layW
    refine ⟨by decide, fun w hw => ?_⟩
    rw [List.mem_singleton] at hw
    subst hw
    exact ⟨rfl, fun b h => by cases h⟩
  | n + 1 => by
    obtain ⟨h1, h2⟩ := lay_ok hL hk n
    unfold layW
    refine ⟨?_, fun u hu => ?_⟩
    · have := flat_len (f := extW L kind bars) (n := 6) (l := layW L kind bars n) fun w hw => (ext_ok hL hk (h2 w hw).2).1
      rw [Nat.pow_succ]
      omega
    · obtain ⟨w, hw, hu⟩ := List.mem_flatMap.mp hu
      obtain ⟨g1, g2⟩ := (ext_ok hL hk (h2 w hw).2).2 u hu
      exact ⟨by rw [g1, (h2 w hw).1], g2⟩
theorem found_ok (hL : LOk L) (hk : kind ∈ keys L) : ∀ n, (foundW L kind aim bars n).length ≤ 6 ^ n ∧ ∀ w ∈ foundW L kind aim bars n, w.length < n
  | 0 => ⟨by simp [foundW], fun w h => by simp [foundW] at h⟩
  | n + 1 => by
    obtain ⟨h1, h2⟩ := found_ok hL hk n
    obtain ⟨h3, h4⟩ := lay_ok (bars := bars) hL hk n
    have h5 := List.length_filter_le (hitW L kind aim) (layW L kind bars n)
    unfold foundW
    refine ⟨?_, fun w hw => ?_⟩
    · rw [List.length_append, Nat.pow_succ]
      omega
    · rcases List.mem_append.mp hw with hw | hw
      · have := h2 w hw
        omega
      · have := (h4 w (List.mem_filter.mp hw).1).1
        omega
theorem goB_val (b : Str) : (!(b == ("" : Str)) && !decide (b ∈ bars)) = goB bars b := by
  unfold goB
  rw [beq_dec]
  simp
theorem dAt_last (w : List Str) (h : w ≠ []) : dAt (w.map D.str) (-1) = some (.str (lastW kind w)) := by
  rcases List.eq_nil_or_concat w with rfl | ⟨u, b, rfl⟩
  · exact absurd rfl h
  · rw [List.concat_eq_append, last_app, List.map_append]
    exact atI_last (u.map D.str) (.str b)
theorem stD_app (w : List Str) (b : Str) (h : w.length ≤ 100) : dAdd (stD w) (.tup [.str b]) = some (stD (w ++ [b])) := by
  show (if (w.map D.str).length + 1 ≤ 16777216 then some (D.tup (w.map D.str ++ [.str b])) else none) = _
  rw [if_pos (by rw [List.length_map]; omega)]
  unfold stD
  rw [List.map_append]
  rfl
theorem ways_comp {ρ4 ρ5 ρ6 ρ7 ρ8 s10 x0 x1 x2 : Sl} {w bs : List Str} (hw : w.length ≤ 100) (hb : bs.length ≤ 6) :
    lcF [11] (.nm 11) (mAnd (mTb (m2 (.n 11) (.e (mC (.str ""))) dNe)) (mTb (m2 (.n 11) (.n 3) dNotIn))) (m2 (.n 9) (.e (mTup (mCons (mVar 11) mNil))) dAdd) (bs.map .str) [] [x0, x1, x2, .va (stD bars), ρ4, ρ5, ρ6, ρ7, ρ8, .va (stD w), s10, .no] =
      some (((bs.filter (goB bars)).map fun b => w ++ [b]).map stD, [x0, x1, x2, .va (stD bars), ρ4, ρ5, ρ6, ρ7, ρ8, .va (stD w), s10, .no]) := by
  refine (lcF_pure (fun d => match d with | .str b => if goB bars b then some (stD (w ++ [b])) else none | _ => none) (fun d hd => ?_) ?_).trans ?_
  · obtain ⟨b, hb, rfl⟩ := List.mem_map.mp hd
    have hg := goB_val (bars := bars) b
    refine ⟨[x0, x1, x2, .va (stD bars), ρ4, ρ5, ρ6, ρ7, ρ8, .va (stD w), s10, .va (.str b)], goB bars b, [x0, x1, x2, .va (stD bars), ρ4, ρ5, ρ6, ρ7, ρ8, .va (stD w), s10, .va (.str b)], by simp, ?_, ?_⟩
    · have hn : dNotIn (.str b) (stD bars) = some (.bl (!decide (b ∈ bars))) := dNotIn_t b bars
      rw [← hg]
      cases h1 : (b == ("" : Str)) with
      | true => simp -implicitDefEqProofs [h1]
      | false => simp -implicitDefEqProofs [h1, hn]
    · cases hgo : goB bars b with
      | true =>
        refine .inr ⟨rfl, stD (w ++ [b]), [x0, x1, x2, .va (stD bars), ρ4, ρ5, ρ6, ρ7, ρ8, .va (stD w), s10, .va (.str b)], ?_, by simp [hgo], by simp [clr]⟩
        simp -implicitDefEqProofs [szOk, stD_app w b hw]
      | false => exact .inl ⟨rfl, by simp [hgo], by simp [clr]⟩
  · rw [List.length_map, List.length_nil]
    omega
  · rw [List.nil_append, List.filterMap_map, List.map_map]
    congr 2
    exact filterMap_if (goB bars) (fun b => stD (w ++ [b])) bs
theorem fExt_ok {a b : List D} (h : a.length + b.length ≤ 16777216) : fExt a (.lst b) = some (.non, a ++ b) := by
  show (if a.length + b.length ≤ 16777216 then some (D.non, a ++ b) else none) = _
  rw [if_pos h]
theorem ways_turn (hL : LOk L) (hk : kind ∈ keys L) {m s6 s7 s10 : Sl} {w : List Str} (hw : w.length ≤ 100) (hwk : ∀ b ∈ w, b ∈ keys L) {fs gs : List (List Str)} (hf : fs.length ≤ 1000000) (hg : gs.length ≤ 1000000) (h10 : NoVa s10) :
    ∃ x, l1_ways_of [.va (ladD L), .va (.str kind), .va (.str aim), .va (stD bars), m, .ow (.lst (fs.map stD)), s6, s7, .ow (.lst (gs.map stD)), .va (stD w), s10, .no] =
      some (.nx, [.va (ladD L), .va (.str kind), .va (.str aim), .va (stD bars), m, .ow (.lst ((fs ++ [w].filter (hitW L kind aim)).map stD)), s6, s7, .ow (.lst ((gs ++ extW L kind bars w).map stD)), .va (stD w), .va x, .no]) := by
  have e := bsW_some hk hwk
  have hbl := hL.blen e
  have hbo := bosses_of_ok hL e
  have hin : dIn (.str aim) (stD (bsW L kind w)) = some (.bl (hitW L kind aim w)) := dIn_t aim (bsW L kind w)
  have hx := (ext_ok (bars := bars) hL hk hwk).1
  have hi : itemsOf (stD (bsW L kind w)) = some ((bsW L kind w).map .str) := rfl
  have hc := fun ρ5 => ways_comp (bars := bars) (ρ5 := ρ5) (ρ4 := m) (ρ6 := s6) (ρ7 := s7) (ρ8 := .ow (.lst (gs.map stD))) (s10 := .va (.str (lastW kind w))) (x0 := .va (ladD L)) (x1 := .va (.str kind)) (x2 := .va (.str aim)) (w := w) (bs := bsW L kind w) hw hbl
  have hgs : gs.map stD ++ (extW L kind bars w).map stD = (gs ++ extW L kind bars w).map stD := by rw [List.map_append]
  have hex := fExt_ok (a := gs.map stD) (b := (extW L kind bars w).map stD) (by rw [List.length_map, List.length_map]; omega)
  rw [hgs] at hex
  have hel : ((bsW L kind w).filter (goB bars)).map (fun b => w ++ [b]) = extW L kind bars w := rfl
  simp only [hel] at hc
  have el : mIf (m1 (.n 9) dTru) (m2 (.n 9) (.e (m1 (.e (mC (.int 1))) dNeg)) dIx) (mVar 1) [.va (ladD L), .va (.str kind), .va (.str aim), .va (stD bars), m, .ow (.lst (fs.map stD)), s6, s7, .ow (.lst (gs.map stD)), .va (stD w), s10, .no] = some (.str (lastW kind w), [.va (ladD L), .va (.str kind), .va (.str aim), .va (stD bars), m, .ow (.lst (fs.map stD)), s6, s7, .ow (.lst (gs.map stD)), .va (stD w), s10, .no]) := by
    by_cases h : w = []
    · subst h
      simp -implicitDefEqProofs [stD, dTru, lastW]
    · have h1 : (w.map D.str).isEmpty = false := by
        cases w with
        | nil => exact absurd rfl h
        | cons _ _ => rfl
      simp -implicitDefEqProofs [stD, dTru, h, dAt_last w h (kind := kind)]
  have ea : (mAsg (mIf (m1 (.n 9) dTru) (m2 (.n 9) (.e (m1 (.e (mC (.int 1))) dNeg)) dIx) (mVar 1)) (.nm 10)) [.va (ladD L), .va (.str kind), .va (.str aim), .va (stD bars), m, .ow (.lst (fs.map stD)), s6, s7, .ow (.lst (gs.map stD)), .va (stD w), s10, .no] = some (.nx, [.va (ladD L), .va (.str kind), .va (.str aim), .va (stD bars), m, .ow (.lst (fs.map stD)), s6, s7, .ow (.lst (gs.map stD)), .va (stD w), .va (.str (lastW kind w)), .no]) := by
    rw [ev_asg, el]
    rcases h10 with rfl | ⟨d, rfl⟩ <;> simp
  refine ⟨.str (lastW kind w), ?_⟩
  rw [l1_ways_of, ev_seq, ea, flS_nx]
  cases hh : hitW L kind aim w with
  | true =>
    rw [hh] at hin
    have hfa : fApp (fs.map stD) (stD w) = some (.non, (fs ++ [w]).map stD) := by
      rw [fApp_ok (by rw [List.length_map]; omega), List.map_append]
      rfl
    have hc := hc (.ow (.lst ((fs ++ [w]).map stD)))
    generalize hq : (fs ++ [w]).map stD = q at hfa hc
    generalize hq2 : (gs ++ extW L kind bars w).map stD = q2 at hex
    have hfl : fs ++ [w].filter (hitW L kind aim) = fs ++ [w] := by rw [List.filter_cons, hh]; rfl
    rw [hfl, hq]
    simp -implicitDefEqProofs [hbo, hin, hfa, hi, dem, clr, hc, rst, svd, hex]
  | false =>
    rw [hh] at hin
    have hc := hc (.ow (.lst (fs.map stD)))
    generalize hq2 : (gs ++ extW L kind bars w).map stD = q2 at hex
    have hfl : fs ++ [w].filter (hitW L kind aim) = fs := by rw [List.filter_cons, hh]; simp
    rw [hfl]
    simp -implicitDefEqProofs [hbo, hin, hi, dem, clr, hc, rst, svd, hex]
theorem ways_inner (hL : LOk L) (hk : kind ∈ keys L) {m s6 s7 : Sl} : ∀ {ws fs gs : List (List Str)} {s9 s10 : Sl}, (∀ w ∈ ws, w.length ≤ 100 ∧ ∀ b ∈ w, b ∈ keys L) → fs.length + ws.length ≤ 1000000 → gs.length + 6 * ws.length ≤ 1000000 → NoVa s9 → NoVa s10 →
    ∃ s9' s10', forF (.nm 9) l1_ways_of (ws.map stD) [.va (ladD L), .va (.str kind), .va (.str aim), .va (stD bars), m, .ow (.lst (fs.map stD)), s6, s7, .ow (.lst (gs.map stD)), s9, s10, .no] =
      some (.nx, [.va (ladD L), .va (.str kind), .va (.str aim), .va (stD bars), m, .ow (.lst ((fs ++ ws.filter (hitW L kind aim)).map stD)), s6, s7, .ow (.lst ((gs ++ ws.flatMap (extW L kind bars)).map stD)), s9', s10', .no]) ∧ NoVa s9' ∧ NoVa s10'
  | [], fs, gs, s9, s10, _, _, _, h9, h10 => ⟨s9, s10, by rw [List.filter_nil, List.flatMap_nil, List.append_nil, List.append_nil]; rfl, h9, h10⟩
  | w :: ws, fs, gs, s9, s10, hw, hf, hg, h9, h10 => by
    obtain ⟨hw1, hw2⟩ := hw w List.mem_cons_self
    rw [List.length_cons] at hf hg
    obtain ⟨x, et⟩ := ways_turn (aim := aim) (bars := bars) hL hk (m := m) (s6 := s6) (s7 := s7) (fs := fs) (gs := gs) hw1 hw2 (by omega) (by omega) h10
    have hx := (ext_ok (bars := bars) hL hk hw2).1
    have hfl := List.length_filter_le (hitW L kind aim) [w]
    obtain ⟨s9', s10', e, h⟩ := ways_inner hL hk (m := m) (s6 := s6) (s7 := s7) (ws := ws) (fs := fs ++ [w].filter (hitW L kind aim)) (gs := gs ++ extW L kind bars w) (s9 := .va (stD w)) (s10 := .va x) (fun u hu => hw u (List.mem_cons_of_mem _ hu))
      (by rw [List.length_append]; rw [List.length_singleton] at hfl; omega) (by rw [List.length_append]; omega) (.inr ⟨_, rfl⟩) (.inr ⟨_, rfl⟩)
    refine ⟨s9', s10', (forF_nx ?_ et).trans (e.trans ?_), h⟩
    · rcases h9 with rfl | ⟨d, rfl⟩ <;> simp
    · rw [List.append_assoc, List.append_assoc, ← List.filter_append]
      rfl
def NoOv (s : Sl) (ds : List D) : Prop := s = .va (.lst ds) ∨ s = .ow (.lst ds)
theorem ways_of_ok (hL : LOk L) (hk : kind ∈ keys L) {most : Nat} (hm : most ≤ 5) :
    f_ways_of [.va (ladD L), .va (.str kind), .va (.str aim), .va (stD bars), .va (.int most)] = some (.va (.tup ((srtW (foundW L kind aim bars (most + 1))).map stD)), none) := by
  obtain ⟨ρ', ef, s6, s7, s8, s9, s10, er, h6, h7, h8, h9, h10⟩ := forF_rng (t := .nm 7) (b := l2_ways_of) (n := most + 1)
    (fun k ρ => ∃ (s6 s7 s8 s9 s10 : Sl), ρ = [.va (ladD L), .va (.str kind), .va (.str aim), .va (stD bars), .va (.int most), .ow (.lst ((foundW L kind aim bars k).map stD)), s6, s7, s8, s9, s10, .no] ∧ NoOv s6 ((layW L kind bars k).map stD) ∧ NoVa s7 ∧ NoVa s8 ∧ NoVa s9 ∧ NoVa s10)
    (fun k ρ hkm ⟨s6, s7, s8, s9, s10, er, h6, h7, h8, h9, h10⟩ => by
      subst er
      obtain ⟨l1, l2⟩ := lay_ok (bars := bars) hL hk k
      obtain ⟨f1, _⟩ := found_ok (aim := aim) (bars := bars) hL hk k
      have hp : 6 ^ k ≤ 6 ^ 5 := Nat.pow_le_pow_right (by decide) (by omega)
      have hp5 : 6 ^ 5 = 7776 := by decide
      obtain ⟨s9', s10', e, h9', h10'⟩ := ways_inner (aim := aim) (bars := bars) hL hk (m := .va (.int most)) (s6 := .va (.lst ((layW L kind bars k).map stD))) (s7 := .va (.int (k : Int))) (ws := layW L kind bars k) (fs := foundW L kind aim bars k) (gs := []) (s9 := s9) (s10 := s10)
        (fun w hw => ⟨by rw [(l2 w hw).1]; omega, (l2 w hw).2⟩) (by omega) (by rw [List.length_nil]; omega) h9 h10
      rw [List.nil_append] at e
      have e : forF (.nm 9) l1_ways_of ((layW L kind bars k).map stD) [.va (ladD L), .va (.str kind), .va (.str aim), .va (stD bars), .va (.int most), .ow (.lst ((foundW L kind aim bars k).map stD)), .va (.lst ((layW L kind bars k).map stD)), .va (.int (k : Int)), .ow (.lst []), s9, s10, .no] = _ := e
      refine ⟨[.va (ladD L), .va (.str kind), .va (.str aim), .va (stD bars), .va (.int most), .ow (.lst ((foundW L kind aim bars k).map stD)), s6, .va (.int k), s8, s9, s10, .no], .nx,
        [.va (ladD L), .va (.str kind), .va (.str aim), .va (stD bars), .va (.int most), .ow (.lst ((foundW L kind aim bars (k + 1)).map stD)), .va (.lst ((layW L kind bars (k + 1)).map stD)), .va (.int k), .va (.lst ((layW L kind bars (k + 1)).map stD)), s9', s10', .no], ?_, ?_, .inl rfl, _, _, _, _, _, rfl, .inl rfl, .inr ⟨_, rfl⟩, .inr ⟨_, rfl⟩, h9', h10'⟩
      · rcases h7 with rfl | ⟨d, rfl⟩ <;> simp
      · have hlay : layW L kind bars (k + 1) = (layW L kind bars k).flatMap (extW L kind bars) := rfl
        have hfo : foundW L kind aim bars (k + 1) = foundW L kind aim bars k ++ (layW L kind bars k).filter (hitW L kind aim) := rfl
        rw [← hlay, ← hfo] at e
        generalize (layW L kind bars (k + 1)).map stD = q1 at e ⊢
        generalize (foundW L kind aim bars (k + 1)).map stD = q2 at e ⊢
        generalize (layW L kind bars k).map stD = q3 at e h6
        generalize (foundW L kind aim bars k).map stD = q4 at e
        rcases h8 with rfl | ⟨d, rfl⟩ <;> rcases h6 with rfl | rfl <;> simp -implicitDefEqProofs [l2_ways_of, szOk, e])
    ⟨.ow (.lst [.tup []]), .no, .no, .no, .no, rfl, .inr rfl, .inl rfl, .inl rfl, .inl rfl, .inl rfl⟩
  subst er
  have hr : rng1 [.int ((most : Int) + 1)] = some (rngD 0 (most + 1)) := by
    have := rng1_nat (n := most + 1) (by omega)
    rw [← this]
    rfl
  have ef : forF (.nm 7) l2_ways_of (rngD 0 (most + 1)) [.va (ladD L), .va (.str kind), .va (.str aim), .va (stD bars), .va (.int most), .ow (.lst []), .ow (.lst [.tup []]), .no, .no, .no, .no, .no] = _ := ef
  have hs := dSort_ways (foundW L kind aim bars (most + 1))
  generalize (foundW L kind aim bars (most + 1)).map stD = q at ef hs
  simp -implicitDefEqProofs [f_ways_of, m_ways_of, szOk, hr, ef, hs, ioOut5]
end
end DL

set_option Elab.async false
set_option linter.all false
set_option maxRecDepth 100000
namespace DL
open PySem PySem.Spec PyProof.Rows L2
section
variable {L : List Row} {kind aim : Str} {bars : List Str}
theorem law_comp {x0 x1 x2 x4 x5 x6 x7 x8 x9 x11 : Sl} {w bs : List Str} (hw : w.length ≤ 100) (hb : bs.length ≤ 6) :
    lcF [12] (.nm 12) (mAnd (mTb (m2 (.n 12) (.e (mC (.str ""))) dNe)) (mTb (m2 (.n 12) (.n 3) dNotIn))) (m2 (.n 10) (.e (mTup (mCons (mVar 12) mNil))) dAdd) (bs.map .str) [] [x0, x1, x2, .va (stD bars), x4, x5, x6, x7, x8, x9, .va (stD w), x11, .no] =
      some (((bs.filter (goB bars)).map fun b => w ++ [b]).map stD, [x0, x1, x2, .va (stD bars), x4, x5, x6, x7, x8, x9, .va (stD w), x11, .no]) := by
  refine (lcF_pure (fun d => match d with | .str b => if goB bars b then some (stD (w ++ [b])) else none | _ => none) (fun d hd => ?_) ?_).trans ?_
  · obtain ⟨b, hb, rfl⟩ := List.mem_map.mp hd
    have hg := goB_val (bars := bars) b
    refine ⟨[x0, x1, x2, .va (stD bars), x4, x5, x6, x7, x8, x9, .va (stD w), x11, .va (.str b)], goB bars b, [x0, x1, x2, .va (stD bars), x4, x5, x6, x7, x8, x9, .va (stD w), x11, .va (.str b)], by simp, ?_, ?_⟩
    · have hn : dNotIn (.str b) (stD bars) = some (.bl (!decide (b ∈ bars))) := dNotIn_t b bars
      rw [← hg]
      cases h1 : (b == ("" : Str)) with
      | true => simp -implicitDefEqProofs [h1]
      | false => simp -implicitDefEqProofs [h1, hn]
    · cases hgo : goB bars b with
      | true =>
        refine .inr ⟨rfl, stD (w ++ [b]), [x0, x1, x2, .va (stD bars), x4, x5, x6, x7, x8, x9, .va (stD w), x11, .va (.str b)], ?_, by simp [hgo], by simp [clr]⟩
        simp -implicitDefEqProofs [szOk, stD_app w b hw]
      | false => exact .inl ⟨rfl, by simp [hgo], by simp [clr]⟩
  · rw [List.length_map, List.length_nil]
    omega
  · rw [List.nil_append, List.filterMap_map, List.map_map]
    congr 2
    exact filterMap_if (goB bars) (fun b => stD (w ++ [b])) bs
theorem dCat_ok {a b : List D} (h : a.length + b.length ≤ 16777216) : dCat (.lst a) (.lst b) = some (.lst (a ++ b)) := by
  show (if a.length + b.length ≤ 16777216 then some (Ow.lst (a ++ b)) else none) = _
  rw [if_pos h]
theorem dIx_dctL {k : Str} {bs : List Str} (e : bo L k = some bs) : dIx (.dct (dctKs L) (dctDs L)) (.str k) = some (stD bs) := by
  rw [dIx_lad, e]
  rfl
theorem lways_turn (hL : LOk L) (hk : kind ∈ keys L) {x6 x7 x8 s11 : Sl} {m : Sl} {w : List Str} (hw : w.length ≤ 100) (hwk : ∀ b ∈ w, b ∈ keys L) {gs : List (List Str)} (hg : gs.length ≤ 1000000) (h11 : NoVa s11) :
    ∃ x, l1__law_ways [.va (ladD L), .va (.str kind), .va (.str aim), .va (stD bars), m, .ow (dctL L), x6, x7, x8, .ow (.lst (gs.map stD)), .va (stD w), s11, .no] =
      some (.nx, [.va (ladD L), .va (.str kind), .va (.str aim), .va (stD bars), m, .ow (dctL L), x6, x7, x8, .ow (.lst ((gs ++ extW L kind bars w).map stD)), .va (stD w), .va x, .no]) := by
  have e := bsW_some hk hwk
  have hbl := hL.blen e
  have hx := (ext_ok (bars := bars) hL hk hwk).1
  have hi : itemsOf (stD (bsW L kind w)) = some ((bsW L kind w).map .str) := rfl
  have hc := law_comp (bars := bars) (x0 := .va (ladD L)) (x1 := .va (.str kind)) (x2 := .va (.str aim)) (x4 := m) (x5 := .ow (.dct (dctKs L) (dctDs L))) (x6 := x6) (x7 := x7) (x8 := x8) (x9 := .ow (.lst (gs.map stD))) (x11 := .va (.str (lastW kind w))) (w := w) (bs := bsW L kind w) hw hbl
  have hgs : gs.map stD ++ (extW L kind bars w).map stD = (gs ++ extW L kind bars w).map stD := by rw [List.map_append]
  have hex := dCat_ok (a := gs.map stD) (b := (extW L kind bars w).map stD) (by rw [List.length_map, List.length_map]; omega)
  rw [hgs] at hex
  have hel : ((bsW L kind w).filter (goB bars)).map (fun b => w ++ [b]) = extW L kind bars w := rfl
  rw [hel] at hc
  have hd := dIx_dctL e
  have el : mIf (mTb (m2 (.e (m1 (.n 10) dLen)) (.e (mC (.int 0))) dGt)) (m2 (.n 10) (.e (m1 (.e (mC (.int 1))) dNeg)) dIx) (mVar 1) [.va (ladD L), .va (.str kind), .va (.str aim), .va (stD bars), m, .ow (.dct (dctKs L) (dctDs L)), x6, x7, x8, .ow (.lst (gs.map stD)), .va (stD w), s11, .no] = some (.str (lastW kind w), [.va (ladD L), .va (.str kind), .va (.str aim), .va (stD bars), m, .ow (.dct (dctKs L) (dctDs L)), x6, x7, x8, .ow (.lst (gs.map stD)), .va (stD w), s11, .no]) := by
    by_cases h : w = []
    · subst h
      simp -implicitDefEqProofs [stD, lastW]
    · have h1 : 0 < w.length := List.length_pos_iff.mpr h
      simp -implicitDefEqProofs [stD, h1, dAt_last w h (kind := kind)]
  have ea : (mAsg (mIf (mTb (m2 (.e (m1 (.n 10) dLen)) (.e (mC (.int 0))) dGt)) (m2 (.n 10) (.e (m1 (.e (mC (.int 1))) dNeg)) dIx) (mVar 1)) (.nm 11)) [.va (ladD L), .va (.str kind), .va (.str aim), .va (stD bars), m, .ow (.dct (dctKs L) (dctDs L)), x6, x7, x8, .ow (.lst (gs.map stD)), .va (stD w), s11, .no] = some (.nx, [.va (ladD L), .va (.str kind), .va (.str aim), .va (stD bars), m, .ow (.dct (dctKs L) (dctDs L)), x6, x7, x8, .ow (.lst (gs.map stD)), .va (stD w), .va (.str (lastW kind w)), .no]) := by
    rw [ev_asg, el]
    rcases h11 with rfl | ⟨d, rfl⟩ <;> simp
  refine ⟨.str (lastW kind w), ?_⟩
  rw [dctL, l1__law_ways, ev_seq, ea, flS_nx]
  generalize hq2 : (gs ++ extW L kind bars w).map stD = q2 at hex
  simp -implicitDefEqProofs [hd, hi, dem, clr, hc, rst, svd, hex]
theorem lways_inner (hL : LOk L) (hk : kind ∈ keys L) {m x6 x7 x8 : Sl} : ∀ {ws gs : List (List Str)} {s10 s11 : Sl}, (∀ w ∈ ws, w.length ≤ 100 ∧ ∀ b ∈ w, b ∈ keys L) → gs.length + 6 * ws.length ≤ 1000000 → NoVa s10 → NoVa s11 →
    ∃ s10' s11', forF (.nm 10) l1__law_ways (ws.map stD) [.va (ladD L), .va (.str kind), .va (.str aim), .va (stD bars), m, .ow (dctL L), x6, x7, x8, .ow (.lst (gs.map stD)), s10, s11, .no] =
      some (.nx, [.va (ladD L), .va (.str kind), .va (.str aim), .va (stD bars), m, .ow (dctL L), x6, x7, x8, .ow (.lst ((gs ++ ws.flatMap (extW L kind bars)).map stD)), s10', s11', .no]) ∧ NoVa s10' ∧ NoVa s11'
  | [], gs, s10, s11, _, _, h10, h11 => ⟨s10, s11, by rw [List.flatMap_nil, List.append_nil]; rfl, h10, h11⟩
  | w :: ws, gs, s10, s11, hw, hg, h10, h11 => by
    obtain ⟨hw1, hw2⟩ := hw w List.mem_cons_self
    rw [List.length_cons] at hg
    obtain ⟨x, et⟩ := lways_turn (aim := aim) (bars := bars) hL hk (m := m) (x6 := x6) (x7 := x7) (x8 := x8) (gs := gs) hw1 hw2 (by omega) h11
    have hx := (ext_ok (bars := bars) hL hk hw2).1
    obtain ⟨s10', s11', e, h⟩ := lways_inner hL hk (m := m) (x6 := x6) (x7 := x7) (x8 := x8) (ws := ws) (gs := gs ++ extW L kind bars w) (s10 := .va (stD w)) (s11 := .va x) (fun u hu => hw u (List.mem_cons_of_mem _ hu))
      (by rw [List.length_append]; omega) (.inr ⟨_, rfl⟩) (.inr ⟨_, rfl⟩)
    refine ⟨s10', s11', (forF_nx ?_ et).trans (e.trans ?_), h⟩
    · rcases h10 with rfl | ⟨d, rfl⟩ <;> simp
    · rw [List.append_assoc]
      rfl
/-- the comprehension over the new rows -/
theorem lhit_comp (hL : LOk L) (hk : kind ∈ keys L) {x0 x1 x3 x4 x6 x7 x8 x9 x11 x12 : Sl} {ws : List (List Str)} (hw : ∀ w ∈ ws, w ≠ [] ∧ ∀ b ∈ w, b ∈ keys L) (hl : ws.length ≤ 1000000) :
    lcF [10] (.nm 10) (mTb (m2 (.n 2) (.e (m2 (.n 5) (.e (m2 (.n 10) (.e (m1 (.e (mC (.int 1))) dNeg)) dIx)) dIx)) dIn)) (mVar 10) (ws.map stD) [] [x0, x1, .va (.str aim), x3, x4, .ow (.dct (dctKs L) (dctDs L)), x6, x7, x8, x9, .no, x11, x12] =
      some ((ws.filter (hitW L kind aim)).map stD, [x0, x1, .va (.str aim), x3, x4, .ow (.dct (dctKs L) (dctDs L)), x6, x7, x8, x9, .no, x11, x12]) := by
  have hg : ∀ w ∈ ws, ∃ ρ1 b ρ2, asg (.nm 10) (stD w) [x0, x1, .va (.str aim), x3, x4, .ow (.dct (dctKs L) (dctDs L)), x6, x7, x8, x9, .no, x11, x12] = some ρ1 ∧ (mTb (m2 (.n 2) (.e (m2 (.n 5) (.e (m2 (.n 10) (.e (m1 (.e (mC (.int 1))) dNeg)) dIx)) dIx)) dIn)) ρ1 = some (b, ρ2) ∧ b = hitW L kind aim w ∧ mVar 10 ρ2 = some (stD w, ρ2) ∧ clr [10] ρ2 = [x0, x1, .va (.str aim), x3, x4, .ow (.dct (dctKs L) (dctDs L)), x6, x7, x8, x9, .no, x11, x12] := fun w hww => by
    obtain ⟨h1, h2⟩ := hw w hww
    have e := bsW_some hk h2
    have hd := dIx_dctL e
    have hin : dIn (.str aim) (stD (bsW L kind w)) = some (.bl (hitW L kind aim w)) := dIn_t aim (bsW L kind w)
    have hdl : dIx (stD w) (.int (-1)) = some (.str (lastW kind w)) := dAt_last w h1
    refine ⟨[x0, x1, .va (.str aim), x3, x4, .ow (.dct (dctKs L) (dctDs L)), x6, x7, x8, x9, .va (stD w), x11, x12], hitW L kind aim w, [x0, x1, .va (.str aim), x3, x4, .ow (.dct (dctKs L) (dctDs L)), x6, x7, x8, x9, .va (stD w), x11, x12], by simp, ?_, rfl, by simp, by simp [clr]⟩
    simp -implicitDefEqProofs [hdl, hd, hin]
  have key : ∀ {ws acc : List (List Str)}, (∀ w ∈ ws, ∃ ρ1 b ρ2, asg (.nm 10) (stD w) [x0, x1, .va (.str aim), x3, x4, .ow (.dct (dctKs L) (dctDs L)), x6, x7, x8, x9, .no, x11, x12] = some ρ1 ∧ (mTb (m2 (.n 2) (.e (m2 (.n 5) (.e (m2 (.n 10) (.e (m1 (.e (mC (.int 1))) dNeg)) dIx)) dIx)) dIn)) ρ1 = some (b, ρ2) ∧ b = hitW L kind aim w ∧ mVar 10 ρ2 = some (stD w, ρ2) ∧ clr [10] ρ2 = [x0, x1, .va (.str aim), x3, x4, .ow (.dct (dctKs L) (dctDs L)), x6, x7, x8, x9, .no, x11, x12]) → acc.length + ws.length ≤ 1000000 →
      lcF [10] (.nm 10) (mTb (m2 (.n 2) (.e (m2 (.n 5) (.e (m2 (.n 10) (.e (m1 (.e (mC (.int 1))) dNeg)) dIx)) dIx)) dIn)) (mVar 10) (ws.map stD) (acc.map stD) [x0, x1, .va (.str aim), x3, x4, .ow (.dct (dctKs L) (dctDs L)), x6, x7, x8, x9, .no, x11, x12] = some ((acc ++ ws.filter (hitW L kind aim)).map stD, [x0, x1, .va (.str aim), x3, x4, .ow (.dct (dctKs L) (dctDs L)), x6, x7, x8, x9, .no, x11, x12]) := by
    intro ws
    induction ws with
    | nil =>
      intro acc _ _
      rw [List.filter_nil, List.append_nil]
      rfl
    | cons w ws ih =>
      intro acc h hl
      obtain ⟨ρ1, b, ρ2, e1, e2, e3, e4, e5⟩ := h w List.mem_cons_self
      rw [List.length_cons] at hl
      rw [List.map_cons, List.filter_cons]
      conv => lhs; unfold lcF
      rw [e1]
      dsimp only
      rw [e2]
      cases hb : hitW L kind aim w with
      | true =>
        rw [hb] at e3
        subst e3
        dsimp only
        rw [e4]
        dsimp only
        rw [if_pos (by rw [List.length_map]; omega), e5]
        have := ih (acc := acc ++ [w]) (fun u hu => h u (List.mem_cons_of_mem _ hu)) (by rw [List.length_append, List.length_singleton]; omega)
        rw [List.map_append] at this
        exact this.trans (by rw [List.append_assoc]; rfl)
      | false =>
        rw [hb] at e3
        subst e3
        dsimp only
        rw [e5]
        exact ih (fun u hu => h u (List.mem_cons_of_mem _ hu)) (by omega)
  have := key (acc := []) hg (by rw [List.length_nil]; omega)
  rw [List.nil_append] at this
  exact this
theorem law_ways_ok (hL : LOk L) (hk : kind ∈ keys L) {most : Nat} (hm : most ≤ 5) :
    f__law_ways [.va (ladD L), .va (.str kind), .va (.str aim), .va (stD bars), .va (.int most)] = some (.va (.tup ((srtW (foundW L kind aim bars (most + 1))).map stD)), none) := by
  obtain ⟨bs, eb⟩ := bo_key hk
  have hd0 := dIx_dctL eb
  obtain ⟨ρ', ef, s7, s8, s9, s10, s11, er, h7, h8, h9, h10, h11⟩ := forF_rng (t := .nm 8) (b := l2__law_ways) (n := most)
    (fun k ρ => ∃ (s7 s8 s9 s10 s11 : Sl), ρ = [.va (ladD L), .va (.str kind), .va (.str aim), .va (stD bars), .va (.int most), .ow (.dct (dctKs L) (dctDs L)), .ow (.lst ((foundW L kind aim bars (k + 1)).map stD)), s7, s8, s9, s10, s11, .no] ∧ NoOv s7 ((layW L kind bars k).map stD) ∧ NoVa s8 ∧ NoVa s9 ∧ NoVa s10 ∧ NoVa s11)
    (fun k ρ hkm ⟨s7, s8, s9, s10, s11, er, h7, h8, h9, h10, h11⟩ => by
      subst er
      obtain ⟨l1, l2⟩ := lay_ok (bars := bars) hL hk k
      obtain ⟨l3, l4⟩ := lay_ok (bars := bars) hL hk (k + 1)
      obtain ⟨f1, _⟩ := found_ok (aim := aim) (bars := bars) hL hk (k + 1)
      have hp : 6 ^ (k + 1) ≤ 6 ^ 5 := Nat.pow_le_pow_right (by decide) (by omega)
      have hp' : 6 ^ k ≤ 6 ^ 5 := Nat.pow_le_pow_right (by decide) (by omega)
      have hp5 : 6 ^ 5 = 7776 := by decide
      obtain ⟨s10', s11', e, h10', h11'⟩ := lways_inner (aim := aim) (bars := bars) hL hk (m := .va (.int most)) (x6 := .ow (.lst ((foundW L kind aim bars (k + 1)).map stD))) (x7 := .va (.lst ((layW L kind bars k).map stD))) (x8 := .va (.int (k : Int))) (ws := layW L kind bars k) (gs := []) (s10 := s10) (s11 := s11)
        (fun w hw => ⟨by rw [(l2 w hw).1]; omega, (l2 w hw).2⟩) (by rw [List.length_nil]; omega) h10 h11
      rw [List.nil_append] at e
      have e : forF (.nm 10) l1__law_ways ((layW L kind bars k).map stD) [.va (ladD L), .va (.str kind), .va (.str aim), .va (stD bars), .va (.int most), .ow (.dct (dctKs L) (dctDs L)), .ow (.lst ((foundW L kind aim bars (k + 1)).map stD)), .va (.lst ((layW L kind bars k).map stD)), .va (.int (k : Int)), .ow (.lst []), s10, s11, .no] = _ := e
      have hc := lhit_comp (aim := aim) hL hk (x0 := .va (ladD L)) (x1 := .va (.str kind)) (x3 := .va (stD bars)) (x4 := .va (.int most)) (x6 := .ow (.lst ((foundW L kind aim bars (k + 1)).map stD))) (x7 := .va (.lst ((layW L kind bars (k + 1)).map stD))) (x8 := .va (.int (k : Int))) (x9 := .va (.lst ((layW L kind bars (k + 1)).map stD))) (x11 := s11') (x12 := .no) (ws := layW L kind bars (k + 1))
        (fun w hw => ⟨(fun z => by
          have h := (l4 w hw).1
          rw [z] at h
          cases h), (l4 w hw).2⟩) (by omega)
      have hfl := List.length_filter_le (hitW L kind aim) (layW L kind bars (k + 1))
      have hcat := dCat_ok (a := (foundW L kind aim bars (k + 1)).map stD) (b := ((layW L kind bars (k + 1)).filter (hitW L kind aim)).map stD) (by rw [List.length_map, List.length_map]; omega)
      have hfo : (foundW L kind aim bars (k + 1)).map stD ++ ((layW L kind bars (k + 1)).filter (hitW L kind aim)).map stD = (foundW L kind aim bars (k + 1 + 1)).map stD := by rw [← List.map_append]; rfl
      rw [hfo] at hcat
      have hlay : layW L kind bars (k + 1) = (layW L kind bars k).flatMap (extW L kind bars) := rfl
      rw [← hlay] at e
      refine ⟨[.va (ladD L), .va (.str kind), .va (.str aim), .va (stD bars), .va (.int most), .ow (.dct (dctKs L) (dctDs L)), .ow (.lst ((foundW L kind aim bars (k + 1)).map stD)), s7, .va (.int k), s9, s10, s11, .no], .nx,
        [.va (ladD L), .va (.str kind), .va (.str aim), .va (stD bars), .va (.int most), .ow (.dct (dctKs L) (dctDs L)), .ow (.lst ((foundW L kind aim bars (k + 1 + 1)).map stD)), .va (.lst ((layW L kind bars (k + 1)).map stD)), .va (.int k), .va (.lst ((layW L kind bars (k + 1)).map stD)), s10', s11', .no], ?_, ?_, .inl rfl, _, _, _, _, _, rfl, .inl rfl, .inr ⟨_, rfl⟩, .inr ⟨_, rfl⟩, h10', h11'⟩
      · rcases h8 with rfl | ⟨d, rfl⟩ <;> simp
      · generalize ((layW L kind bars (k + 1)).filter (hitW L kind aim)).map stD = q5 at hc hcat
        generalize (layW L kind bars (k + 1)).map stD = q1 at e hc ⊢
        generalize (foundW L kind aim bars (k + 1 + 1)).map stD = q2 at hcat ⊢
        generalize (layW L kind bars k).map stD = q3 at e h7
        generalize (foundW L kind aim bars (k + 1)).map stD = q4 at e hcat hc
        have hrs : NoVa s10' := h10'
        rcases hrs with rfl | ⟨d10, rfl⟩ <;> rcases h9 with rfl | ⟨d, rfl⟩ <;> rcases h7 with rfl | rfl <;> simp -implicitDefEqProofs [l2__law_ways, szOk, e, dctL, dem, clr, hc, rst, svd, hcat])
    ⟨.ow (.lst [.tup []]), .no, .no, .no, .no, rfl, .inr rfl, .inl rfl, .inl rfl, .inl rfl, .inl rfl⟩
  subst er
  have hr : rng1 [.int (most : Int)] = some (rngD 0 most) := rng1_nat (by omega)
  have hs := dSort_ways (foundW L kind aim bars (most + 1))
  have h0 : foundW L kind aim bars (0 + 1) = if aim ∈ bs then [[]] else [] := by
    show [] ++ [[]].filter (hitW L kind aim) = _
    have hb : bsW L kind [] = bs := by
      unfold bsW lastW
      rw [List.getLast?_nil, Option.getD_none, eb]
      rfl
    rw [List.nil_append, List.filter_cons, List.filter_nil]
    unfold hitW
    rw [hb]
    by_cases h : aim ∈ bs
    · rw [if_pos h, decide_eq_true h]; rfl
    · rw [if_neg h, decide_eq_false h]; rfl
  rw [h0] at ef
  have hin : dIn (.str aim) (stD bs) = some (.bl (decide (aim ∈ bs))) := dIn_t aim bs
  have hdd := dDict_lad hL.nd
  generalize (foundW L kind aim bars (most + 1)).map stD = q at ef hs
  by_cases h : aim ∈ bs
  · rw [if_pos h] at ef
    rw [decide_eq_true h] at hin
    have ef : forF (.nm 8) l2__law_ways (rngD 0 most) [.va (ladD L), .va (.str kind), .va (.str aim), .va (stD bars), .va (.int most), .ow (.dct (dctKs L) (dctDs L)), .ow (.lst [.tup []]), .ow (.lst [.tup []]), .no, .no, .no, .no, .no] = _ := ef
    simp -implicitDefEqProofs [f__law_ways, m__law_ways, hdd, hd0, hin, szOk, hr, ef, hs, ioOut5]
  · rw [if_neg h] at ef
    rw [decide_eq_false h] at hin
    have ef : forF (.nm 8) l2__law_ways (rngD 0 most) [.va (ladD L), .va (.str kind), .va (.str aim), .va (stD bars), .va (.int most), .ow (.dct (dctKs L) (dctDs L)), .ow (.lst []), .ow (.lst [.tup []]), .no, .no, .no, .no, .no] = _ := ef
    simp -implicitDefEqProofs [f__law_ways, m__law_ways, hdd, hd0, hin, szOk, hr, ef, hs, ioOut5]
end
end DL

set_option Elab.async false
set_option linter.all false
set_option maxRecDepth 100000
namespace DL
open PySem PySem.Spec PyProof.Rows L2
/-! ### numbers of ways -/
def bsO (L : List Row) (k : Str) : List Str := (bo L k).getD []
theorem bsO_some {L : List Row} {k : Str} (hk : k ∈ keys L) : bo L k = some (bsO L k) := by
  obtain ⟨bs, e⟩ := bo_key hk
  unfold bsO
  rw [e]
  rfl
def lapC (L : List Row) (c : Str → Int) (k : Str) : Int := (((keys L).filter fun one => decide (k ∈ bsO L one)).map c).sum
def cntC (L : List Row) (kind : Str) : Nat → Str → Int
  | 0 => fun k => if k = kind then 1 else 0
  | n + 1 => lapC L (cntC L kind n)
def ctO (xs : List Str) (c : Str → Int) : Ow := .dct (xs.map .inr) (xs.map fun k => .int (c k))
theorem ctO_d (xs : List Str) (c : Str → Int) : (ctO xs c).d = .dct (xs.map .inr) (xs.map fun k => .int (c k)) := rfl
theorem dIx_ct {xs : List Str} {c : Str → Int} {k : Str} (h : k ∈ xs) : dIx (ctO xs c).d (.str k) = some (.int (c k)) := by
  show (some (Sum.inr k)).bind (fun q => lk (xs.map .inr) (xs.map fun k => .int (c k)) q) = _
  rw [Option.bind_some]
  exact lk_fun (f := Sum.inr) h fun y _ e => Sum.inr.inj e
theorem setO_ct {xs : List Str} {c : Str → Int} {k : Str} {z : Int} (h : k ∈ xs) (hl : xs.length ≤ 5) : setO (ctO xs c) (.str k) (.int z) = some (ctO xs fun y => if y = k then z else c y) := by
  show (if (xs.map Sum.inr).length < 16777216 then some (Ow.dct (putKs (xs.map .inr) (.inr k)) (putDs (xs.map .inr) (xs.map fun k => .int (c k)) (.inr k) (.int z))) else none) = _
  obtain ⟨h1, h2⟩ := putDs_fun (f := (Sum.inr : Str → Key)) (g := fun k => D.int (c k)) (xs := xs) (k := .inr k) (d := .int z) (List.mem_map_of_mem h)
  rw [if_pos (by rw [List.length_map]; omega), h1, h2]
  unfold ctO
  congr 2
  apply List.map_congr_left
  intro y _
  by_cases e : y = k
  · subst e
    simp
  · rw [if_neg (fun z => e (Sum.inr.inj z))]
    show D.int (c y) = D.int (if y = k then z else c y)
    rw [if_neg e]
theorem setO_new {xs : List Str} {c : Str → Int} {k : Str} {z : Int} (h : k ∉ xs) (hl : xs.length ≤ 5) (hz : z = c k) : setO (ctO xs c) (.str k) (.int z) = some (ctO (xs ++ [k]) c) := by
  show (if (xs.map Sum.inr).length < 16777216 then some (Ow.dct (putKs (xs.map .inr) (.inr k)) (putDs (xs.map .inr) (xs.map fun k => .int (c k)) (.inr k) (.int z))) else none) = _
  rw [if_pos (by rw [List.length_map]; omega)]
  unfold putKs putDs
  have hk : hasK (xs.map Sum.inr) (.inr k) = false := hasK_not fun q => by
    obtain ⟨c, h1, h2⟩ := List.mem_map.mp q
    cases h2
    exact h h1
  rw [hk]
  unfold ctO
  simp [hz]
theorem ctO_congr {xs : List Str} {c c' : Str → Int} (h : ∀ k ∈ xs, c k = c' k) : ctO xs c = ctO xs c' := by
  unfold ctO
  congr 1
  apply List.map_congr_left
  intro k hk
  rw [h k hk]
theorem intsOf_map {xs : List Str} {c : Str → Int} : intsOf (xs.map fun k => D.int (c k)) = some (xs.map c) := by
  induction xs with
  | nil => rfl
  | cons x xs ih =>
    show (intsOf (xs.map fun k => D.int (c k))).map (c x :: ·) = _
    rw [ih]
    rfl
theorem dSum_map {xs : List Str} {c : Str → Int} : dSum (.lst (xs.map fun k => D.int (c k))) = some (.int (xs.map c).sum) := by
  show (intsOf _).map _ = _
  rw [intsOf_map]
  rfl
section
variable {L : List Row} {kind aim : Str}
/-- the dict comprehensions over the kinds -/
theorem merge_keys (hL : LOk L) (c : Str → Int) : mergeD [] [] ((keys L).map fun k => ((Sum.inr k : Key), D.int (c k))) = ((keys L).map .inr, (keys L).map fun k => .int (c k)) := by
  rw [mergeD_nodup]
  · simp [List.map_map, Function.comp_def]
  · rw [List.nil_append, List.map_map]
    exact List.Pairwise.map _ (fun a b h z => h (Sum.inr.inj z)) hL.nd
theorem wc_init (hL : LOk L) {x0 x2 x3 x4 x5 x6 x8 : Sl} : dcF [7] (.nm 7) (ret true) (mVar 7) (m1 (.e (m2 (.n 7) (.n 1) dEq)) dInt) ((keys L).map .str) [] [] [x0, .va (.str kind), x2, x3, x4, x5, x6, .no, x8] =
    some (((keys L).map .inr, (keys L).map fun k => .int (cntC L kind 0 k)), [x0, .va (.str kind), x2, x3, x4, x5, x6, .no, x8]) := by
  have hLl := hL.len
  refine (dcF_pure (fun d => match d with | .str k => (.inr k, .int (cntC L kind 0 k)) | _ => (.inl 0, .non)) (fun d hd => ?_) ?_).trans ?_
  · obtain ⟨k, hk, rfl⟩ := List.mem_map.mp hd
    refine ⟨[x0, .va (.str kind), x2, x3, x4, x5, x6, .va (.str k), x8], _, .str k, _, .int (cntC L kind 0 k), [x0, .va (.str kind), x2, x3, x4, x5, x6, .va (.str k), x8], by simp, rfl, by simp; rfl, rfl, ?_, rfl, by simp [clr]⟩
    unfold cntC
    simp -implicitDefEqProofs
  · rw [List.length_map, keys_len, List.length_nil]
    omega
  · rw [List.map_map]
    exact congrArg (fun q => some (q, _)) (merge_keys hL (cntC L kind 0))
theorem wc_zero (hL : LOk L) {x0 x1 x2 x3 x4 x5 x6 x8 : Sl} : dcF [7] (.nm 7) (ret true) (mVar 7) (mC (.int 0)) ((keys L).map .str) [] [] [x0, x1, x2, x3, x4, x5, x6, .no, x8] =
    some (((keys L).map .inr, (keys L).map fun _ => .int 0), [x0, x1, x2, x3, x4, x5, x6, .no, x8]) := by
  have hLl := hL.len
  refine (dcF_pure (fun d => match d with | .str k => (.inr k, .int 0) | _ => (.inl 0, .non)) (fun d hd => ?_) ?_).trans ?_
  · obtain ⟨k, hk, rfl⟩ := List.mem_map.mp hd
    exact ⟨[x0, x1, x2, x3, x4, x5, x6, .va (.str k), x8], _, .str k, _, .int 0, [x0, x1, x2, x3, x4, x5, x6, .va (.str k), x8], by simp, rfl, by simp; rfl, rfl, by simp, rfl, by simp [clr]⟩
  · rw [List.length_map, keys_len, List.length_nil]
    omega
  · rw [List.map_map]
    exact congrArg (fun q => some (q, _)) (merge_keys hL fun _ => 0)
/-- one boss more -/
theorem wc_boss (hL : LOk L) {x0 x1 x2 x3 x5 : Sl} {c g : Str → Int} {one b : Str} (h1 : one ∈ keys L) (hb : b = "" ∨ b ∈ keys L) :
    l1_way_count [x0, x1, x2, x3, .va (ctO (keys L) c).d, x5, .ow (ctO (keys L) g), .va (.str one), .va (.str b)] = some (.nx, [x0, x1, x2, x3, .va (ctO (keys L) c).d, x5, .ow (ctO (keys L) fun k => if k = b ∧ b ≠ "" then g k + c one else g k), .va (.str one), .va (.str b)]) := by
  have hkl : (keys L).length ≤ 5 := by rw [keys_len]; exact hL.len
  by_cases h : b = ""
  · have hb : (b == ("" : Str)) = true := by rw [h]; exact beq_self_eq_true _
    have e : (fun k => if k = b ∧ b ≠ "" then g k + c one else g k) = g := by
      funext k
      rw [if_neg (fun z => z.2 h)]
    rw [e]
    simp -implicitDefEqProofs [l1_way_count, hb]
  · have hbk := hb.resolve_left h
    have hb : (b == ("" : Str)) = false := by rw [beq_eq_false_iff_ne]; exact h
    have e1 := dIx_ct (c := g) hbk
    have e2 := dIx_ct (c := c) h1
    have e3 := setO_ct (c := g) (z := g b + c one) hbk hkl
    have e4 : (fun y => if y = b then g b + c one else g y) = fun k => if k = b ∧ b ≠ "" then g k + c one else g k := by
      funext k
      by_cases hk : k = b
      · rw [if_pos hk, if_pos ⟨hk, h⟩, hk]
      · rw [if_neg hk, if_neg (fun z => hk z.1)]
    rw [e4] at e3
    generalize hq : (fun k => if k = b ∧ b ≠ "" then g k + c one else g k) = q at e3
    simp -implicitDefEqProofs [l1_way_count, hb, e1, e2, e3]
theorem wc_bosses (hL : LOk L) {x0 x1 x2 x3 x5 : Sl} {c : Str → Int} {one : Str} (h1 : one ∈ keys L) : ∀ {bs : List Str} {g : Str → Int} {s8 : Sl}, bs.Nodup → (∀ b ∈ bs, b = "" ∨ b ∈ keys L) → NoVa s8 →
    ∃ s8', forF (.nm 8) l1_way_count (bs.map .str) [x0, x1, x2, x3, .va (ctO (keys L) c).d, x5, .ow (ctO (keys L) g), .va (.str one), s8] = some (.nx, [x0, x1, x2, x3, .va (ctO (keys L) c).d, x5, .ow (ctO (keys L) fun k => if k ∈ bs ∧ k ≠ "" then g k + c one else g k), .va (.str one), s8']) ∧ NoVa s8'
  | [], g, s8, _, _, h8 => ⟨s8, by simp; rfl, h8⟩
  | b :: bs, g, s8, hn, hb, h8 => by
    obtain ⟨hn1, hn2⟩ := List.nodup_cons.mp hn
    obtain ⟨s8', e, h8'⟩ := wc_bosses hL (x0 := x0) (x1 := x1) (x2 := x2) (x3 := x3) (x5 := x5) h1 (bs := bs) (g := fun k => if k = b ∧ b ≠ "" then g k + c one else g k) (s8 := .va (.str b)) hn2 (fun d hd => hb d (List.mem_cons_of_mem _ hd)) (.inr ⟨_, rfl⟩)
    refine ⟨s8', (forF_nx ?_ (wc_boss hL (x0 := x0) (x1 := x1) (x2 := x2) (x3 := x3) (x5 := x5) h1 (hb b List.mem_cons_self))).trans (e.trans ?_), h8'⟩
    · rcases h8 with rfl | ⟨d, rfl⟩ <;> simp
    · have hf : (fun k => if k ∈ bs ∧ k ≠ "" then (if k = b ∧ b ≠ "" then g k + c one else g k) + c one else if k = b ∧ b ≠ "" then g k + c one else g k) = fun k => if k ∈ b :: bs ∧ k ≠ "" then g k + c one else g k := by
        funext k
        by_cases hk : k = b
        · subst hk
          simp [hn1]
        · simp [hk]
      rw [hf]
theorem wc_ones (hL : LOk L) {x1 x2 x3 x5 : Sl} {c : Str → Int} : ∀ {xs done : List Str} {s7 s8 : Sl}, (∀ x ∈ xs, x ∈ keys L) → NoVa s7 → NoVa s8 →
    ∃ s7' s8', forF (.nm 7) l2_way_count (xs.map .str) [.va (ladD L), x1, x2, x3, .va (ctO (keys L) c).d, x5, .ow (ctO (keys L) fun k => ((done.filter fun one => decide (k ∈ bsO L one)).map c).sum), s7, s8] =
      some (.nx, [.va (ladD L), x1, x2, x3, .va (ctO (keys L) c).d, x5, .ow (ctO (keys L) fun k => (((done ++ xs).filter fun one => decide (k ∈ bsO L one)).map c).sum), s7', s8']) ∧ NoVa s7' ∧ NoVa s8'
  | [], done, s7, s8, _, h7, h8 => ⟨s7, s8, by rw [List.append_nil]; rfl, h7, h8⟩
  | x :: xs, done, s7, s8, hx, h7, h8 => by
    have hxk := hx x List.mem_cons_self
    have eb := bsO_some hxk
    obtain ⟨s8a, e1, h8a⟩ := wc_bosses hL (x0 := .va (ladD L)) (x1 := x1) (x2 := x2) (x3 := x3) (x5 := x5) (c := c) hxk (bs := bsO L x) (g := fun k => ((done.filter fun one => decide (k ∈ bsO L one)).map c).sum) (s8 := s8) (hL.bnd' eb) (hL.inn _ (bo_mem eb)) h8
    have hq : ctO (keys L) (fun k => if k ∈ bsO L x ∧ k ≠ "" then ((done.filter fun one => decide (k ∈ bsO L one)).map c).sum + c x else ((done.filter fun one => decide (k ∈ bsO L one)).map c).sum) = ctO (keys L) fun k => (((done ++ [x]).filter fun one => decide (k ∈ bsO L one)).map c).sum := ctO_congr fun k hk => by
      have hne : k ≠ "" := fun z => hL.ne (z ▸ hk)
      rw [List.filter_append, List.filter_cons, List.filter_nil, List.map_append, List.sum_append]
      by_cases h : k ∈ bsO L x
      · rw [if_pos ⟨h, hne⟩, decide_eq_true h]
        simp
      · rw [if_neg (fun z => h z.1), decide_eq_false h]
        simp
    rw [hq] at e1
    obtain ⟨s7', s8', e2, h⟩ := wc_ones hL (x1 := x1) (x2 := x2) (x3 := x3) (x5 := x5) (xs := xs) (done := done ++ [x]) (s7 := .va (.str x)) (s8 := s8a) (fun y hy => hx y (List.mem_cons_of_mem _ hy)) (.inr ⟨_, rfl⟩) h8a
    refine ⟨s7', s8', (forF_nx (ρ1 := [.va (ladD L), x1, x2, x3, .va (ctO (keys L) c).d, x5, .ow (ctO (keys L) fun k => ((done.filter fun one => decide (k ∈ bsO L one)).map c).sum), .va (.str x), s8]) ?_ ?_).trans (e2.trans (by rw [List.append_assoc]; rfl)), h⟩
    · rcases h7 with rfl | ⟨d, rfl⟩ <;> simp
    · have hbo := bosses_of_ok hL eb
      have hi : itemsOf (stD (bsO L x)) = some ((bsO L x).map .str) := rfl
      generalize hq1 : ctO (keys L) (fun k => ((done.filter fun one => decide (k ∈ bsO L one)).map c).sum) = q1 at e1
      generalize hq2 : ctO (keys L) (fun k => (((done ++ [x]).filter fun one => decide (k ∈ bsO L one)).map c).sum) = q2 at e1
      generalize (ctO (keys L) c).d = q3 at e1 ⊢
      simp -implicitDefEqProofs [l2_way_count, hbo, hi, e1]
/-- the last sum -/
theorem wc_sum (hL : LOk L) {x1 x3 x5 x6 x8 : Sl} {c : Str → Int} : lcF [7] (.nm 7) (mTb (m2 (.n 2) (.e (asV (mCallR 2 f_bosses_of [.v (mVar 0), .v (mVar 7)]))) dIn)) (m2 (.n 4) (.n 7) dIx) ((keys L).map .str) [] [.va (ladD L), x1, .va (.str aim), x3, .va (ctO (keys L) c).d, x5, x6, .no, x8] =
    some (((keys L).filter fun one => decide (aim ∈ bsO L one)).map (fun k => .int (c k)), [.va (ladD L), x1, .va (.str aim), x3, .va (ctO (keys L) c).d, x5, x6, .no, x8]) := by
  have hLl := hL.len
  refine (lcF_pure (fun d => match d with | .str k => if decide (aim ∈ bsO L k) then some (.int (c k)) else none | _ => none) (fun d hd => ?_) ?_).trans ?_
  · obtain ⟨k, hk, rfl⟩ := List.mem_map.mp hd
    have hbo := bosses_of_ok hL (bsO_some hk)
    have hin : dIn (.str aim) (stD (bsO L k)) = some (.bl (decide (aim ∈ bsO L k))) := dIn_t aim _
    have hix := dIx_ct (c := c) hk
    generalize (ctO (keys L) c).d = q3 at hix ⊢
    refine ⟨[.va (ladD L), x1, .va (.str aim), x3, .va q3, x5, x6, .va (.str k), x8], decide (aim ∈ bsO L k), [.va (ladD L), x1, .va (.str aim), x3, .va q3, x5, x6, .va (.str k), x8], by simp, ?_, ?_⟩
    · simp -implicitDefEqProofs [hbo, hin]
    · by_cases h : aim ∈ bsO L k
      · exact .inr ⟨decide_eq_true h, .int (c k), [.va (ladD L), x1, .va (.str aim), x3, .va q3, x5, x6, .va (.str k), x8], by simp -implicitDefEqProofs [hix], by simp [h], by simp [clr]⟩
      · exact .inl ⟨decide_eq_false h, by simp [h], by simp [clr]⟩
  · rw [List.length_map, keys_len, List.length_nil]
    omega
  · rw [List.nil_append, List.filterMap_map]
    congr 2
    exact filterMap_if (fun k => decide (aim ∈ bsO L k)) (fun k => D.int (c k)) (keys L)
theorem way_count_ok (hL : LOk L) {many : Nat} (hm : many ≤ 1000) :
    f_way_count [.va (ladD L), .va (.str kind), .va (.str aim), .va (.int many)] = some (.va (.int (lapC L (cntC L kind many) aim)), none) := by
  have hko := kinds_of_ok hL.len
  obtain ⟨ρ', ef, s4, s5, s6, s7, s8, er, h4, h5, h6, h7, h8⟩ := forF_rng (t := .nm 5) (b := l3_way_count) (n := many)
    (fun k ρ => ∃ (s4 s5 s6 s7 s8 : Sl), ρ = [.va (ladD L), .va (.str kind), .va (.str aim), .va (.int many), s4, s5, s6, s7, s8] ∧ (s4 = .va (ctO (keys L) (cntC L kind k)).d ∨ s4 = .ow (ctO (keys L) (cntC L kind k))) ∧ NoVa s5 ∧ NoVa s6 ∧ NoVa s7 ∧ NoVa s8)
    (fun k ρ hkm ⟨s4, s5, s6, s7, s8, er, h4, h5, h6, h7, h8⟩ => by
      subst er
      have hz := fun x4 x5 x6 => wc_zero hL (x0 := .va (ladD L)) (x1 := .va (.str kind)) (x2 := .va (.str aim)) (x3 := .va (.int many)) (x4 := x4) (x5 := x5) (x6 := x6) (x8 := s8)
      obtain ⟨s7', s8', e, h7', h8'⟩ := wc_ones hL (x1 := .va (.str kind)) (x2 := .va (.str aim)) (x3 := .va (.int many)) (x5 := .va (.int (k : Int))) (c := cntC L kind k) (xs := keys L) (done := []) (s7 := s7) (s8 := s8) (fun x h => h) h7 h8
      rw [List.nil_append] at e
      have e : forF (.nm 7) l2_way_count ((keys L).map .str) [.va (ladD L), .va (.str kind), .va (.str aim), .va (.int many), .va (ctO (keys L) (cntC L kind k)).d, .va (.int (k : Int)), .ow (.dct ((keys L).map .inr) ((keys L).map fun _ => .int 0)), s7, s8] = some (.nx, [.va (ladD L), .va (.str kind), .va (.str aim), .va (.int many), .va (ctO (keys L) (cntC L kind k)).d, .va (.int (k : Int)), .ow (ctO (keys L) (cntC L kind (k + 1))), s7', s8']) := e
      refine ⟨[.va (ladD L), .va (.str kind), .va (.str aim), .va (.int many), s4, .va (.int k), s6, s7, s8], .nx, [.va (ladD L), .va (.str kind), .va (.str aim), .va (.int many), .va (ctO (keys L) (cntC L kind (k + 1))).d, .va (.int k), .va (ctO (keys L) (cntC L kind (k + 1))).d, s7', s8'], ?_, ?_, .inl rfl, _, _, _, _, _, rfl, .inl rfl, .inr ⟨_, rfl⟩, .inr ⟨_, rfl⟩, h7', h8'⟩
      · rcases h5 with rfl | ⟨d, rfl⟩ <;> simp
      · have hit : itemsOf (ctO (keys L) (cntC L kind k)).d = some ((keys L).map .str) := itemsOf_d
        generalize ctO (keys L) (cntC L kind (k + 1)) = q1 at e ⊢
        generalize hq2 : ctO (keys L) (cntC L kind k) = q2 at e h4 hit
        generalize (keys L).map D.str = q3 at hz e hko hit
        generalize (keys L).map (fun _ => D.int 0) = q4 at hz e
        generalize (keys L).map Sum.inr = q5 at hz e
        rcases h7 with rfl | ⟨d7, rfl⟩ <;> rcases h6 with rfl | ⟨d, rfl⟩ <;> rcases h4 with rfl | rfl <;> simp -implicitDefEqProofs [l3_way_count, hko, dem, clr, hz, rst, svd, hit, e])
    ⟨.ow (ctO (keys L) (cntC L kind 0)), .no, .no, .no, .no, rfl, .inr rfl, .inl rfl, .inl rfl, .inl rfl, .inl rfl⟩
  subst er
  have hi := wc_init (kind := kind) hL (x0 := .va (ladD L)) (x2 := .va (.str aim)) (x3 := .va (.int many)) (x4 := .no) (x5 := .no) (x6 := .no) (x8 := .no)
  have hs := wc_sum (aim := aim) hL (x1 := .va (.str kind)) (x3 := .va (.int many)) (x5 := s5) (x6 := s6) (x8 := s8) (c := cntC L kind many)
  have hr : rng1 [.int (many : Int)] = some (rngD 0 many) := rng1_nat (by omega)
  have hit : itemsOf (ctO (keys L) (cntC L kind many)).d = some ((keys L).map .str) := itemsOf_d
  have hsum := dSum_map (xs := (keys L).filter fun one => decide (aim ∈ bsO L one)) (c := cntC L kind many)
  have ef : forF (.nm 5) l3_way_count (rngD 0 many) [.va (ladD L), .va (.str kind), .va (.str aim), .va (.int many), .ow (.dct ((keys L).map .inr) ((keys L).map fun k => .int (cntC L kind 0 k))), .no, .no, .no, .no] = _ := ef
  unfold lapC
  generalize ((keys L).filter fun one => decide (aim ∈ bsO L one)).map (fun k => D.int (cntC L kind many k)) = q1 at hs hsum
  generalize (((keys L).filter fun one => decide (aim ∈ bsO L one)).map (cntC L kind many)).sum = q2 at hsum ⊢
  generalize ctO (keys L) (cntC L kind many) = q3 at hs hit h4
  generalize (keys L).map (fun k => D.int (cntC L kind 0 k)) = q4 at hi ef
  generalize (keys L).map D.str = q5 at hi hko hit hs
  generalize (keys L).map Sum.inr = q6 at hi ef
  rcases h7 with rfl | ⟨d7, rfl⟩ <;> rcases h4 with rfl | rfl <;> simp -implicitDefEqProofs [f_way_count, m_way_count, hko, dem, clr, hi, rst, svd, hr, ef, hit, hs, hsum, ioOut4]
end
end DL

set_option Elab.async false
set_option linter.all false
set_option maxRecDepth 100000
namespace DL
open PySem PySem.Spec PyProof.Rows L2
section
variable {L : List Row} {kind aim : Str}
abbrev lcD (L : List Row) : D := .dct (dctKs L) (dctDs L)
theorem items_lc : itemsOf (lcD L) = some ((keys L).map .str) := itemsOf_d
theorem lm_init (hL : LOk L) {x0 x2 x3 x7 x8 x9 : Sl} : ∀ {xs done : List Str} {s6 : Sl}, (done ++ xs).Nodup → (done ++ xs).length ≤ 5 → NoVa s6 →
    ∃ s6', forF (.nm 6) l1__law_many (xs.map .str) [x0, .va (.str kind), x2, x3, .va (lcD L), .ow (ctO done (cntC L kind 0)), s6, x7, x8, x9] = some (.nx, [x0, .va (.str kind), x2, x3, .va (lcD L), .ow (ctO (done ++ xs) (cntC L kind 0)), s6', x7, x8, x9]) ∧ NoVa s6'
  | [], done, s6, _, _, h6 => ⟨s6, by rw [List.append_nil]; rfl, h6⟩
  | x :: xs, done, s6, hn, hl, h6 => by
    have hn' : (done ++ [x] ++ xs).Nodup := by rw [List.append_assoc]; exact hn
    have hl' : (done ++ [x] ++ xs).length ≤ 5 := by rw [List.append_assoc]; exact hl
    have hx : x ∉ done := fun z => (List.nodup_append.mp hn).2.2 x z x List.mem_cons_self rfl
    have hd : done.length ≤ 5 := by rw [List.length_append] at hl; omega
    have e3 := setO_new (c := cntC L kind 0) (z := if x = kind then 1 else 0) hx hd rfl
    obtain ⟨s6', e, h⟩ := lm_init hL (x0 := x0) (x2 := x2) (x3 := x3) (x7 := x7) (x8 := x8) (x9 := x9) (xs := xs) (done := done ++ [x]) (s6 := .va (.str x)) hn' hl' (.inr ⟨_, rfl⟩)
    refine ⟨s6', (forF_nx (ρ1 := [x0, .va (.str kind), x2, x3, .va (lcD L), .ow (ctO done (cntC L kind 0)), .va (.str x), x7, x8, x9]) ?_ ?_).trans (e.trans (by rw [List.append_assoc]; rfl)), h⟩
    · rcases h6 with rfl | ⟨d, rfl⟩ <;> simp
    · generalize ctO (done ++ [x]) (cntC L kind 0) = q1 at e3 ⊢
      generalize ctO done (cntC L kind 0) = q2 at e3 ⊢
      simp -implicitDefEqProofs [l1__law_many, e3]
theorem lm_comp (hL : LOk L) {x0 x1 x2 x3 x7 x8 : Sl} {c : Str → Int} {other : Str} {s5 : Sl} (h5 : s5 = .va (ctO (keys L) c).d ∨ s5 = .ow (ctO (keys L) c)) : lcF [9] (.nm 9) (mTb (m2 (.n 6) (.e (m2 (.n 4) (.n 9) dIx)) dIn)) (m2 (.n 5) (.n 9) dIx) ((keys L).map .str) [] [x0, x1, x2, x3, .va (lcD L), s5, .va (.str other), x7, x8, .no] =
    some (((keys L).filter fun one => decide (other ∈ bsO L one)).map (fun k => .int (c k)), [x0, x1, x2, x3, .va (lcD L), s5, .va (.str other), x7, x8, .no]) := by
  have hLl := hL.len
  refine (lcF_pure (fun d => match d with | .str k => if decide (other ∈ bsO L k) then some (.int (c k)) else none | _ => none) (fun d hd => ?_) ?_).trans ?_
  · obtain ⟨k, hk, rfl⟩ := List.mem_map.mp hd
    have hbo : dIx (lcD L) (.str k) = some (stD (bsO L k)) := dIx_dctL (bsO_some hk)
    have hin : dIn (.str other) (stD (bsO L k)) = some (.bl (decide (other ∈ bsO L k))) := dIn_t other _
    have hix := dIx_ct (c := c) hk
    generalize (ctO (keys L) c) = q3 at hix h5
    generalize lcD L = q4 at hbo ⊢
    refine ⟨[x0, x1, x2, x3, .va q4, s5, .va (.str other), x7, x8, .va (.str k)], decide (other ∈ bsO L k), [x0, x1, x2, x3, .va q4, s5, .va (.str other), x7, x8, .va (.str k)], by simp, ?_, ?_⟩
    · simp -implicitDefEqProofs [hbo, hin]
    · by_cases h : other ∈ bsO L k
      · exact .inr ⟨decide_eq_true h, .int (c k), [x0, x1, x2, x3, .va q4, s5, .va (.str other), x7, x8, .va (.str k)], by rcases h5 with rfl | rfl <;> simp -implicitDefEqProofs [hix], by simp [h], by simp [clr]⟩
      · exact .inl ⟨decide_eq_false h, by simp [h], by simp [clr]⟩
  · rw [List.length_map, keys_len, List.length_nil]
    omega
  · rw [List.nil_append, List.filterMap_map]
    congr 2
    exact filterMap_if (fun k => decide (other ∈ bsO L k)) (fun k => D.int (c k)) (keys L)
theorem lm_lap (hL : LOk L) {x0 x1 x2 x3 x7 : Sl} {c : Str → Int} {s5 : Sl} (h5 : s5 = .va (ctO (keys L) c).d ∨ s5 = .ow (ctO (keys L) c)) : ∀ {xs done : List Str} {s6 : Sl}, (done ++ xs).Nodup → (done ++ xs).length ≤ 5 → NoVa s6 →
    ∃ s6', forF (.nm 6) l2__law_many (xs.map .str) [x0, x1, x2, x3, .va (lcD L), s5, s6, x7, .ow (ctO done (lapC L c)), .no] = some (.nx, [x0, x1, x2, x3, .va (lcD L), s5, s6', x7, .ow (ctO (done ++ xs) (lapC L c)), .no]) ∧ NoVa s6'
  | [], done, s6, _, _, h6 => ⟨s6, by rw [List.append_nil]; rfl, h6⟩
  | x :: xs, done, s6, hn, hl, h6 => by
    have hn' : (done ++ [x] ++ xs).Nodup := by rw [List.append_assoc]; exact hn
    have hl' : (done ++ [x] ++ xs).length ≤ 5 := by rw [List.append_assoc]; exact hl
    have hx : x ∉ done := fun z => (List.nodup_append.mp hn).2.2 x z x List.mem_cons_self rfl
    have hd : done.length ≤ 5 := by rw [List.length_append] at hl; omega
    have e3 := setO_new (c := lapC L c) (z := lapC L c x) hx hd rfl
    have hc := lm_comp (other := x) hL h5 (x0 := x0) (x1 := x1) (x2 := x2) (x3 := x3) (x7 := x7) (x8 := .ow (ctO done (lapC L c)))
    have hsum : dSum (.lst (((keys L).filter fun one => decide (x ∈ bsO L one)).map fun k => .int (c k))) = some (.int (lapC L c x)) := dSum_map
    have hit := items_lc (L := L)
    obtain ⟨s6', e, h⟩ := lm_lap hL h5 (x0 := x0) (x1 := x1) (x2 := x2) (x3 := x3) (x7 := x7) (xs := xs) (done := done ++ [x]) (s6 := .va (.str x)) hn' hl' (.inr ⟨_, rfl⟩)
    refine ⟨s6', (forF_nx (ρ1 := [x0, x1, x2, x3, .va (lcD L), s5, .va (.str x), x7, .ow (ctO done (lapC L c)), .no]) ?_ ?_).trans (e.trans (by rw [List.append_assoc]; rfl)), h⟩
    · rcases h6 with rfl | ⟨d, rfl⟩ <;> simp
    · generalize lcD L = q4 at hc hit ⊢
      generalize ctO (done ++ [x]) (lapC L c) = q1 at e3 ⊢
      generalize ctO done (lapC L c) = q2 at e3 hc ⊢
      generalize lapC L c x = q5 at e3 hsum
      generalize (((keys L).filter fun one => decide (x ∈ bsO L one)).map fun k => D.int (c k)) = q6 at hc hsum
      generalize (keys L).map D.str = q7 at hc hit
      simp -implicitDefEqProofs [l2__law_many, hit, dem, clr, hc, rst, svd, hsum, e3]
theorem lm_sum (hL : LOk L) {x0 x1 x3 x7 x8 x9 : Sl} {c : Str → Int} {s5 : Sl} (h5 : s5 = .va (ctO (keys L) c).d ∨ s5 = .ow (ctO (keys L) c)) : lcF [6] (.nm 6) (mTb (m2 (.n 2) (.e (m2 (.n 4) (.n 6) dIx)) dIn)) (m2 (.n 5) (.n 6) dIx) ((keys L).map .str) [] [x0, x1, .va (.str aim), x3, .va (lcD L), s5, .no, x7, x8, x9] =
    some (((keys L).filter fun one => decide (aim ∈ bsO L one)).map (fun k => .int (c k)), [x0, x1, .va (.str aim), x3, .va (lcD L), s5, .no, x7, x8, x9]) := by
  have hLl := hL.len
  refine (lcF_pure (fun d => match d with | .str k => if decide (aim ∈ bsO L k) then some (.int (c k)) else none | _ => none) (fun d hd => ?_) ?_).trans ?_
  · obtain ⟨k, hk, rfl⟩ := List.mem_map.mp hd
    have hbo : dIx (lcD L) (.str k) = some (stD (bsO L k)) := dIx_dctL (bsO_some hk)
    have hin : dIn (.str aim) (stD (bsO L k)) = some (.bl (decide (aim ∈ bsO L k))) := dIn_t aim _
    have hix := dIx_ct (c := c) hk
    generalize (ctO (keys L) c) = q3 at hix h5
    generalize lcD L = q4 at hbo ⊢
    refine ⟨[x0, x1, .va (.str aim), x3, .va q4, s5, .va (.str k), x7, x8, x9], decide (aim ∈ bsO L k), [x0, x1, .va (.str aim), x3, .va q4, s5, .va (.str k), x7, x8, x9], by simp, ?_, ?_⟩
    · simp -implicitDefEqProofs [hbo, hin]
    · by_cases h : aim ∈ bsO L k
      · exact .inr ⟨decide_eq_true h, .int (c k), [x0, x1, .va (.str aim), x3, .va q4, s5, .va (.str k), x7, x8, x9], by rcases h5 with rfl | rfl <;> simp -implicitDefEqProofs [hix], by simp [h], by simp [clr]⟩
      · exact .inl ⟨decide_eq_false h, by simp [h], by simp [clr]⟩
  · rw [List.length_map, keys_len, List.length_nil]
    omega
  · rw [List.nil_append, List.filterMap_map]
    congr 2
    exact filterMap_if (fun k => decide (aim ∈ bsO L k)) (fun k => D.int (c k)) (keys L)
theorem law_many_ok (hL : LOk L) {many : Nat} (hm : many ≤ 1000) :
    f__law_many [.va (ladD L), .va (.str kind), .va (.str aim), .va (.int many)] = some (.va (.int (lapC L (cntC L kind many) aim)), none) := by
  have hkl : (keys L).length ≤ 5 := by rw [keys_len]; exact hL.len
  obtain ⟨s6a, ei, h6a⟩ := lm_init (kind := kind) hL (x0 := .va (ladD L)) (x2 := .va (.str aim)) (x3 := .va (.int many)) (x7 := .no) (x8 := .no) (x9 := .no) (xs := keys L) (done := []) (s6 := .no) (by rw [List.nil_append]; exact hL.nd) (by rw [List.nil_append]; exact hkl) (.inl rfl)
  rw [List.nil_append] at ei
  have ei : forF (.nm 6) l1__law_many ((keys L).map .str) [.va (ladD L), .va (.str kind), .va (.str aim), .va (.int many), .va (lcD L), .ow (.dct [] []), .no, .no, .no, .no] = _ := ei
  obtain ⟨ρ', ef, s5, s6, s7, s8, er, h5, h6, h7, h8⟩ := forF_rng (t := .nm 7) (b := l3__law_many) (n := many)
    (fun k ρ => ∃ (s5 s6 s7 s8 : Sl), ρ = [.va (ladD L), .va (.str kind), .va (.str aim), .va (.int many), .va (lcD L), s5, s6, s7, s8, .no] ∧ (s5 = .va (ctO (keys L) (cntC L kind k)).d ∨ s5 = .ow (ctO (keys L) (cntC L kind k))) ∧ NoVa s6 ∧ NoVa s7 ∧ NoVa s8)
    (fun k ρ hkm ⟨s5, s6, s7, s8, er, h5, h6, h7, h8⟩ => by
      subst er
      obtain ⟨s6', e, h6'⟩ := lm_lap hL h5 (x0 := .va (ladD L)) (x1 := .va (.str kind)) (x2 := .va (.str aim)) (x3 := .va (.int many)) (x7 := .va (.int (k : Int))) (xs := keys L) (done := []) (s6 := s6) (by rw [List.nil_append]; exact hL.nd) (by rw [List.nil_append]; exact hkl) h6
      rw [List.nil_append] at e
      have e : forF (.nm 6) l2__law_many ((keys L).map .str) [.va (ladD L), .va (.str kind), .va (.str aim), .va (.int many), .va (lcD L), s5, s6, .va (.int (k : Int)), .ow (.dct [] []), .no] = some (.nx, [.va (ladD L), .va (.str kind), .va (.str aim), .va (.int many), .va (lcD L), s5, s6', .va (.int (k : Int)), .ow (ctO (keys L) (cntC L kind (k + 1))), .no]) := e
      refine ⟨[.va (ladD L), .va (.str kind), .va (.str aim), .va (.int many), .va (lcD L), s5, s6, .va (.int k), s8, .no], .nx, [.va (ladD L), .va (.str kind), .va (.str aim), .va (.int many), .va (lcD L), .va (ctO (keys L) (cntC L kind (k + 1))).d, s6', .va (.int k), .va (ctO (keys L) (cntC L kind (k + 1))).d, .no], ?_, ?_, .inl rfl, _, _, _, _, rfl, .inl rfl, h6', .inr ⟨_, rfl⟩, .inr ⟨_, rfl⟩⟩
      · rcases h7 with rfl | ⟨d, rfl⟩ <;> simp
      · have hit := items_lc (L := L)
        generalize lcD L = q4 at hit e ⊢
        generalize ctO (keys L) (cntC L kind (k + 1)) = q1 at e ⊢
        generalize ctO (keys L) (cntC L kind k) = q2 at h5
        generalize (keys L).map D.str = q7 at hit e
        rcases h8 with rfl | ⟨d8, rfl⟩ <;> rcases h5 with rfl | rfl <;> simp -implicitDefEqProofs [l3__law_many, hit, e])
    ⟨.ow (ctO (keys L) (cntC L kind 0)), s6a, .no, .no, rfl, .inr rfl, h6a, .inl rfl, .inl rfl⟩
  subst er
  have hs := lm_sum (aim := aim) hL h5 (x0 := .va (ladD L)) (x1 := .va (.str kind)) (x3 := .va (.int many)) (x7 := s7) (x8 := s8) (x9 := .no)
  have hr : rng1 [.int (many : Int)] = some (rngD 0 many) := rng1_nat (by omega)
  have hsum := dSum_map (xs := (keys L).filter fun one => decide (aim ∈ bsO L one)) (c := cntC L kind many)
  have hit := items_lc (L := L)
  have hdd : dDict (ladD L) = some (.dct (dctKs L) (dctDs L)) := dDict_lad hL.nd
  unfold lapC
  generalize ((keys L).filter fun one => decide (aim ∈ bsO L one)).map (fun k => D.int (cntC L kind many k)) = q1 at hs hsum
  generalize (((keys L).filter fun one => decide (aim ∈ bsO L one)).map (cntC L kind many)).sum = q2 at hsum ⊢
  generalize ctO (keys L) (cntC L kind many) = q3 at h5
  generalize ctO (keys L) (cntC L kind 0) = q5 at ei ef
  generalize (keys L).map D.str = q7 at hit ei hs
  rcases h6 with rfl | ⟨d6, rfl⟩ <;> rcases h5 with rfl | rfl <;> simp -implicitDefEqProofs [f__law_many, m__law_many, hdd, hit, ei, hr, ef, dem, clr, hs, rst, svd, hsum, ioOut4]
end
end DL

set_option Elab.async false
set_option linter.all false
set_option maxRecDepth 100000
namespace DL
open PySem PySem.Spec PyProof.Rows L2
def dO (xs : List Str) (g : Str → D) : Ow := .dct (xs.map .inr) (xs.map g)
theorem dIx_dO {xs : List Str} {g : Str → D} {k : Str} (h : k ∈ xs) : dIx (dO xs g).d (.str k) = some (g k) := by
  show (some (Sum.inr k)).bind (fun q => lk (xs.map .inr) (xs.map g) q) = _
  rw [Option.bind_some]
  exact lk_fun (f := Sum.inr) h fun y _ e => Sum.inr.inj e
theorem setO_dO {xs : List Str} {g : Str → D} {k : Str} (h : k ∉ xs) (hl : xs.length ≤ 5) : setO (dO xs g) (.str k) (g k) = some (dO (xs ++ [k]) g) := by
  show (if (xs.map Sum.inr).length < 16777216 then some (Ow.dct (putKs (xs.map .inr) (.inr k)) (putDs (xs.map .inr) (xs.map g) (.inr k) (g k))) else none) = _
  rw [if_pos (by rw [List.length_map]; omega)]
  unfold putKs putDs
  have hk : hasK (xs.map Sum.inr) (.inr k) = false := hasK_not fun q => by
    obtain ⟨c, h1, h2⟩ := List.mem_map.mp q
    cases h2
    exact h h1
  rw [hk]
  unfold dO
  simp
/-- what is reached, of each kind -/
structure ROk (L : List Row) (R : Str → List Str) : Prop where
  d : ∀ x ∈ keys L, Dfs L ([], [x]) (R x) ∧ (R x).length ≤ 5
theorem reach_all {L : List Row} (hL : LOk L) : ∃ R, ROk L R := by
  have h : ∀ x, ∃ r, x ∈ keys L → Dfs L ([], [x]) r ∧ r.length ≤ 5 := fun x => by
    by_cases hx : x ∈ keys L
    · obtain ⟨r, h1, h2, h3⟩ := reach_ex hL hx
      refine ⟨r, fun _ => ⟨h1, ?_⟩⟩
      have := h2.length_le_of_subset (l₂ := keys L) h3
      rw [keys_len] at this
      have := hL.len
      omega
    · exact ⟨[], fun z => absurd z hx⟩
  exact ⟨fun x => (h x).choose, ⟨fun x hx => (h x).choose_spec hx⟩⟩
def abG (R : Str → List Str) (k : Str) : D := .lst ((srt (R k)).map .str)
theorem pn_strs (xs : List Str) : pnL (xs.map .str) = true := pnL_of fun d hd => by
  obtain ⟨x, _, rfl⟩ := List.mem_map.mp hd
  rfl
theorem nd_strs : ∀ xs : List Str, ndL (xs.map .str) = xs.length
  | [] => by simp [ndL]
  | x :: xs => by
    rw [List.map_cons, List.length_cons]
    simp only [ndL, nd]
    rw [nd_strs xs]
    omega
theorem pn_ways (ws : List (List Str)) : pnL (ws.map stD) = true := pnL_of fun d hd => by
  obtain ⟨w, _, rfl⟩ := List.mem_map.mp hd
  unfold stD
  rw [D.pn]
  exact pn_strs w
theorem nd_ways {n : Nat} : ∀ {ws : List (List Str)}, (∀ w ∈ ws, w.length ≤ n) → ndL (ws.map stD) ≤ ws.length * (n + 1)
  | [], _ => by simp [ndL]
  | w :: ws, h => by
    have h1 := h w List.mem_cons_self
    have h2 := nd_ways (ws := ws) fun u hu => h u (List.mem_cons_of_mem _ hu)
    rw [List.map_cons, List.length_cons, Nat.add_mul]
    simp only [ndL]
    have : nd (stD w) = 1 + w.length := by unfold stD; rw [nd, nd_strs]
    omega
section
variable {L : List Row} {R : Str → List Str}
theorem lk_above (hL : LOk L) (hR : ROk L R) {x0 x2 x3 x6 x7 x8 x9 x10 x11 x12 x13 x14 : Sl} : ∀ {xs done : List Str} {s5 : Sl}, (∀ x ∈ xs, x ∈ keys L) → (done ++ xs).Nodup → (done ++ xs).length ≤ 5 → NoVa s5 →
    ∃ s5', forF (.nm 5) l1__law_looked (xs.map .str) [x0, .va (ladD L), x2, x3, .ow (dO done (abG R)), s5, x6, x7, x8, x9, x10, x11, x12, x13, x14] = some (.nx, [x0, .va (ladD L), x2, x3, .ow (dO (done ++ xs) (abG R)), s5', x6, x7, x8, x9, x10, x11, x12, x13, x14]) ∧ NoVa s5'
  | [], done, s5, _, _, _, h5 => ⟨s5, by rw [List.append_nil]; rfl, h5⟩
  | x :: xs, done, s5, hx, hn, hl, h5 => by
    have hn' : (done ++ [x] ++ xs).Nodup := by rw [List.append_assoc]; exact hn
    have hl' : (done ++ [x] ++ xs).length ≤ 5 := by rw [List.append_assoc]; exact hl
    have hxd : x ∉ done := fun z => (List.nodup_append.mp hn).2.2 x z x List.mem_cons_self rfl
    have hd : done.length ≤ 5 := by rw [List.length_append] at hl; omega
    have hxk := hx x List.mem_cons_self
    have e3 := setO_dO (g := abG R) hxd hd
    have er := law_reach_ok hL hxk (hR.d x hxk).1
    have es := dSort_strs (R x)
    have eg : abG R x = .lst ((srt (R x)).map .str) := rfl
    rw [eg] at e3
    obtain ⟨s5', e, h⟩ := lk_above hL hR (x0 := x0) (x2 := x2) (x3 := x3) (x6 := x6) (x7 := x7) (x8 := x8) (x9 := x9) (x10 := x10) (x11 := x11) (x12 := x12) (x13 := x13) (x14 := x14) (xs := xs) (done := done ++ [x]) (s5 := .va (.str x)) (fun y hy => hx y (List.mem_cons_of_mem _ hy)) hn' hl' (.inr ⟨_, rfl⟩)
    refine ⟨s5', (forF_nx (ρ1 := [x0, .va (ladD L), x2, x3, .ow (dO done (abG R)), .va (.str x), x6, x7, x8, x9, x10, x11, x12, x13, x14]) ?_ ?_).trans (e.trans (by rw [List.append_assoc]; rfl)), h⟩
    · rcases h5 with rfl | ⟨d, rfl⟩ <;> simp
    · generalize dO (done ++ [x]) (abG R) = q1 at e3 ⊢
      generalize dO done (abG R) = q2 at e3 ⊢
      generalize (srt (R x)).map D.str = q3 at e3 es
      generalize (R x).map D.str = q4 at er es
      generalize ladD L = q5 at er ⊢
      simp -implicitDefEqProofs [l1__law_looked, er, es, e3]
theorem in_above (a : Str) {k : Str} : dIn (.str a) (abG R k) = some (.bl (decide (a ∈ R k))) := by
  have := dIn_l a (srt (R k))
  rw [show decide (a ∈ srt (R k)) = decide (a ∈ R k) from decide_eq_decide.mpr srt_mem] at this
  exact this
theorem lk_below (hL : LOk L) {x0 x1 x2 x3 x6 x8 x9 x10 x11 x12 x13 x14 : Sl} {x : Str} : lcF [7] (.nm 7) (mTb (m2 (.n 5) (.e (m2 (.n 4) (.n 7) dIx)) dIn)) (mVar 7) ((keys L).map .str) [] [x0, x1, x2, x3, .ow (dO (keys L) (abG R)), .va (.str x), x6, .no, x8, x9, x10, x11, x12, x13, x14] =
    some (((keys L).filter fun k => decide (x ∈ R k)).map .str, [x0, x1, x2, x3, .ow (dO (keys L) (abG R)), .va (.str x), x6, .no, x8, x9, x10, x11, x12, x13, x14]) := by
  have hLl := hL.len
  refine (lcF_pure (fun d => match d with | .str k => if decide (x ∈ R k) then some (.str k) else none | _ => none) (fun d hd => ?_) ?_).trans ?_
  · obtain ⟨k, hk, rfl⟩ := List.mem_map.mp hd
    have hix := dIx_dO (g := abG R) hk
    have hin := in_above (R := R) x (k := k)
    generalize abG R k = q2 at hix hin
    generalize dO (keys L) (abG R) = q3 at hix ⊢
    refine ⟨[x0, x1, x2, x3, .ow q3, .va (.str x), x6, .va (.str k), x8, x9, x10, x11, x12, x13, x14], decide (x ∈ R k), [x0, x1, x2, x3, .ow q3, .va (.str x), x6, .va (.str k), x8, x9, x10, x11, x12, x13, x14], by simp, ?_, ?_⟩
    · simp -implicitDefEqProofs [hix, hin]
    · by_cases h : x ∈ R k
      · exact .inr ⟨decide_eq_true h, .str k, [x0, x1, x2, x3, .ow q3, .va (.str x), x6, .va (.str k), x8, x9, x10, x11, x12, x13, x14], by simp, by simp [h], by simp [clr]⟩
      · exact .inl ⟨decide_eq_false h, by simp [h], by simp [clr]⟩
  · rw [List.length_map, keys_len, List.length_nil]
    omega
  · rw [List.nil_append, List.filterMap_map]
    congr 2
    exact filterMap_if (fun k => decide (x ∈ R k)) D.str (keys L)
theorem lk_ring (hL : LOk L) {x0 x1 x2 x3 x6 x7 x8 x9 x10 x11 x12 x13 x14 : Sl} : lcF [5] (.nm 5) (mTb (m2 (.n 5) (.e (m2 (.n 4) (.n 5) dIx)) dIn)) (mVar 5) ((keys L).map .str) [] [x0, x1, x2, x3, .ow (dO (keys L) (abG R)), .no, x6, x7, x8, x9, x10, x11, x12, x13, x14] =
    some (((keys L).filter fun k => decide (k ∈ R k)).map .str, [x0, x1, x2, x3, .ow (dO (keys L) (abG R)), .no, x6, x7, x8, x9, x10, x11, x12, x13, x14]) := by
  have hLl := hL.len
  refine (lcF_pure (fun d => match d with | .str k => if decide (k ∈ R k) then some (.str k) else none | _ => none) (fun d hd => ?_) ?_).trans ?_
  · obtain ⟨k, hk, rfl⟩ := List.mem_map.mp hd
    have hix := dIx_dO (g := abG R) hk
    have hin := in_above (R := R) k (k := k)
    generalize abG R k = q2 at hix hin
    generalize dO (keys L) (abG R) = q3 at hix ⊢
    refine ⟨[x0, x1, x2, x3, .ow q3, .va (.str k), x6, x7, x8, x9, x10, x11, x12, x13, x14], decide (k ∈ R k), [x0, x1, x2, x3, .ow q3, .va (.str k), x6, x7, x8, x9, x10, x11, x12, x13, x14], by simp, ?_, ?_⟩
    · simp -implicitDefEqProofs [hix, hin]
    · by_cases h : k ∈ R k
      · exact .inr ⟨decide_eq_true h, .str k, [x0, x1, x2, x3, .ow q3, .va (.str k), x6, x7, x8, x9, x10, x11, x12, x13, x14], by simp, by simp [h], by simp [clr]⟩
      · exact .inl ⟨decide_eq_false h, by simp [h], by simp [clr]⟩
  · rw [List.length_map, keys_len, List.length_nil]
    omega
  · rw [List.nil_append, List.filterMap_map]
    congr 2
    exact filterMap_if (fun k => decide (k ∈ R k)) D.str (keys L)
theorem lk_over (hL : LOk L) (hR : ROk L R) {x0 x2 x3 x6 x9 x10 x11 x12 x13 x14 : Sl} {x : Str} : ∀ {xs : List Str} {s7 s8 : Sl}, (∀ y ∈ xs, y ∈ keys L) → NoVa s7 → NoVa s8 →
    ∃ s7' s8', forF (.nm 7) l2__law_looked (xs.map .str) [x0, .va (ladD L), x2, x3, .ow (dO (keys L) (abG R)), .va (.str x), x6, s7, s8, x9, x10, x11, x12, x13, x14] = some (.nx, [x0, .va (ladD L), x2, x3, .ow (dO (keys L) (abG R)), .va (.str x), x6, s7', s8', x9, x10, x11, x12, x13, x14]) ∧ NoVa s7' ∧ NoVa s8'
  | [], s7, s8, _, h7, h8 => ⟨s7, s8, rfl, h7, h8⟩
  | y :: xs, s7, s8, hx, h7, h8 => by
    have hyk := hx y List.mem_cons_self
    obtain ⟨hd, hl⟩ := hR.d y hyk
    have ec := can_be_over_ok hL (one := x) hyk hd hl
    have hix := dIx_dO (g := abG R) hyk
    have hin := in_above (R := R) x (k := y)
    have hne : dNe (.bl (decide (x ∈ R y))) (.bl (decide (x ∈ R y))) = some (.bl false) := by
      show some (D.bl (!(decide (x ∈ R y) == decide (x ∈ R y)))) = _
      rw [beq_self_eq_true]
      rfl
    have it : dIsi "bool" (.bl (decide (x ∈ R y))) = some (.bl true) := rfl
    obtain ⟨s7', s8', e, h⟩ := lk_over hL hR (x0 := x0) (x2 := x2) (x3 := x3) (x6 := x6) (x9 := x9) (x10 := x10) (x11 := x11) (x12 := x12) (x13 := x13) (x14 := x14) (x := x) (xs := xs) (s7 := .va (.str y)) (s8 := .va (.bl (decide (x ∈ R y)))) (fun z hz => hx z (List.mem_cons_of_mem _ hz)) (.inr ⟨_, rfl⟩) (.inr ⟨_, rfl⟩)
    refine ⟨s7', s8', (forF_nx (ρ1 := [x0, .va (ladD L), x2, x3, .ow (dO (keys L) (abG R)), .va (.str x), x6, .va (.str y), s8, x9, x10, x11, x12, x13, x14]) ?_ ?_).trans e, h⟩
    · rcases h7 with rfl | ⟨d, rfl⟩ <;> simp
    · generalize abG R y = q2 at hix hin
      generalize dO (keys L) (abG R) = q3 at hix ⊢
      generalize ladD L = q5 at ec ⊢
      generalize decide (x ∈ R y) = q6 at ec hin hne it ⊢
      rcases h8 with rfl | ⟨d, rfl⟩ <;> simp -implicitDefEqProofs [l2__law_looked, ec, it, dTru, hix, hin, hne]
theorem lk_kinds (hL : LOk L) (hR : ROk L R) {x0 x2 x9 x10 x11 x12 x13 x14 : Sl} : ∀ {xs : List Str} {s5 s6 s7 s8 : Sl}, (∀ y ∈ xs, y ∈ keys L) → NoVa s5 → NoOw s6 → NoVa s7 → NoVa s8 →
    ∃ s5' s6' s7' s8', forF (.nm 5) l3__law_looked (xs.map .str) [x0, .va (ladD L), x2, .va (.lst ((keys L).map .str)), .ow (dO (keys L) (abG R)), s5, s6, s7, s8, x9, x10, x11, x12, x13, x14] = some (.nx, [x0, .va (ladD L), x2, .va (.lst ((keys L).map .str)), .ow (dO (keys L) (abG R)), s5', s6', s7', s8', x9, x10, x11, x12, x13, x14]) ∧ NoVa s5' ∧ NoOw s6' ∧ NoVa s7' ∧ NoVa s8'
  | [], s5, s6, s7, s8, _, h5, h6, h7, h8 => ⟨s5, s6, s7, s8, rfl, h5, h6, h7, h8⟩
  | x :: xs, s5, s6, s7, s8, hx, h5, h6, h7, h8 => by
    have hxk := hx x List.mem_cons_self
    have hLl := hL.len
    obtain ⟨hd, hl⟩ := hR.d x hxk
    have hbc := lk_below (R := R) hL (x0 := x0) (x1 := .va (ladD L)) (x2 := x2) (x3 := .va (.lst ((keys L).map .str))) (x6 := s6) (x8 := s8) (x9 := x9) (x10 := x10) (x11 := x11) (x12 := x12) (x13 := x13) (x14 := x14) (x := x)
    have ea := kinds_above_ok hL hxk hd hl
    have eb := kinds_below_ok hL (k := x) hR.d
    have hix := dIx_dO (g := abG R) hxk
    have eg : abG R x = .lst ((srt (R x)).map .str) := rfl
    rw [eg] at hix
    have hfl : ((keys L).filter fun k => decide (x ∈ R k)).length ≤ 5 := Nat.le_trans (List.length_filter_le _ _) (by rw [keys_len]; exact hLl)
    have hsl : (srt (R x)).length ≤ 5 := by rw [(srt_perm _).length_eq]; exact hl
    have es := same_ok (x := .tup [.tup ((srt (R x)).map .str), .tup (((keys L).filter fun k => decide (x ∈ R k)).map .str)]) (by simp only [D.pn, pnL]; rw [pn_strs, pn_strs]; rfl) (by simp only [nd, ndL]; rw [nd_strs, nd_strs]; omega)
    obtain ⟨s7a, s8a, eo, h7a, h8a⟩ := lk_over hL hR (x0 := x0) (x2 := x2) (x3 := .va (.lst ((keys L).map .str))) (x6 := .ow (.lst (((keys L).filter fun k => decide (x ∈ R k)).map .str))) (x9 := x9) (x10 := x10) (x11 := x11) (x12 := x12) (x13 := x13) (x14 := x14) (x := x) (xs := keys L) (s7 := s7) (s8 := s8) (fun y h => h) h7 h8
    obtain ⟨s5', s6', s7', s8', e, h⟩ := lk_kinds hL hR (x0 := x0) (x2 := x2) (x9 := x9) (x10 := x10) (x11 := x11) (x12 := x12) (x13 := x13) (x14 := x14) (xs := xs) (s5 := .va (.str x)) (s6 := .ow (.lst (((keys L).filter fun k => decide (x ∈ R k)).map .str))) (s7 := s7a) (s8 := s8a) (fun z hz => hx z (List.mem_cons_of_mem _ hz)) (.inr ⟨_, rfl⟩) (.inr (.inr ⟨_, rfl⟩)) h7a h8a
    refine ⟨s5', s6', s7', s8', (forF_nx (ρ1 := [x0, .va (ladD L), x2, .va (.lst ((keys L).map .str)), .ow (dO (keys L) (abG R)), .va (.str x), s6, s7, s8, x9, x10, x11, x12, x13, x14]) ?_ ?_).trans e, h⟩
    · rcases h5 with rfl | ⟨d, rfl⟩ <;> simp
    · generalize dO (keys L) (abG R) = q3 at hix hbc eo ⊢
      generalize ladD L = q5 at ea eb hbc eo ⊢
      generalize (srt (R x)).map D.str = q6 at ea hix es
      generalize ((keys L).filter fun k => decide (x ∈ R k)).map D.str = q7 at hbc eb es eo ⊢
      generalize (keys L).map D.str = q8 at hbc eo ⊢
      rcases h7 with rfl | ⟨d7, rfl⟩ <;> rcases h6 with rfl | ⟨d6, rfl⟩ | ⟨o6, rfl⟩ <;> simp -implicitDefEqProofs [l3__law_looked, dem, clr, hbc, rst, svd, ea, eb, hix, es, szOk, dTru, eo]
end
end DL

set_option Elab.async false
set_option linter.all false
set_option maxRecDepth 100000
namespace DL
open PySem PySem.Spec PyProof.Rows L2
section
variable {L : List Row} {R : Str → List Str}
theorem lk_bars {v : Vt} (hv : VOk v) {ks : List Str} (hk : ks.length ≤ 5) {x1 x2 x3 x4 x5 x6 x8 x9 x10 x11 x12 x13 x14 : Sl} :
    ∃ (bars : List Str) (v' : Vt), lcF [7] (.nm 7) (mTb (m2 (.e (asV (mCallR 2 f__law_take [.o 0, .v (mC (.int 4))]))) (.e (mC (.int 0))) dEq)) (mVar 7) (ks.map .str) [] [.io v.o, x1, x2, x3, x4, x5, x6, .no, x8, x9, x10, x11, x12, x13, x14] =
      some (bars.map .str, [.io v'.o, x1, x2, x3, x4, x5, x6, .no, x8, x9, x10, x11, x12, x13, x14]) ∧ VOk v' ∧ bars.length ≤ 5 := by
  obtain ⟨acc, ρ', e, bs, v', er, ea, hv', hl⟩ := lcF_idx (ix := [7]) (t := .nm 7) (tt := mTb (m2 (.e (asV (mCallR 2 f__law_take [.o 0, .v (mC (.int 4))]))) (.e (mC (.int 0))) dEq)) (el := mVar 7) (ds := ks.map .str)
    (fun k acc ρ => ∃ (bs : List Str) (v : Vt), ρ = [.io v.o, x1, x2, x3, x4, x5, x6, .no, x8, x9, x10, x11, x12, x13, x14] ∧ acc = bs.map .str ∧ VOk v ∧ bs.length ≤ k)
    (fun k d acc ρ hd ⟨bs, v, er, ea, hv, hl⟩ => by
      subst er ea
      have hlt := (List.getElem?_eq_some_iff.mp hd).1
      rw [List.length_map] at hlt
      rw [List.getElem?_map] at hd
      obtain ⟨x, hx, rfl⟩ := Option.map_eq_some_iff.mp hd
      obtain ⟨r, v', et, h0, h1, hv'⟩ := take_ok hv (many := 4) (by decide) (by decide)
      refine ⟨[.io v.o, x1, x2, x3, x4, x5, x6, .va (.str x), x8, x9, x10, x11, x12, x13, x14], r == 0, [.io v'.o, x1, x2, x3, x4, x5, x6, .va (.str x), x8, x9, x10, x11, x12, x13, x14], by simp, by simp -implicitDefEqProofs [et], ?_⟩
      cases hr : r == 0 with
      | false => exact .inl ⟨rfl, bs, v', by simp [clr], rfl, hv', by omega⟩
      | true => exact .inr ⟨rfl, .str x, [.io v'.o, x1, x2, x3, x4, x5, x6, .va (.str x), x8, x9, x10, x11, x12, x13, x14], by simp, by rw [List.length_map]; omega, bs ++ [x], v', by simp [clr], by rw [List.map_append]; rfl, hv', by rw [List.length_append, List.length_singleton]; omega⟩)
    ⟨[], v, rfl, rfl, hv, Nat.le_refl _⟩
  subst er ea
  rw [List.length_map] at hl
  exact ⟨bs, v', e, hv', by omega⟩
def twoE : List Str := ["", ""]
theorem st_nova {s : Sl} (h : NoVa s) (i : Nat) (x : Sl) (ρ : En) : stS i x ρ (some s) = some (ρ.set i x) := by
  rcases h with rfl | ⟨d, rfl⟩ <;> rfl
theorem str_at {ks : List Str} {r : Int} (h0 : 0 ≤ r) (h1 : r < ks.length) : ∃ k ∈ ks, dAt (ks.map D.str) r = some (.str k) := by
  obtain ⟨j, rfl⟩ := Int.eq_ofNat_of_zero_le h0
  have hj : j < ks.length := by omega
  exact ⟨_, List.getElem_mem hj, dAt_nat (by rw [List.getElem?_map, List.getElem?_eq_getElem hj]; rfl)⟩
theorem ways_same (hL : LOk L) {kind aim : Str} (hk : kind ∈ keys L) {bars : List Str} {n : Nat} (hn : n ≤ 5) :
    f__law_same [.va (.tup ((srtW (foundW L kind aim bars (n + 1))).map stD)), .va (.tup ((srtW (foundW L kind aim bars (n + 1))).map stD))] = some (.va (.bl true), none) := by
  obtain ⟨h1, h2⟩ := found_ok (aim := aim) (bars := bars) hL hk (n + 1)
  have hp : 6 ^ (n + 1) ≤ 6 ^ 6 := Nat.pow_le_pow_right (by decide) (by omega)
  have hp6 : 6 ^ 6 = 46656 := by decide
  have hpm : (srtW (foundW L kind aim bars (n + 1))).Perm (foundW L kind aim bars (n + 1)) := List.mergeSort_perm _ _
  have h3 := nd_ways (n := 5) (ws := srtW (foundW L kind aim bars (n + 1))) fun w hw => by
    have := h2 w (hpm.mem_iff.mp hw)
    omega
  rw [hpm.length_eq] at h3
  exact same_ok (by rw [D.pn]; exact pn_ways _) (by rw [nd]; omega)
theorem lk_lap (hL : LOk L) (hne : L ≠ []) {most : Nat} (hm : most ≤ 5) {v : Vt} (hv : VOk v) {x4 s5 x6 s7 x8 s10 s11 s12 s13 x14 : Sl} {k : D} (h5 : NoVa s5) (h7 : NoVa s7) (h10 : NoVa s10) (h11 : NoVa s11) (h12 : NoVa s12) (h13 : NoVa s13) :
    ∃ (v' : Vt) (d5 d10 d11 d12 d13 : D), l4__law_looked [.io v.o, .va (ladD L), .va (.int most), .va (.lst ((keys L).map .str)), x4, s5, x6, s7, x8, .va k, s10, s11, s12, s13, x14] =
      some (.nx, [.io v'.o, .va (ladD L), .va (.int most), .va (.lst ((keys L).map .str)), x4, .va d5, x6, s7, x8, .va k, .va d10, .va d11, .va d12, .va d13, x14]) ∧ VOk v' := by
  have hLl := hL.len
  have hkl : (keys L).length = L.length := keys_len L
  have hpos : 0 < L.length := List.length_pos_iff.mpr hne
  obtain ⟨r1, v1, e1, a1, b1, hv1⟩ := take_ok hv (many := ((keys L).length : Int)) (by omega) (by omega)
  obtain ⟨kind, hkind, ek⟩ := str_at (ks := keys L) a1 b1
  obtain ⟨r2, v2, e2, a2, b2, hv2⟩ := take_ok hv1 (many := ((keys L).length : Int) + 2) (by omega) (by omega)
  obtain ⟨aim, haim, ea⟩ := str_at (ks := keys L ++ twoE) a2 (by rw [List.length_append]; exact b2)
  obtain ⟨bars, v3, e3, hv3, hb3⟩ := lk_bars hv2 (ks := keys L) (by omega) (x1 := .va (ladD L)) (x2 := .va (.int most)) (x3 := .va (.lst ((keys L).map .str))) (x4 := x4) (x5 := .va (.str kind)) (x6 := x6) (x8 := x8) (x9 := .va k) (x10 := .va (.str aim)) (x11 := s11) (x12 := s12) (x13 := s13) (x14 := x14)
  obtain ⟨r4, v4, e4, a4, b4, hv4⟩ := take_ok hv3 (many := (most : Int) + 1) (by omega) (by omega)
  obtain ⟨n, rfl⟩ := Int.eq_ofNat_of_zero_le a4
  have hn : n ≤ 5 := by omega
  have ew := ways_of_ok (aim := aim) (bars := bars) hL hkind hn
  have elw := law_ways_ok (aim := aim) (bars := bars) hL hkind hn
  have es := ways_same (aim := aim) (bars := bars) hL hkind hn
  obtain ⟨r5, v5, e5, a5, b5, hv5⟩ := take_ok hv4 (many := 7) (by decide) (by decide)
  obtain ⟨r6, v6, e6, a6, b6, hv6⟩ := take_ok hv5 (many := 101) (by decide) (by decide)
  obtain ⟨r7, v7, e7, a7, b7, hv7⟩ := take_ok hv6 (many := 3) (by decide) (by decide)
  have hmany : ∃ m : Nat, m ≤ 100 ∧ dAt [D.int r5, D.int r6, D.int 100] r7 = some (.int (m : Int)) := by
    have : r7 = 0 ∨ r7 = 1 ∨ r7 = 2 := by omega
    rcases this with rfl | rfl | rfl
    · obtain ⟨m, rfl⟩ := Int.eq_ofNat_of_zero_le a5
      exact ⟨m, by omega, dAt0⟩
    · obtain ⟨m, rfl⟩ := Int.eq_ofNat_of_zero_le a6
      exact ⟨m, by omega, dAt1⟩
    · exact ⟨100, by decide, dAt2⟩
  obtain ⟨m, hm100, em⟩ := hmany
  have ec := way_count_ok (kind := kind) (aim := aim) hL (many := m) (by omega)
  have elc := law_many_ok (kind := kind) (aim := aim) hL (many := m) (by omega)
  have esc := same_ok (x := .int (lapC L (cntC L kind m) aim)) rfl (by simp [nd])
  have hcat : dCat (.lst ((keys L).map D.str)) (.lst [.str "", .str ""]) = some (.lst ((keys L ++ twoE).map D.str)) := by
    rw [dCat_ok (by rw [List.length_map, hkl]; show L.length + 2 ≤ _; omega), List.map_append]
    rfl
  refine ⟨v7, .str kind, .str aim, stD bars, .int n, .int m, ?_, hv7⟩
  have hlen : (((keys L).map D.str).length : Int) = (keys L).length := by rw [List.length_map]
  have hbt : dTuple (.lst (bars.map D.str)) = some (stD bars) := rfl
  have hn' : (Int.ofNat n) = (n : Int) := rfl
  generalize (srtW (foundW L kind aim bars (n + 1))).map stD = q1 at ew elw es
  generalize lapC L (cntC L kind m) aim = q2 at ec elc esc
  generalize (keys L ++ twoE).map D.str = q3 at hcat ea
  generalize (keys L).map D.str = q4 at ek e3 hcat hlen ⊢
  generalize ladD L = q5 at e3 ew elw ec elc ⊢
  generalize bars.map D.str = q6 at e3 hbt
  generalize stD bars = q7 at ew elw hbt ⊢
  rcases h7 with rfl | ⟨d7, rfl⟩ <;>
  simp -implicitDefEqProofs [st_nova h5, st_nova h10, st_nova h11, st_nova h12, st_nova h13, l4__law_looked, hlen, e1, ek, szOk, hcat, e2, ea, dem, clr, e3, rst, svd, hbt, e4, ew, elw, es, dTru, e5, e6, e7, em, ec, elc, esc]
end
end DL

set_option Elab.async false
set_option linter.all false
set_option maxRecDepth 100000
namespace DL
open PySem PySem.Spec PyProof.Rows L2
section
variable {L : List Row}
theorem lk_start (hl : L.length ≤ 5) {x0 x1 x2 : Sl} : lcF [5, 14] (.tup [.nm 5, .nm 14]) (ret true) (mVar 5) (L.map rowD) [] [x0, x1, x2, .no, .no, .no, .no, .no, .no, .no, .no, .no, .no, .no, .no] = some ((keys L).map .str, [x0, x1, x2, .no, .no, .no, .no, .no, .no, .no, .no, .no, .no, .no, .no]) := by
  refine (lcF_pure (fun d => match d with | .tup [x, _] => some x | _ => none) (fun d hd => ?_) ?_).trans ?_
  · obtain ⟨r, _, rfl⟩ := List.mem_map.mp hd
    refine ⟨[x0, x1, x2, .no, .no, .va (.str r.1), .no, .no, .no, .no, .no, .no, .no, .no, .va (stD r.2)], true, _, by simp [rowD], rfl, .inr ⟨rfl, .str r.1, [x0, x1, x2, .no, .no, .va (.str r.1), .no, .no, .no, .no, .no, .no, .no, .no, .va (stD r.2)], by simp, rfl, by simp [clr]⟩⟩
  · rw [List.length_map, List.length_nil]
    omega
  · rw [List.nil_append, List.filterMap_map, keys, List.map_map]
    congr 2
    rw [← List.filterMap_eq_map]
    rfl
theorem looked_ok (hL : LOk L) (hne : L ≠ []) {most : Nat} (hm : most ≤ 5) {v : Vt} (hv : VOk v) :
    ∃ v' : Vt, f__law_looked [.io v.o, .va (ladD L), .va (.int most)] = some (.va (.bl true), some v'.o) ∧ VOk v' := by
  have hLl := hL.len
  have hkl : (keys L).length ≤ 5 := by rw [keys_len]; exact hLl
  obtain ⟨R, hR⟩ := reach_all hL
  have h1 := lk_start hLl (x0 := .io v.o) (x1 := .va (ladD L)) (x2 := .va (.int most))
  obtain ⟨s5, h2, g5⟩ := lk_above hL hR (x0 := .io v.o) (x2 := .va (.int most)) (x3 := .va (.lst ((keys L).map .str))) (x6 := .no) (x7 := .no) (x8 := .no) (x9 := .no) (x10 := .no) (x11 := .no) (x12 := .no) (x13 := .no) (x14 := .no) (xs := keys L) (done := []) (s5 := .no) (fun x h => h) (by rw [List.nil_append]; exact hL.nd) (by rw [List.nil_append]; exact hkl) (.inl rfl)
  rw [List.nil_append] at h2
  have h2 : forF (.nm 5) l1__law_looked ((keys L).map .str) [.io v.o, .va (ladD L), .va (.int most), .va (.lst ((keys L).map .str)), .ow (.dct [] []), .no, .no, .no, .no, .no, .no, .no, .no, .no, .no] = _ := h2
  obtain ⟨s5', s6', s7', s8', h3, g5', g6', g7', g8'⟩ := lk_kinds hL hR (x0 := .io v.o) (x2 := .va (.int most)) (x9 := .no) (x10 := .no) (x11 := .no) (x12 := .no) (x13 := .no) (x14 := .no) (xs := keys L) (s5 := s5) (s6 := .no) (s7 := .no) (s8 := .no) (fun x h => h) g5 (.inl rfl) (.inl rfl) (.inl rfl)
  have h4 := lk_ring (R := R) hL (x0 := .io v.o) (x1 := .va (ladD L)) (x2 := .va (.int most)) (x3 := .va (.lst ((keys L).map .str))) (x6 := s6') (x7 := s7') (x8 := s8') (x9 := .no) (x10 := .no) (x11 := .no) (x12 := .no) (x13 := .no) (x14 := .no)
  have er := ring_kinds_ok hL hR.d
  have hfl : ((keys L).filter fun k => decide (k ∈ R k)).length ≤ 5 := Nat.le_trans (List.length_filter_le _ _) hkl
  have es := same_ok (x := .tup (((keys L).filter fun k => decide (k ∈ R k)).map .str)) (by rw [D.pn]; exact pn_strs _) (by rw [nd, nd_strs]; omega)
  obtain ⟨ρ', h5, v', t5, s9, t10, t11, t12, t13, er5, f5, f9, f10, f11, f12, f13, hv'⟩ := forF_rng (t := .nm 9) (b := l4__law_looked) (n := 3)
    (fun k ρ => ∃ (v : Vt) (s5 s9 s10 s11 s12 s13 : Sl), ρ = [.io v.o, .va (ladD L), .va (.int most), .va (.lst ((keys L).map .str)), .ow (dO (keys L) (abG R)), s5, s6', s7', s8', s9, s10, s11, s12, s13, .no] ∧ NoVa s5 ∧ NoVa s9 ∧ NoVa s10 ∧ NoVa s11 ∧ NoVa s12 ∧ NoVa s13 ∧ VOk v)
    (fun k ρ hk ⟨v, s5, s9, s10, s11, s12, s13, er, f5, f9, f10, f11, f12, f13, hv⟩ => by
      subst er
      obtain ⟨v', d5, d10, d11, d12, d13, e, hv'⟩ := lk_lap hL hne hm hv (x4 := .ow (dO (keys L) (abG R))) (x6 := s6') (x8 := s8') (x14 := .no) (k := .int k) f5 g7' f10 f11 f12 f13
      refine ⟨_, .nx, _, ?_, e, .inl rfl, v', _, _, _, _, _, _, rfl, .inr ⟨_, rfl⟩, .inr ⟨_, rfl⟩, .inr ⟨_, rfl⟩, .inr ⟨_, rfl⟩, .inr ⟨_, rfl⟩, .inr ⟨_, rfl⟩, hv'⟩
      rcases f9 with rfl | ⟨d, rfl⟩ <;> simp)
    ⟨v, s5', .no, .no, .no, .no, .no, rfl, g5', .inl rfl, .inl rfl, .inl rfl, .inl rfl, .inl rfl, hv⟩
  subst er5
  refine ⟨v', ?_, hv'⟩
  have hi : itemsOf (ladD L) = some (L.map rowD) := rfl
  have hr : rng1 [.int 3] = some (rngD 0 3) := rfl
  have hio : ioIx [.io v.o, .va (ladD L), .va (.int (most : Int))] = some 0 := rfl
  generalize ((keys L).filter fun k => decide (k ∈ R k)).map D.str = q1 at h4 er es
  generalize dO (keys L) (abG R) = q2 at h2 h3 h4 h5
  generalize (keys L).map D.str = q3 at h1 h2 h3 h4 h5
  generalize L.map rowD = q4 at h1 hi
  generalize ladD L = q5 at h1 h2 h3 h4 h5 hi er hio ⊢
  generalize rngD 0 3 = q6 at h5 hr
  rcases g5' with rfl | ⟨d5, rfl⟩ <;> simp -implicitDefEqProofs [f__law_looked, m__law_looked, hi, dem, clr, h1, rst, svd, h2, h3, h4, er, es, dTru, hr, h5, ioOut_some hio]
end
/-! ### the named ladder -/
def rungs : List Row := [("chief", [""]), ("lead", ["chief", "lead"]), ("staff", ["lead"])]
theorem rungs_ok : LOk rungs := ⟨by decide +kernel, by decide +kernel, by decide +kernel, by decide +kernel, by decide⟩
end DL

set_option Elab.async false
set_option linter.all false
set_option maxRecDepth 100000
namespace DL
open PySem PySem.Spec PyProof.Rows L2
theorem srt_eq {xs ys : List Str} (hp : ys.Perm xs) (hs : sortedS ys = true) : srt xs = ys := by
  have h := sort_strs hp hs
  rw [srt_map] at h
  have inj : ∀ {a b : List Str}, a.map D.str = b.map D.str → a = b := by
    intro a
    induction a with
    | nil => intro b h; cases b with
      | nil => rfl
      | cons _ _ => cases h
    | cons x a ih => intro b h; cases b with
      | nil => cases h
      | cons y b =>
        rw [List.map_cons, List.map_cons] at h
        obtain ⟨h1, h2⟩ := List.cons.inj h
        cases h1
        rw [ih h2]
  exact (inj h).symm
theorem srtW_eq {ws : List (List Str)} (h : ws.Pairwise fun a b => leD (stD a) (stD b) = true) : srtW ws = ws := List.mergeSort_of_pairwise h
abbrev cE : Str := ""
abbrev cC : Str := "chief"
abbrev cL : Str := "lead"
abbrev cS : Str := "staff"
def RU : Str → List Str := fun x => if x = cL then [cC, cL] else if x = cS then [cL, cC] else []
theorem keys_rungs : keys rungs = [cC, cL, cS] := rfl
theorem dfs_chief : Dfs rungs ([], [cC]) [] := .step [] [] cC [cE] [] (by decide +kernel) (by
  rw [show [cE].foldl vis ([], []) = ([], []) by decide +kernel]
  exact .nil [])
theorem dfs_lead : Dfs rungs ([], [cL]) [cC, cL] := .step [] [] cL [cC, cL] _ (by decide +kernel) (by
  rw [show [cC, cL].foldl vis ([], []) = ([cC, cL], [cC] ++ [cL]) by decide +kernel]
  refine .step _ [cC] cL [cC, cL] _ (by decide +kernel) ?_
  rw [show [cC, cL].foldl vis ([cC, cL], [cC]) = ([cC, cL], [] ++ [cC]) by decide +kernel]
  refine .step _ [] cC [cE] _ (by decide +kernel) ?_
  rw [show [cE].foldl vis ([cC, cL], []) = ([cC, cL], []) by decide +kernel]
  exact .nil _)
theorem dfs_staff : Dfs rungs ([], [cS]) [cL, cC] := .step [] [] cS [cL] _ (by decide +kernel) (by
  rw [show [cL].foldl vis ([], []) = ([cL], [] ++ [cL]) by decide +kernel]
  refine .step _ [] cL [cC, cL] _ (by decide +kernel) ?_
  rw [show [cC, cL].foldl vis ([cL], []) = ([cL, cC], [] ++ [cC]) by decide +kernel]
  refine .step _ [] cC [cE] _ (by decide +kernel) ?_
  rw [show [cE].foldl vis ([cL, cC], []) = ([cL, cC], []) by decide +kernel]
  exact .nil _)
theorem ru_ok : ∀ x ∈ keys rungs, Dfs rungs ([], [x]) (RU x) ∧ (RU x).length ≤ 5 := by
  intro x hx
  rw [keys_rungs] at hx
  rcases List.mem_cons.mp hx with rfl | hx
  · exact ⟨dfs_chief, by decide⟩
  · rcases List.mem_cons.mp hx with rfl | hx
    · exact ⟨dfs_lead, by decide⟩
    · rcases List.mem_cons.mp hx with rfl | hx
      · exact ⟨dfs_staff, by decide⟩
      · cases hx
theorem mem_chief : cC ∈ keys rungs := by decide +kernel
theorem mem_lead : cL ∈ keys rungs := by decide +kernel
theorem mem_staff : cS ∈ keys rungs := by decide +kernel
theorem n_above : f_kinds_above [.va (ladD rungs), .va (.str cS)] = some (.va (.tup [.str cC, .str cL]), none) := by
  rw [kinds_above_ok rungs_ok mem_staff dfs_staff (by decide), srt_eq (ys := [cC, cL]) (by decide +kernel) (by decide +kernel)]
  rfl
theorem n_below : f_kinds_below [.va (ladD rungs), .va (.str cL)] = some (.va (.tup [.str cL, .str cS]), none) := by
  rw [kinds_below_ok rungs_ok ru_ok, show (keys rungs).filter (fun x => decide (cL ∈ RU x)) = [cL, cS] by decide +kernel]
  rfl
theorem n_ring : f_ring_kinds [.va (ladD rungs)] = some (.va (.tup [.str cL]), none) := by
  rw [ring_kinds_ok rungs_ok ru_ok, show (keys rungs).filter (fun x => decide (x ∈ RU x)) = [cL] by decide +kernel]
  rfl
theorem n_over1 : f_can_be_over [.va (ladD rungs), .va (.str cC), .va (.str cS)] = some (.va (.bl true), none) := by
  rw [can_be_over_ok rungs_ok mem_staff dfs_staff (by decide), show decide (cC ∈ [cL, cC]) = true by decide +kernel]
theorem n_over2 : f_can_be_over [.va (ladD rungs), .va (.str cC), .va (.str cC)] = some (.va (.bl false), none) := by
  rw [can_be_over_ok rungs_ok mem_chief dfs_chief (by decide)]
  rfl
theorem lap_chief (c : Str → Int) : lapC rungs c cC = c cL := by
  unfold lapC
  rw [show (keys rungs).filter (fun one => decide (cC ∈ bsO rungs one)) = [cL] by decide +kernel]
  simp
theorem lap_lead (c : Str → Int) : lapC rungs c cL = c cL + c cS := by
  unfold lapC
  rw [show (keys rungs).filter (fun one => decide (cL ∈ bsO rungs one)) = [cL, cS] by decide +kernel]
  simp
theorem lap_staff (c : Str → Int) : lapC rungs c cS = 0 := by
  unfold lapC
  rw [show (keys rungs).filter (fun one => decide (cS ∈ bsO rungs one)) = [] by decide +kernel]
  simp
theorem lap_empty (c : Str → Int) : lapC rungs c cE = c cC := by
  unfold lapC
  rw [show (keys rungs).filter (fun one => decide (cE ∈ bsO rungs one)) = [cC] by decide +kernel]
  simp
theorem cnt_staff : ∀ n, cntC rungs cS n cC = (if 1 < n then 1 else 0) ∧ cntC rungs cS n cL = (if 0 < n then 1 else 0) ∧ cntC rungs cS n cS = (if n = 0 then 1 else 0)
  | 0 => ⟨by decide +kernel, by decide +kernel, by decide +kernel⟩
  | n + 1 => by
    obtain ⟨h1, h2, h3⟩ := cnt_staff n
    unfold cntC
    rw [lap_chief, lap_lead, lap_staff, h2, h3]
    refine ⟨?_, ?_, ?_⟩
    · by_cases h : 0 < n
      · rw [if_pos h, if_pos (by omega)]
      · rw [if_neg h, if_neg (by omega)]
    · by_cases h : n = 0
      · subst h; rfl
      · rw [if_pos (by omega), if_neg h, if_pos (by omega)]; rfl
    · rw [if_neg (by omega)]
theorem cnt_chief : ∀ n, cntC rungs cC n cC = (if n = 0 then 1 else 0) ∧ cntC rungs cC n cL = 0 ∧ cntC rungs cC n cS = 0
  | 0 => ⟨by decide +kernel, by decide +kernel, by decide +kernel⟩
  | n + 1 => by
    obtain ⟨h1, h2, h3⟩ := cnt_chief n
    unfold cntC
    rw [lap_chief, lap_lead, lap_staff, h2, h3]
    exact ⟨by rw [if_neg (by omega)], by rfl, rfl⟩
theorem n_many1 {m : Nat} (hm : m ≤ 100) : f_way_count [.va (ladD rungs), .va (.str cS), .va (.str cE), .va (.int m)] = some (.va (.int (if 1 < m then 1 else 0)), none) := by
  rw [way_count_ok rungs_ok (by omega), lap_empty, (cnt_staff m).1]
theorem n_many2 {m : Nat} (hm : m ≤ 100) : f_way_count [.va (ladD rungs), .va (.str cC), .va (.str cE), .va (.int m)] = some (.va (.int (if m = 0 then 1 else 0)), none) := by
  rw [way_count_ok rungs_ok (by omega), lap_empty, (cnt_chief m).1]
theorem n_ways1 : f_ways_of [.va (ladD rungs), .va (.str cS), .va (.str cE), .va (.tup []), .va (.int 3)] = some (.va (.tup [.tup [.str cL, .str cC], .tup [.str cL, .str cL, .str cC]]), none) := by
  have h := ways_of_ok (aim := cE) (bars := []) rungs_ok mem_staff (most := 3) (by decide)
  rw [show foundW rungs cS cE [] (3 + 1) = [[cL, cC], [cL, cL, cC]] by decide +kernel, srtW_eq (by decide +kernel)] at h
  exact h
theorem n_ways2 : f_ways_of [.va (ladD rungs), .va (.str cS), .va (.str cL), .va (.tup []), .va (.int 0)] = some (.va (.tup [.tup []]), none) := by
  have h := ways_of_ok (aim := cL) (bars := []) rungs_ok mem_staff (most := 0) (by decide)
  rw [show foundW rungs cS cL [] (0 + 1) = [[]] by decide +kernel, srtW_eq (by decide +kernel)] at h
  exact h
theorem n_ways3 : f_ways_of [.va (ladD rungs), .va (.str cS), .va (.str cC), .va (.tup [.str cL]), .va (.int 5)] = some (.va (.tup []), none) := by
  have h := ways_of_ok (aim := cC) (bars := [cL]) rungs_ok mem_staff (most := 5) (by decide)
  rw [show foundW rungs cS cC [cL] (5 + 1) = [] by decide +kernel, srtW_eq (by decide +kernel)] at h
  exact h
/-! ### two kinds, each over both -/
def both (p q : Str) : List Row := [(p, [cE, p, q]), (q, [cE, p, q])]
section
variable {p q : Str}
theorem both_ok (h : p ≠ q) (hp : p ≠ cE) (hq : q ≠ cE) : LOk (both p q) := by
  refine ⟨?_, ?_, fun r hr b hb => ?_, fun r hr => ?_, by show 2 ≤ 5; decide⟩
  · show [p, q].Nodup
    simp [h]
  · show cE ∉ [p, q]
    simp [hp.symm, hq.symm]
  · show b = cE ∨ b ∈ [p, q]
    have hr : r.2 = [cE, p, q] := by
      rcases List.mem_cons.mp hr with rfl | hr
      · rfl
      · rw [List.mem_singleton.mp hr]
    rw [hr] at hb
    rcases List.mem_cons.mp hb with rfl | hb
    · exact .inl rfl
    · exact .inr hb
  · have hr : r.2 = [cE, p, q] := by
      rcases List.mem_cons.mp hr with rfl | hr
      · rfl
      · rw [List.mem_singleton.mp hr]
    rw [hr]
    simp [h, hp.symm, hq.symm]
theorem bo_p : bo (both p q) p = some [cE, p, q] := by simp [both, bo]
theorem bo_q : bo (both p q) q = some [cE, p, q] := by simp [both, bo]
theorem both_lap (c : Str → Int) {k : Str} (hk : k = cE ∨ k = p ∨ k = q) : lapC (both p q) c k = c p + c q := by
  unfold lapC
  have h1 : bsO (both p q) p = [cE, p, q] := by unfold bsO; rw [bo_p]; rfl
  have h2 : bsO (both p q) q = [cE, p, q] := by unfold bsO; rw [bo_q]; rfl
  have hm : k ∈ [cE, p, q] := by
    rcases hk with rfl | rfl | rfl <;> simp
  have hkeys : keys (both p q) = [p, q] := rfl
  rw [hkeys, List.filter_cons, List.filter_cons, List.filter_nil, h1, h2, decide_eq_true hm]
  simp
theorem both_cnt (h : p ≠ q) : ∀ n, cntC (both p q) p n p + cntC (both p q) p n q = 2 ^ n
  | 0 => by
    unfold cntC
    rw [if_pos rfl, if_neg h.symm]
    rfl
  | n + 1 => by
    have ih := both_cnt h n
    unfold cntC
    rw [both_lap _ (.inr (.inl rfl)), both_lap _ (.inr (.inr rfl)), ih, Int.pow_succ]
    omega
theorem n_both1 (h : p ≠ q) (hp : p ≠ cE) (hq : q ≠ cE) {m : Nat} (hm : m ≤ 100) : f_way_count [.va (ladD (both p q)), .va (.str p), .va (.str cE), .va (.int m)] = some (.va (.int (2 ^ m)), none) := by
  rw [way_count_ok (both_ok h hp hq) (by omega), both_lap _ (.inl rfl), both_cnt h]
theorem le_nil (w : List Str) : leD (stD []) (stD w) = true := by
  cases w with
  | nil => rfl
  | cons x w => rfl
theorem le_pp : leD (stD [p]) (stD [p, p]) = true := by
  show (!PyProof.Rows.lexLt PyProof.Rows.itemOrd (PySem.W.keyToks (stD [p, p]).py) (PySem.W.keyToks (stD [p]).py)) = true
  rw [stD, stD, py_tup, py_tup]
  simp only [List.map_cons, List.map_nil, py_cons, py_nil, py_str, PySem.W.keyToks, PySem.W.keyToksAll, List.cons_append, List.nil_append, PyProof.Rows.lexLt, PyProof.Rows.itemOrd, PyProof.Rows.itemLt]
  simp [List.lt_irrefl]
theorem n_both2 (h : p ≠ q) (hp : p ≠ cE) (hq : q ≠ cE) : f_ways_of [.va (ladD (both p q)), .va (.str q), .va (.str q), .va (.tup [.str q]), .va (.int 2)] = some (.va (.tup [.tup [], .tup [.str p], .tup [.str p, .str p]]), none) := by
  have h0 := ways_of_ok (aim := q) (bars := [q]) (both_ok h hp hq) (kind := q) (show q ∈ [p, q] by simp) (most := 2) (by decide)
  have b1 : bsW (both p q) q [] = [cE, p, q] := by unfold bsW lastW; rw [List.getLast?_nil, Option.getD_none, bo_q]; rfl
  have b2 : ∀ w, bsW (both p q) q (w ++ [p]) = [cE, p, q] := fun w => by unfold bsW; rw [last_app, bo_p]; rfl
  have hg : ([cE, p, q].filter (goB [q])) = [p] := by
    simp [goB, hp, h, hq]
  have l1 : layW (both p q) q [q] 1 = [[p]] := by
    show [[]].flatMap (extW (both p q) q [q]) = _
    simp [extW, b1, hg]
  have l2 : layW (both p q) q [q] 2 = [[p, p]] := by
    show (layW (both p q) q [q] 1).flatMap (extW (both p q) q [q]) = _
    have b3 := b2 []
    rw [List.nil_append] at b3
    rw [l1]
    simp [extW, b3, hg]
  have hf : foundW (both p q) q q [q] (2 + 1) = [[], [p], [p, p]] := by
    show (([] ++ [[]].filter (hitW (both p q) q q)) ++ (layW (both p q) q [q] 1).filter (hitW (both p q) q q)) ++ (layW (both p q) q [q] 2).filter (hitW (both p q) q q) = _
    have b3 := b2 []
    have b4 := b2 [p]
    rw [List.nil_append] at b3
    have b4 : bsW (both p q) q [p, p] = [cE, p, q] := b4
    rw [l1, l2]
    simp [hitW, b1, b3, b4]
  rw [hf, srtW_eq (by
    refine .cons (fun w _ => le_nil w) (.cons (fun w hw => ?_) (.cons (fun w hw => by cases hw) .nil))
    rw [List.mem_singleton] at hw
    rw [hw]
    exact le_pp)] at h0
  exact h0
end
end DL

set_option Elab.async false
set_option linter.all false
set_option maxRecDepth 100000
namespace DL
open PySem PySem.Spec PyProof.Rows L2
@[simp] theorem ev_callK {n : Nat} {fm : Fm} {as ks : List Ar} {pm : List Nat} {ρ : En} : mCallK n fm as ks pm ρ = (aR as ρ).bind fun p => (aR ks p.2).bind fun q => callF n fm (permG pm (p.1 ++ q.1)) q.2 := by
  unfold mCallK
  cases aR as ρ with
  | none => rfl
  | some p =>
    obtain ⟨xs, ρ1⟩ := p
    dsimp only [Option.bind]
    cases aR ks ρ1 <;> rfl
theorem full_comp {ks : List Str} (hk : ks.length ≤ 5) {x0 x1 x2 x4 : Sl} : lcF [5] (.nm 5) (ret true) (mTup (mCons (mVar 5) (mCons (m2 (.e (mTup (mCons (mC (.str "")) mNil))) (.e (m1 (.n 3) dTuple)) dAdd) mNil))) (ks.map .str) [] [x0, x1, x2, .va (.lst (ks.map .str)), x4, .no] =
    some ((ks.map fun k => (k, cE :: ks)).map rowD, [x0, x1, x2, .va (.lst (ks.map .str)), x4, .no]) := by
  have hadd : dAdd (.tup [.str ""]) (.tup (ks.map .str)) = some (stD (cE :: ks)) := by
    show (if 1 + (ks.map D.str).length ≤ 16777216 then some (D.tup ([.str ""] ++ ks.map .str)) else none) = _
    rw [if_pos (by rw [List.length_map]; omega)]
    rfl
  refine (lcF_pure (fun d => match d with | .str k => some (rowD (k, cE :: ks)) | _ => none) (fun d hd => ?_) ?_).trans ?_
  · obtain ⟨k, _, rfl⟩ := List.mem_map.mp hd
    refine ⟨[x0, x1, x2, .va (.lst (ks.map .str)), x4, .va (.str k)], true, _, by simp, rfl, .inr ⟨rfl, rowD (k, cE :: ks), [x0, x1, x2, .va (.lst (ks.map .str)), x4, .va (.str k)], ?_, rfl, by simp [clr]⟩⟩
    generalize ks.map D.str = q at hadd
    simp -implicitDefEqProofs [szOk, hadd, rowD]
  · rw [List.length_map, List.length_nil]
    omega
  · rw [List.nil_append, List.filterMap_map, List.map_map]
    congr 2
    rw [← List.filterMap_eq_map]
    rfl
theorem mod_and {x y : D} : True := trivial
theorem named_ok {v : Vt} (hv : VOk v) : ∃ v' : Vt, f__law_named [.io v.o] = some (.va (.bl true), some v'.o) ∧ VOk v' := by
  obtain ⟨r, v1, e1, a1, b1, hv1⟩ := take_ok hv (many := 101) (by decide) (by decide)
  obtain ⟨m, rfl⟩ := Int.eq_ofNat_of_zero_le a1
  have hm : m ≤ 100 := by omega
  obtain ⟨ws, v2, ew, hnd, hwl, hne, hv2⟩ := words_ok hv1 (many := 2) (by decide)
  obtain ⟨p, q, rfl⟩ : ∃ p q, ws = [p, q] := by
    match ws, hwl with
    | [p, q], _ => exact ⟨p, q, rfl⟩
  have hpq : p ≠ q := by simpa using hnd
  have hp : p ≠ "" := fun z => hne (by rw [z]; exact List.mem_cons_self)
  have hq : q ≠ "" := fun z => hne (by rw [z]; exact List.mem_cons_of_mem _ (List.mem_singleton_self _))
  refine ⟨v2, ?_, hv2⟩
  have hl : D.tup [.tup [.str "chief", .tup [.str ""]], .tup [.str "lead", .tup [.str "chief", .str "lead"]], .tup [.str "staff", .tup [.str "lead"]]] = ladD rungs := rfl
  have s1 := same_ok (x := .tup [.tup [.str "chief", .str "lead"], .tup [.str "lead", .str "staff"], .tup [.str "lead"]]) (by simp [D.pn, pnL]) (by simp [nd, ndL])
  have s2 := same_ok (x := .int (if 1 < m then 1 else 0)) rfl (by simp [nd])
  have s3 := same_ok (x := .int (if m = 0 then 1 else 0)) rfl (by simp [nd])
  have s4 := same_ok (x := .tup [.tup [.str "lead", .str "chief"], .tup [.str "lead", .str "lead", .str "chief"]]) (by simp [D.pn, pnL]) (by simp [nd, ndL])
  have s5 := same_ok (x := .tup [.tup []]) (by simp [D.pn, pnL]) (by simp [nd, ndL])
  have s6 := same_ok (x := .tup []) (by simp [D.pn, pnL]) (by simp [nd, ndL])
  have s7 := same_ok (x := .int (2 ^ m)) rfl (by simp [nd])
  have s8 := same_ok (x := .tup [.tup [], .tup [.str p], .tup [.str p, .str p]]) (by simp [D.pn, pnL]) (by simp [nd, ndL])
  have w1 := n_many1 hm
  have w2 := n_many2 hm
  have i1 : dInt (.bl (decide ((1 : Int) < (m : Int)))) = some (.int (if 1 < m then 1 else 0)) := by
    show some (D.int (if decide ((1 : Int) < (m : Int)) = true then 1 else 0)) = _
    by_cases h : 1 < m
    · rw [if_pos h, if_pos (by rw [decide_eq_true_eq]; omega)]
    · rw [if_neg h, if_neg (by rw [decide_eq_true_eq]; omega)]
  have i2 : dInt (.bl ((m : Int) == 0)) = some (.int (if m = 0 then 1 else 0)) := by
    show some (D.int (if ((m : Int) == 0) = true then 1 else 0)) = _
    by_cases h : m = 0
    · rw [if_pos h, if_pos (by rw [beq_iff_eq]; omega)]
    · rw [if_neg h, if_neg (by rw [beq_iff_eq]; omega)]
  have sh : dShl (.int 1) (.int (m : Int)) = some (.int (2 ^ m)) := by
    show (if (0 : Int) ≤ (m : Int) ∧ (m : Int) ≤ 1000000 ∧ (1 : Int).natAbs < 18446744073709551616 then some (D.int (1 * 2 ^ (m : Int).toNat)) else none) = _
    rw [if_pos ⟨by omega, by omega, by decide⟩, Int.one_mul, Int.toNat_natCast]
  have t1 := n_both1 hpq hp hq hm
  have t2 := n_both2 hpq hp hq
  have hc := full_comp (ks := [p, q]) (show 2 ≤ 5 by decide) (x0 := .io v2.o) (x1 := .va (ladD rungs)) (x2 := .va (.int (m : Int))) (x4 := .no)
  have hc : lcF [5] (.nm 5) (ret true) (mTup (mCons (mVar 5) (mCons (m2 (.e (mTup (mCons (mC (.str "")) mNil))) (.e (m1 (.n 3) dTuple)) dAdd) mNil))) [.str p, .str q] [] [.io v2.o, .va (ladD rungs), .va (.int (m : Int)), .va (.lst [.str p, .str q]), .no, .no] = some ((both p q).map rowD, [.io v2.o, .va (ladD rungs), .va (.int (m : Int)), .va (.lst [.str p, .str q]), .no, .no]) := hc
  have htu : dTuple (.lst ((both p q).map rowD)) = some (ladD (both p q)) := rfl
  have nb1 : dNotB (.bl true) (.bl true) = some (.bl false) := rfl
  have nb2 : dNotB (.bl false) (.bl false) = some (.bl false) := rfl
  have na := n_above
  have nb := n_below
  have nr := n_ring
  have no1 := n_over1
  have no2 := n_over2
  have nw1 := n_ways1
  have nw2 := n_ways2
  have nw3 := n_ways3
  generalize ladD rungs = L1 at hl hc na nb nr no1 no2 nw1 nw2 nw3 w1 w2
  generalize (both p q).map rowD = L2 at hc htu
  generalize ladD (both p q) = L3 at htu t1 t2
  generalize (if 1 < m then (1 : Int) else 0) = g1 at s2 w1 i1
  generalize (if m = 0 then (1 : Int) else 0) = g2 at s3 w2 i2
  generalize (2 : Int) ^ m = g3 at s7 sh t1
  have hio : ioIx [.io v.o] = some 0 := rfl
  have ew : f__law_words [.io v1.o, .va (.int 2)] = some (.ow (.lst [.str p, .str q]), some v2.o) := ew
  generalize hgt : decide ((1 : Int) < (m : Int)) = g4 at i1
  generalize hge : ((m : Int) == 0) = g5 at i2
  simp -implicitDefEqProofs [f__law_named, m__law_named, szOk, hl, permG, na, nb, nr, s1, dTru, no1, no2, nb1, nb2, e1, w1, w2, hgt, hge, i1, i2, s2, s3, nw1, nw2, nw3, s4, s5, s6, ew, dem, clr, hc, rst, svd, htu, t1, t2, sh, s7, s8, ioOut_some hio]
end DL

set_option Elab.async false
set_option linter.all false
set_option maxRecDepth 100000
namespace DL
open PySem PySem.Spec PyProof.Rows L2
theorem full_ok {ks : List Str} (hn : ks.Nodup) (hl : ks.length = 5) (he : ("" : Str) ∉ ks) : LOk (ks.map fun k => (k, cE :: ks)) := by
  have hk : keys (ks.map fun k => (k, cE :: ks)) = ks := by
    unfold keys
    rw [List.map_map]
    exact List.map_id _
  refine ⟨by rw [hk]; exact hn, by rw [hk]; exact he, fun r hr b hb => ?_, fun r hr => ?_, by rw [List.length_map]; omega⟩
  · rw [hk]
    obtain ⟨k, _, rfl⟩ := List.mem_map.mp hr
    rcases List.mem_cons.mp hb with rfl | hb
    · exact .inl rfl
    · exact .inr hb
  · obtain ⟨k, _, rfl⟩ := List.mem_map.mp hr
    exact List.nodup_cons.mpr ⟨he, hn⟩
theorem law_turn {v : Vt} (hv : VOk v) {x0 x2 x3 x4 x5 : Sl} : ∃ v' : Vt, l1_law [x0, .ow v.o, x2, x3, x4, x5] = some (.nx, [x0, .ow v'.o, x2, x3, x4, x5]) ∧ VOk v' := by
  obtain ⟨r, v1, e1, a1, b1, hv1⟩ := take_ok hv (many := 5) (by decide) (by decide)
  obtain ⟨n, rfl⟩ := Int.eq_ofNat_of_zero_le a1
  obtain ⟨L, v2, e2, hL, hLn, hv2⟩ := ladder_ok hv1 (many := 1 + n) (by omega) (by omega)
  obtain ⟨v3, e3, hv3⟩ := looked_ok hL (fun z => by rw [z] at hLn; simp at hLn; omega) (most := 4) (by decide) hv2
  refine ⟨v3, ?_, hv3⟩
  have e2 : f__law_ladder [.io v1.o, .va (.int (1 + (n : Int)))] = some (.va (ladD L), some v2.o) := by
    rw [← e2]
    rw [Int.natCast_add]
    rfl
  have e3 : f__law_looked [.io v2.o, .va (ladD L), .va (.int 4)] = some (.va (.bl true), some v3.o) := e3
  generalize ladD L = q at e2 e3
  simp -implicitDefEqProofs [l1_law, e1, e2, e3, dTru]
theorem law_ok (ns : List Int) (hl : ns.length ≤ 63) : f_law [.va (.scr (ns.map .int))] = some (.va (.bl true), none) := by
  have e0 := vat_ok ns hl
  obtain ⟨v1, e1, hv1⟩ := named_ok (vat0_ok ns)
  obtain ⟨ρ', e2, v2, s2, er, h2, hv2⟩ := forF_rng (t := .nm 2) (b := l1_law) (n := 4) (fun k ρ => ∃ (v : Vt) (s2 : Sl), ρ = [.va (.scr (ns.map .int)), .ow v.o, s2, .no, .no, .no] ∧ NoVa s2 ∧ VOk v)
    (fun k ρ hk ⟨v, s2, er, h2, hv⟩ => by
      subst er
      obtain ⟨v', e, hv'⟩ := law_turn hv (x0 := .va (.scr (ns.map .int))) (x2 := .va (.int (k : Int))) (x3 := .no) (x4 := .no) (x5 := .no)
      refine ⟨_, .nx, _, ?_, e, .inl rfl, v', _, rfl, .inr ⟨_, rfl⟩, hv'⟩
      rcases h2 with rfl | ⟨d, rfl⟩ <;> simp)
    ⟨v1, .no, rfl, .inl rfl, hv1⟩
  subst er
  obtain ⟨r, v3, e3, a3, b3, hv3⟩ := take_ok hv2 (many := 13) (by decide) (by decide)
  have hr : rng1 [.int 4] = some (rngD 0 4) := rfl
  have hio : ioIx [.va (.scr (ns.map D.int))] = none := rfl
  by_cases h7 : r = 7
  · subst h7
    obtain ⟨ks, v4, e4, hnd, hkl, hne, hv4⟩ := words_ok hv3 (many := 5) (by decide)
    have hL := full_ok hnd hkl hne
    obtain ⟨v5, e5, hv5⟩ := looked_ok hL (fun z => by have := congrArg List.length z; rw [List.length_map, hkl] at this; cases this) (most := 5) (by decide) hv4
    have hc := full_comp (ks := ks) (by omega) (x0 := .va (.scr (ns.map .int))) (x1 := .ow v4.o) (x2 := s2) (x4 := .no)
    have htu : dTuple (.lst ((ks.map fun k => (k, cE :: ks)).map rowD)) = some (ladD (ks.map fun k => (k, cE :: ks))) := rfl
    have e5 : f__law_looked [.io v4.o, .va (ladD (ks.map fun k => (k, cE :: ks))), .va (.int 5)] = some (.va (.bl true), some v5.o) := e5
    have e4 : f__law_words [.io v3.o, .va (.int 5)] = some (.ow (.lst (ks.map .str)), some v4.o) := e4
    generalize ladD (ks.map fun k => (k, cE :: ks)) = q1 at htu e5
    generalize (ks.map fun k => (k, cE :: ks)).map rowD = q2 at htu hc
    generalize ks.map D.str = q3 at hc e4
    generalize rngD 0 4 = q4 at hr e2
    generalize D.scr (ns.map D.int) = q5 at e0 e2 hc hio ⊢
    simp -implicitDefEqProofs [f_law, m_law, e0, e1, dTru, hr, e2, e3, e4, dem, clr, hc, rst, svd, htu, e5, ioOut_none hio]
  · have h7 : (r == 7) = false := by rw [beq_eq_false_iff_ne]; exact h7
    generalize rngD 0 4 = q4 at hr e2
    generalize D.scr (ns.map D.int) = q5 at e0 e2 hio ⊢
    simp -implicitDefEqProofs [f_law, m_law, e0, e1, dTru, hr, e2, e3, h7, ioOut_none hio]
end DL

set_option Elab.async false
set_option linter.all false
set_option maxRecDepth 100000
set_option maxHeartbeats 0
namespace DL
open PySem PySem.Spec PyProof.Rows L2
/-! ### each def computes its mirror -/
section
variable {P : Program} {w : World} {K : PySem.W.Frag} {mg : Str → Option Value} {base : Heap}
theorem sc_kinds_of : FnScope ["ladder", "kind", "bosses"] ["ladder"] (defScope st_kinds_of) := ⟨rfl, rfl, rfl, by decide +kernel, rfl, by decide +kernel, by decide +kernel⟩
theorem df_kinds_of {f : Addr} {fd : FuncData} (B : Bt mg) (F : FunD K "kinds_of" "kinds_of" (defArgs st_kinds_of) (defBody st_kinds_of) (defScope st_kinds_of) [] [] f fd) (g : mg "kinds_of" = some (.ref f))  :
    Df P w K mg base 1 "kinds_of" 1 f_kinds_of (defArgs st_kinds_of) ["ladder"] :=
  ⟨f, fd, _, _, _, fnM (k := 0) (m := m_kinds_of) F sc_kinds_of (fun cdv A outer s H E hr => (css_one (cs_ret (ce_callT c_tuple rfl B.b_tuple bt_tuple (pd_e (CO.val (co_lc rfl sc_kinds_of.nd (ci_val (ce_var 0)) (blkOk_by (own := [("kind", 1), ("bosses", 2)]) (by rfl)) (fun _ _ _ _ _ => (cg_tup rfl (cgs_cons (cg_name 1 sc_kinds_of.nd) (cgs_cons (cg_name 2 sc_kinds_of.nd) cgs_nil)))) (fun _ _ _ _ _ => cts_nil) (fun _ _ _ _ _ => (ce_var 1))))))))), F, g⟩
theorem sc_bosses_of : FnScope ["ladder", "kind"] ["ladder", "kind"] (defScope st_bosses_of) := ⟨rfl, rfl, rfl, by decide +kernel, rfl, by decide +kernel, by decide +kernel⟩
theorem df_bosses_of {f : Addr} {fd : FuncData} (B : Bt mg) (F : FunD K "bosses_of" "bosses_of" (defArgs st_bosses_of) (defBody st_bosses_of) (defScope st_bosses_of) [] [] f fd) (g : mg "bosses_of" = some (.ref f))  :
    Df P w K mg base 1 "bosses_of" 2 f_bosses_of (defArgs st_bosses_of) ["ladder", "kind"] :=
  ⟨f, fd, _, _, _, fnM (k := 0) (m := m_bosses_of) F sc_bosses_of (fun cdv A outer s H E hr => (css_one (cs_ret (ce_ix (u1 hr) (pd_e (CO.val (co_callT (c_dict rfl) rfl B.b_dict bt_dict (pd_n 0)))) (pd_n 1))))), F, g⟩
theorem sc_ways_of : FnScope ["ladder", "kind", "aim", "bars", "most", "found", "layer", "length", "further", "way", "last", "boss"] ["ladder", "kind", "aim", "bars", "most"] (defScope st_ways_of) := ⟨rfl, rfl, rfl, by decide +kernel, rfl, by decide +kernel, by decide +kernel⟩
theorem df_ways_of {f : Addr} {fd : FuncData} (B : Bt mg) (F : FunD K "ways_of" "ways_of" (defArgs st_ways_of) (defBody st_ways_of) (defScope st_ways_of) [] [] f fd) (g : mg "ways_of" = some (.ref f)) (D_bosses_of : Df P w K mg base 1 "bosses_of" 2 f_bosses_of (defArgs st_bosses_of) ["ladder", "kind"]) :
    Df P w K mg base 2 "ways_of" 5 f_ways_of (defArgs st_ways_of) ["ladder", "kind", "aim", "bars", "most"] :=
  ⟨f, fd, _, _, _, fnM (k := 1) (m := m_ways_of) F sc_ways_of (fun cdv A outer s H E hr => (css_cons (cs_setO 5 sc_ways_of.nd (co_lst ca_nil))
  (css_cons (cs_setO 6 sc_ways_of.nd (co_lst (ca_cons (ce_tup ca_nil) ca_nil)))
  (css_cons (cs_for PassesOwn.never rfl (ci_rng1 rfl B.b_range (ca_cons (ce_op r_add (pd_n 4) (pd_e ce_int)) ca_nil)) (cg_name 7 sc_ways_of.nd)
  (css_cons (cs_setO 8 sc_ways_of.nd (co_lst ca_nil))
  (css_cons (cs_for PassesOwn.never rfl (ci_val (ce_var 6)) (cg_name 9 sc_ways_of.nd)
  (css_cons (cs_asg (ce_if (ct_tru (pd_n 9)) (ce_ix (u1 hr) (pd_n 9) (pd_e (ce_neg (pd_e ce_int)))) (ce_var 1)) (cg_name 10 sc_ways_of.nd))
  (css_cons (cs_if (ct_cmp (r_in (u1 hr)) (pd_n 2) (pd_e (ce_def (pe_def (F := D_bosses_of) (hr.mono (by decide)) (cr_v (ce_var 0) (cr_v (ce_var 10) cr_nil)) (fun _ _ _ _ _ _ _ _ _ us hl => match us, hl with | [_, _], _ => rfl)))) (by rfl))
  (css_one (cs_expr (ce_m1 5 m_append PySem.F.slot_list_append PySem.F.type_list_append (ce_var 9))))
  css_nil)
  (css_one (cs_expr (ce_m1 8 m_extend PySem.F.slot_list_extend PySem.F.type_list_extend (CO.val (co_lc rfl sc_ways_of.nd (ci_val (ce_def (pe_def (F := D_bosses_of) (hr.mono (by decide)) (cr_v (ce_var 0) (cr_v (ce_var 10) cr_nil)) (fun _ _ _ _ _ _ _ _ _ us hl => match us, hl with | [_, _], _ => rfl)))) (blkOk_by (own := [("boss", 11)]) (by rfl)) (fun _ _ _ _ _ => (cg_name 11 sc_ways_of.nd)) (fun _ _ _ _ _ => (cts_one (CW.ct (cw_and (ct_cmp (r_ne (u64 hr)) (pd_n 11) (pd_e ce_str) (by rfl)) (cw_and1 (ct_cmp (r_notIn (u1 hr)) (pd_n 11) (pd_n 3) (by rfl))))))) (fun _ _ _ _ _ => (ce_op r_add (pd_n 9) (pd_e (ce_tup (ca_cons (ce_var 11) ca_nil)))))))))))))
  (css_one (cs_asg (ce_var 8) (cg_name 6 sc_ways_of.nd))))))
  (css_one (cs_ret (ce_callT c_tuple rfl B.b_tuple bt_tuple (pd_e (CO.val (co_callB (c_sort rfl (u64 hr)) rfl B.b_sorted bt_sorted (pd_n 5))))))))))), F, g⟩
theorem sc_way_count : FnScope ["ladder", "kind", "aim", "many", "counts", "lap", "further", "one", "boss"] ["ladder", "kind", "aim", "many"] (defScope st_way_count) := ⟨rfl, rfl, rfl, by decide +kernel, rfl, by decide +kernel, by decide +kernel⟩
theorem df_way_count {f : Addr} {fd : FuncData} (B : Bt mg) (F : FunD K "way_count" "way_count" (defArgs st_way_count) (defBody st_way_count) (defScope st_way_count) [] [] f fd) (g : mg "way_count" = some (.ref f)) (D_bosses_of : Df P w K mg base 1 "bosses_of" 2 f_bosses_of (defArgs st_bosses_of) ["ladder", "kind"]) (D_kinds_of : Df P w K mg base 1 "kinds_of" 1 f_kinds_of (defArgs st_kinds_of) ["ladder"]) :
    Df P w K mg base 2 "way_count" 4 f_way_count (defArgs st_way_count) ["ladder", "kind", "aim", "many"] :=
  ⟨f, fd, _, _, _, fnM (k := 1) (m := m_way_count) F sc_way_count (fun cdv A outer s H E hr => (css_cons (cs_setO 4 sc_way_count.nd (co_dc rfl sc_way_count.nd (ci_val (ce_def (pe_def (F := D_kinds_of) (hr.mono (by decide)) (cr_v (ce_var 0) cr_nil) (fun _ _ _ _ _ _ _ _ _ us hl => match us, hl with | [_], _ => rfl)))) (blkOk_by (own := [("one", 7)]) (by rfl)) (fun _ _ _ _ _ => (cg_name 7 sc_way_count.nd)) (fun _ _ _ _ _ => cts_nil) (fun _ _ _ _ _ => (ce_var 7)) (fun _ _ _ _ _ => (ce_callT c_int rfl B.b_int bt_int (pd_e (ce_cmp (r_eq (u64 hr)) (pd_n 7) (pd_n 1) (by rfl)))))))
  (css_cons (cs_for PassesOwn.never rfl (ci_rng1 rfl B.b_range (ca_cons (ce_var 3) ca_nil)) (cg_name 5 sc_way_count.nd)
  (css_cons (cs_setDc 6 rfl sc_way_count.nd (ci_val (ce_def (pe_def (F := D_kinds_of) (hr.mono (by decide)) (cr_v (ce_var 0) cr_nil) (fun _ _ _ _ _ _ _ _ _ us hl => match us, hl with | [_], _ => rfl)))) (blkOk_by (own := [("one", 7)]) (by rfl)) (fun _ _ _ _ _ => (cg_name 7 sc_way_count.nd)) (fun _ _ _ _ _ => cts_nil) (fun _ _ _ _ _ => (ce_var 7)) (fun _ _ _ _ _ => ce_int))
  (css_cons (cs_for PassesOwn.never rfl (ci_val (ce_var 4)) (cg_name 7 sc_way_count.nd)
  (css_one (cs_for PassesOwn.never rfl (ci_val (ce_def (pe_def (F := D_bosses_of) (hr.mono (by decide)) (cr_v (ce_var 0) (cr_v (ce_var 7) cr_nil)) (fun _ _ _ _ _ _ _ _ _ us hl => match us, hl with | [_, _], _ => rfl)))) (cg_name 8 sc_way_count.nd)
  (css_one (cs_if (ct_cmp (r_ne (u64 hr)) (pd_n 8) (pd_e ce_str) (by rfl))
  (css_one (cs_augIx 6 (u1 hr) (ce_var 8) (ce_ix (u1 hr) (pd_n 4) (pd_n 7)) p_add))
  css_nil)))))
  (css_one (cs_asg (ce_var 6) (cg_name 4 sc_way_count.nd))))))
  (css_one (cs_ret (ce_callB (c_sum rfl) rfl B.b_sum bt_sum (pd_e (CO.val (co_lc rfl sc_way_count.nd (ci_val (ce_var 4)) (blkOk_by (own := [("one", 7)]) (by rfl)) (fun _ _ _ _ _ => (cg_name 7 sc_way_count.nd)) (fun _ _ _ _ _ => (cts_one (ct_cmp (r_in (u1 hr)) (pd_n 2) (pd_e (ce_def (pe_def (F := D_bosses_of) (hr.mono (by decide)) (cr_v (ce_var 0) (cr_v (ce_var 7) cr_nil)) (fun _ _ _ _ _ _ _ _ _ us hl => match us, hl with | [_, _], _ => rfl)))) (by rfl)))) (fun _ _ _ _ _ => (ce_ix (u1 hr) (pd_n 4) (pd_n 7)))))))))))), F, g⟩
theorem sc_kinds_above : FnScope ["ladder", "kind", "found", "waiting", "boss"] ["ladder", "kind"] (defScope st_kinds_above) := ⟨rfl, rfl, rfl, by decide +kernel, rfl, by decide +kernel, by decide +kernel⟩
theorem df_kinds_above {f : Addr} {fd : FuncData} (B : Bt mg) (F : FunD K "kinds_above" "kinds_above" (defArgs st_kinds_above) (defBody st_kinds_above) (defScope st_kinds_above) [] [] f fd) (g : mg "kinds_above" = some (.ref f)) (D_bosses_of : Df P w K mg base 1 "bosses_of" 2 f_bosses_of (defArgs st_bosses_of) ["ladder", "kind"]) :
    Df P w K mg base 2 "kinds_above" 2 f_kinds_above (defArgs st_kinds_above) ["ladder", "kind"] :=
  ⟨f, fd, _, _, _, fnM (k := 1) (m := m_kinds_above) F sc_kinds_above (fun cdv A outer s H E hr => (css_cons (cs_setO 2 sc_kinds_above.nd co_dct0)
  (css_cons (cs_setO 3 sc_kinds_above.nd (co_lst (ca_cons (ce_var 1) ca_nil)))
  (css_cons (cs_while PassesOwn.never (ct_tru (pd_n 3))
  (css_one (cs_for PassesOwn.never rfl (ci_val (ce_def (pe_def (F := D_bosses_of) (hr.mono (by decide)) (cr_v (ce_var 0) (cr_v (ce_m0 3 m_pop PySem.F.slot_list_pop PySem.F.type_list_pop) cr_nil)) (fun _ _ _ _ _ _ _ _ _ us hl => match us, hl with | [_, _], _ => rfl)))) (cg_name 4 sc_kinds_above.nd)
  (css_one (cs_if (CW.ct (cw_and (ct_cmp (r_ne (u64 hr)) (pd_n 4) (pd_e ce_str) (by rfl)) (cw_and1 (ct_cmp (r_notIn (u1 hr)) (pd_n 4) (pd_n 2) (by rfl)))))
  (css_cons (cs_setIx 2 (u1 hr) ce_bl (ce_var 4))
  (css_one (cs_expr (ce_m1 3 m_append PySem.F.slot_list_append PySem.F.type_list_append (ce_var 4)))))
  css_nil)))))
  (css_one (cs_ret (ce_callT c_tuple rfl B.b_tuple bt_tuple (pd_e (CO.val (co_callB (c_sort rfl (u64 hr)) rfl B.b_sorted bt_sorted (pd_n 2))))))))))), F, g⟩
theorem sc_can_be_over : FnScope ["ladder", "one", "other"] ["ladder", "one", "other"] (defScope st_can_be_over) := ⟨rfl, rfl, rfl, by decide +kernel, rfl, by decide +kernel, by decide +kernel⟩
theorem df_can_be_over {f : Addr} {fd : FuncData} (B : Bt mg) (F : FunD K "can_be_over" "can_be_over" (defArgs st_can_be_over) (defBody st_can_be_over) (defScope st_can_be_over) [] [] f fd) (g : mg "can_be_over" = some (.ref f)) (D_kinds_above : Df P w K mg base 2 "kinds_above" 2 f_kinds_above (defArgs st_kinds_above) ["ladder", "kind"]) :
    Df P w K mg base 3 "can_be_over" 3 f_can_be_over (defArgs st_can_be_over) ["ladder", "one", "other"] :=
  ⟨f, fd, _, _, _, fnM (k := 2) (m := m_can_be_over) F sc_can_be_over (fun cdv A outer s H E hr => (css_one (cs_ret (ce_cmp (r_in (u1 hr)) (pd_n 1) (pd_e (ce_def (pe_def (F := D_kinds_above) (hr.mono (by decide)) (cr_v (ce_var 0) (cr_v (ce_var 2) cr_nil)) (fun _ _ _ _ _ _ _ _ _ us hl => match us, hl with | [_, _], _ => rfl)))) (by rfl))))), F, g⟩
theorem sc_kinds_below : FnScope ["ladder", "kind", "one"] ["ladder", "kind"] (defScope st_kinds_below) := ⟨rfl, rfl, rfl, by decide +kernel, rfl, by decide +kernel, by decide +kernel⟩
theorem df_kinds_below {f : Addr} {fd : FuncData} (B : Bt mg) (F : FunD K "kinds_below" "kinds_below" (defArgs st_kinds_below) (defBody st_kinds_below) (defScope st_kinds_below) [] [] f fd) (g : mg "kinds_below" = some (.ref f)) (D_can_be_over : Df P w K mg base 3 "can_be_over" 3 f_can_be_over (defArgs st_can_be_over) ["ladder", "one", "other"]) (D_kinds_of : Df P w K mg base 1 "kinds_of" 1 f_kinds_of (defArgs st_kinds_of) ["ladder"]) :
    Df P w K mg base 4 "kinds_below" 2 f_kinds_below (defArgs st_kinds_below) ["ladder", "kind"] :=
  ⟨f, fd, _, _, _, fnM (k := 3) (m := m_kinds_below) F sc_kinds_below (fun cdv A outer s H E hr => (css_one (cs_ret (ce_callT c_tuple rfl B.b_tuple bt_tuple (pd_e (CO.val (co_lc rfl sc_kinds_below.nd (ci_val (ce_def (pe_def (F := D_kinds_of) (hr.mono (by decide)) (cr_v (ce_var 0) cr_nil) (fun _ _ _ _ _ _ _ _ _ us hl => match us, hl with | [_], _ => rfl)))) (blkOk_by (own := [("one", 2)]) (by rfl)) (fun _ _ _ _ _ => (cg_name 2 sc_kinds_below.nd)) (fun _ _ _ _ _ => (cts_one (ct_tru (pd_e (ce_def (pe_def (F := D_can_be_over) (hr.mono (by decide)) (cr_v (ce_var 0) (cr_v (ce_var 1) (cr_v (ce_var 2) cr_nil))) (fun _ _ _ _ _ _ _ _ _ us hl => match us, hl with | [_, _, _], _ => rfl))))))) (fun _ _ _ _ _ => (ce_var 2))))))))), F, g⟩
theorem sc_ring_kinds : FnScope ["ladder", "kind"] ["ladder"] (defScope st_ring_kinds) := ⟨rfl, rfl, rfl, by decide +kernel, rfl, by decide +kernel, by decide +kernel⟩
theorem df_ring_kinds {f : Addr} {fd : FuncData} (B : Bt mg) (F : FunD K "ring_kinds" "ring_kinds" (defArgs st_ring_kinds) (defBody st_ring_kinds) (defScope st_ring_kinds) [] [] f fd) (g : mg "ring_kinds" = some (.ref f)) (D_can_be_over : Df P w K mg base 3 "can_be_over" 3 f_can_be_over (defArgs st_can_be_over) ["ladder", "one", "other"]) (D_kinds_of : Df P w K mg base 1 "kinds_of" 1 f_kinds_of (defArgs st_kinds_of) ["ladder"]) :
    Df P w K mg base 4 "ring_kinds" 1 f_ring_kinds (defArgs st_ring_kinds) ["ladder"] :=
  ⟨f, fd, _, _, _, fnM (k := 3) (m := m_ring_kinds) F sc_ring_kinds (fun cdv A outer s H E hr => (css_one (cs_ret (ce_callT c_tuple rfl B.b_tuple bt_tuple (pd_e (CO.val (co_lc rfl sc_ring_kinds.nd (ci_val (ce_def (pe_def (F := D_kinds_of) (hr.mono (by decide)) (cr_v (ce_var 0) cr_nil) (fun _ _ _ _ _ _ _ _ _ us hl => match us, hl with | [_], _ => rfl)))) (blkOk_by (own := [("kind", 1)]) (by rfl)) (fun _ _ _ _ _ => (cg_name 1 sc_ring_kinds.nd)) (fun _ _ _ _ _ => (cts_one (ct_tru (pd_e (ce_def (pe_def (F := D_can_be_over) (hr.mono (by decide)) (cr_v (ce_var 0) (cr_v (ce_var 1) (cr_v (ce_var 1) cr_nil))) (fun _ _ _ _ _ _ _ _ _ us hl => match us, hl with | [_, _, _], _ => rfl))))))) (fun _ _ _ _ _ => (ce_var 1))))))))), F, g⟩
theorem sc__law_take : FnScope ["vat", "many", "cell", "got"] ["vat", "many"] (defScope st__law_take) := ⟨rfl, rfl, rfl, by decide +kernel, rfl, by decide +kernel, by decide +kernel⟩
theorem df__law_take {f : Addr} {fd : FuncData} (B : Bt mg) (F : FunD K "_law_take" "_law_take" (defArgs st__law_take) (defBody st__law_take) (defScope st__law_take) [] [] f fd) (g : mg "_law_take" = some (.ref f))  :
    Df P w K mg base 1 "_law_take" 2 f__law_take (defArgs st__law_take) ["vat", "many"] :=
  ⟨f, fd, _, _, _, fnM (k := 0) (m := m__law_take) F sc__law_take (fun cdv A outer s H E hr => (css_cons (cs_if (ct_cmp r_lt (pd_e (ce_ix (u1 hr) (pd_n 0) (pd_e ce_int))) (pd_e (ce_callB c_len rfl B.b_len bt_len (pd_e (ce_ix (u1 hr) (pd_n 0) (pd_e ce_int))))) (by rfl))
  (css_cons (cs_asg (ce_callB c_abs rfl B.b_abs bt_abs (pd_e (ce_ix (u1 hr) (pd_e (ce_ix (u1 hr) (pd_n 0) (pd_e ce_int))) (pd_e (ce_ix (u1 hr) (pd_n 0) (pd_e ce_int)))))) (cg_name 2 sc__law_take.nd))
  (css_cons (cs_if (ct_cmp (r_eq (u64 hr)) (pd_e (ce_ix (u1 hr) (pd_n 0) (pd_e ce_int))) (pd_e ce_int) (by rfl))
  (css_cons (cs_setIx 0 (u1 hr) (ce_op r_mod (pd_e (ce_callT c_int rfl B.b_int bt_int (pd_e (ce_op r_add (pd_e (ce_op r_add (pd_e (ce_op r_mul (pd_e (ce_ix (u1 hr) (pd_n 0) (pd_e ce_int))) (pd_e ce_int))) (pd_e (ce_op r_mul (pd_e (ce_op r_mod (pd_n 2) (pd_e ce_int))) (pd_e ce_int))))) (pd_e ce_int))))) (pd_e ce_int)) ce_int)
  (css_one (cs_setIx 0 (u1 hr) (ce_if (ct_cmp r_ge (pd_n 2) (pd_e (ce_op r_pow (pd_e ce_int) (pd_e ce_int))) (by rfl)) (ce_op r_fdiv (pd_n 2) (pd_e (ce_op r_pow (pd_e ce_int) (pd_e ce_int)))) (ce_neg (pd_e ce_int))) ce_int)))
  css_nil)
  (css_cons (cs_if (ct_cmp r_gt (pd_e (ce_ix (u1 hr) (pd_n 0) (pd_e ce_int))) (pd_e ce_int) (by rfl))
  (css_cons (cs_asg (ce_op r_mod (pd_e (ce_callT c_int rfl B.b_int bt_int (pd_e (ce_ix (u1 hr) (pd_n 0) (pd_e ce_int))))) (pd_n 1)) (cg_name 3 sc__law_take.nd))
  (css_cons (cs_setIx 0 (u1 hr) (ce_op r_fdiv (pd_e (ce_ix (u1 hr) (pd_n 0) (pd_e ce_int))) (pd_n 1)) ce_int)
  (css_cons (cs_if (ct_cmp (r_eq (u64 hr)) (pd_e (ce_ix (u1 hr) (pd_n 0) (pd_e ce_int))) (pd_e ce_int) (by rfl))
  (css_one (cs_augIx 0 (u1 hr) ce_int ce_int p_add))
  css_nil)
  (css_one (cs_ret (ce_var 3))))))
  css_nil)
  (css_cons (cs_augIx 0 (u1 hr) ce_int ce_int p_add)
  (css_one (cs_setIx 0 (u1 hr) ce_int ce_int))))))
  css_nil)
  (css_cons (cs_setIx 0 (u1 hr) (ce_op r_mod (pd_e (ce_callT c_int rfl B.b_int bt_int (pd_e (ce_op r_add (pd_e (ce_op r_add (pd_e (ce_op r_mul (pd_e (ce_ix (u1 hr) (pd_n 0) (pd_e ce_int))) (pd_e ce_int))) (pd_e (ce_op r_mul (pd_e (ce_ix (u1 hr) (pd_n 0) (pd_e ce_int))) (pd_e ce_int))))) (pd_e ce_int))))) (pd_e ce_int)) ce_int)
  (css_one (cs_ret (ce_op r_mod (pd_e (ce_callT c_int rfl B.b_int bt_int (pd_e (ce_op r_fdiv (pd_e (ce_ix (u1 hr) (pd_n 0) (pd_e ce_int))) (pd_e ce_int))))) (pd_n 1))))))), F, g⟩
theorem sc__law_vat : FnScope ["script", "cell"] ["script"] (defScope st__law_vat) := ⟨rfl, rfl, rfl, by decide +kernel, rfl, by decide +kernel, by decide +kernel⟩
theorem df__law_vat {f : Addr} {fd : FuncData} (B : Bt mg) (F : FunD K "_law_vat" "_law_vat" (defArgs st__law_vat) (defBody st__law_vat) (defScope st__law_vat) [] [] f fd) (g : mg "_law_vat" = some (.ref f))  :
    Df P w K mg base 1 "_law_vat" 1 f__law_vat (defArgs st__law_vat) ["script"] :=
  ⟨f, fd, _, _, _, fnM (k := 0) (m := m__law_vat) F sc__law_vat (fun cdv A outer s H E hr => (css_one (cs_retO (co_lst (ca_cons (CO.val (co_lc rfl sc__law_vat.nd (ci_val (CO.val (co_slice (pd_n 0) cp_none (cp_some ce_int)))) (blkOk_by (own := [("cell", 1)]) (by rfl)) (fun _ _ _ _ _ => (cg_name 1 sc__law_vat.nd)) (fun _ _ _ _ _ => cts_nil) (fun _ _ _ _ _ => (ce_callT c_int rfl B.b_int bt_int (pd_n 1))))) (ca_cons ce_int (ca_cons ce_int (ca_cons ce_int ca_nil)))))))), F, g⟩
theorem sc__law_same : FnScope ["told", "due", "rest", "count", "one", "two", "k"] ["told", "due"] (defScope st__law_same) := ⟨rfl, rfl, rfl, by decide +kernel, rfl, by decide +kernel, by decide +kernel⟩
theorem df__law_same {f : Addr} {fd : FuncData} (B : Bt mg) (F : FunD K "_law_same" "_law_same" (defArgs st__law_same) (defBody st__law_same) (defScope st__law_same) [] [] f fd) (g : mg "_law_same" = some (.ref f))  :
    Df P w K mg base 1 "_law_same" 2 f__law_same (defArgs st__law_same) ["told", "due"] :=
  ⟨f, fd, _, _, _, fnM (k := 0) (m := m__law_same) F sc__law_same (fun cdv A outer s H E hr => (css_cons (cs_setO 2 sc__law_same.nd (co_lst (ca_cons (ce_tup (ca_cons (ce_var 0) (ca_cons (ce_var 1) ca_nil))) ca_nil)))
  (css_cons (cs_for PassesOwn.never rfl (ci_rng1 rfl B.b_range (ca_cons ce_int ca_nil)) (cg_name 3 sc__law_same.nd)
  (css_cons (cs_if (ct_cmp (r_eq (u64 hr)) (pd_e (ce_callB c_len rfl B.b_len bt_len (pd_n 2))) (pd_e ce_int) (by rfl))
  (css_one (cs_ret ce_bl))
  css_nil)
  (css_cons (cs_asg (ce_m0 2 m_pop PySem.F.slot_list_pop PySem.F.type_list_pop) (cg_tup rfl (cgs_cons (cg_name 4 sc__law_same.nd) (cgs_cons (cg_name 5 sc__law_same.nd) cgs_nil))))
  (css_one (cs_if (ct_tru (pd_e (ce_isi (hn := isi_tuple) (ha := (pd_n 5)) (hm := B.b_isinstance) (hm2 := B.b_tuple) (hv2 := bt_tuple) (hv := bt_isinstance))))
  (css_cons (cs_if (CW.ct (cw_or (ct_not (ct_tru (pd_e (ce_isi (hn := isi_tuple) (ha := (pd_n 4)) (hm := B.b_isinstance) (hm2 := B.b_tuple) (hv2 := bt_tuple) (hv := bt_isinstance))))) (cw_or1 (ct_cmp (r_ne (u64 hr)) (pd_e (ce_callB c_len rfl B.b_len bt_len (pd_n 4))) (pd_e (ce_callB c_len rfl B.b_len bt_len (pd_n 5))) (by rfl)))))
  (css_one (cs_ret ce_bl))
  css_nil)
  (css_one (cs_for PassesOwn.never rfl (ci_rng1 rfl B.b_range (ca_cons (ce_callB c_len rfl B.b_len bt_len (pd_n 5)) ca_nil)) (cg_name 6 sc__law_same.nd)
  (css_one (cs_expr (ce_m1 2 m_append PySem.F.slot_list_append PySem.F.type_list_append (ce_tup (ca_cons (ce_ix (u1 hr) (pd_n 4) (pd_n 6)) (ca_cons (ce_ix (u1 hr) (pd_n 5) (pd_n 6)) ca_nil)))))))))
  (css_one (cs_if (ct_cmp r_isN (pd_n 5) (pd_e ce_non) (by rfl))
  (css_one (cs_if (ct_cmp r_notN (pd_n 4) (pd_e ce_non) (by rfl))
  (css_one (cs_ret ce_bl))
  css_nil))
  (css_one (cs_if (ct_tru (pd_e (ce_isi (hn := isi_bool) (ha := (pd_n 5)) (hm := B.b_isinstance) (hm2 := B.b_bool) (hv2 := bt_bool) (hv := bt_isinstance))))
  (css_one (cs_if (CW.ct (cw_or (ct_not (ct_tru (pd_e (ce_isi (hn := isi_bool) (ha := (pd_n 4)) (hm := B.b_isinstance) (hm2 := B.b_bool) (hv2 := bt_bool) (hv := bt_isinstance))))) (cw_or1 (ct_cmp (r_ne (u64 hr)) (pd_n 4) (pd_n 5) (by rfl)))))
  (css_one (cs_ret ce_bl))
  css_nil))
  (css_one (cs_if (ct_tru (pd_e (ce_isi (hn := isi_int) (ha := (pd_n 5)) (hm := B.b_isinstance) (hm2 := B.b_int) (hv2 := bt_int) (hv := bt_isinstance))))
  (css_one (cs_if (CW.ct (cw_or (ct_not (ct_tru (pd_e (ce_isi (hn := isi_int) (ha := (pd_n 4)) (hm := B.b_isinstance) (hm2 := B.b_int) (hv2 := bt_int) (hv := bt_isinstance))))) (cw_or (ct_tru (pd_e (ce_isi (hn := isi_bool) (ha := (pd_n 4)) (hm := B.b_isinstance) (hm2 := B.b_bool) (hv2 := bt_bool) (hv := bt_isinstance)))) (cw_or1 (ct_cmp (r_ne (u64 hr)) (pd_n 4) (pd_n 5) (by rfl))))))
  (css_one (cs_ret ce_bl))
  css_nil))
  (css_one (cs_if (CW.ct (cw_or (ct_not (ct_tru (pd_e (ce_isi (hn := isi_str) (ha := (pd_n 5)) (hm := B.b_isinstance) (hm2 := B.b_str) (hv2 := bt_str) (hv := bt_isinstance))))) (cw_or (ct_not (ct_tru (pd_e (ce_isi (hn := isi_str) (ha := (pd_n 4)) (hm := B.b_isinstance) (hm2 := B.b_str) (hv2 := bt_str) (hv := bt_isinstance))))) (cw_or1 (ct_cmp (r_ne (u64 hr)) (pd_n 4) (pd_n 5) (by rfl))))))
  (css_one (cs_ret ce_bl))
  css_nil)))))))))))))
  (css_one (cs_ret ce_bl))))), F, g⟩
theorem sc__law_words : FnScope ["vat", "many", "signs", "habit", "found", "k", "word"] ["vat", "many"] (defScope st__law_words) := ⟨rfl, rfl, rfl, by decide +kernel, rfl, by decide +kernel, by decide +kernel⟩
theorem df__law_words {f : Addr} {fd : FuncData} (B : Bt mg) (F : FunD K "_law_words" "_law_words" (defArgs st__law_words) (defBody st__law_words) (defScope st__law_words) [] [] f fd) (g : mg "_law_words" = some (.ref f)) (D__law_take : Df P w K mg base 1 "_law_take" 2 f__law_take (defArgs st__law_take) ["vat", "many"]) :
    Df P w K mg base 2 "_law_words" 2 f__law_words (defArgs st__law_words) ["vat", "many"] :=
  ⟨f, fd, _, _, _, fnM (k := 1) (m := m__law_words) F sc__law_words (fun cdv A outer s H E hr => (css_cons (cs_asg ce_str (cg_name 2 sc__law_words.nd))
  (css_cons (cs_asg (ce_def (pe_def (F := D__law_take) (hr.mono (by decide)) (cr_o 0 (cr_v ce_int cr_nil)) (fun _ _ _ _ _ _ _ _ _ us hl => match us, hl with | [_, _], _ => rfl))) (cg_name 3 sc__law_words.nd))
  (css_cons (cs_setO 4 sc__law_words.nd (co_lst ca_nil))
  (css_cons (cs_for PassesOwn.never rfl (ci_rng1 rfl B.b_range (ca_cons (ce_var 1) ca_nil)) (cg_name 5 sc__law_words.nd)
  (css_cons (cs_asg (ce_op r_add (pd_e (ce_ix (u1 hr) (pd_n 2) (pd_e (ce_def (pe_def (F := D__law_take) (hr.mono (by decide)) (cr_o 0 (cr_v ce_int cr_nil)) (fun _ _ _ _ _ _ _ _ _ us hl => match us, hl with | [_, _], _ => rfl)))))) (pd_e (ce_ix (u1 hr) (pd_e (ce_tup (ca_cons ce_str (ca_cons ce_str (ca_cons ce_str (ca_cons ce_str (ca_cons ce_str (ca_cons ce_str ca_nil)))))))) (pd_e (ce_def (pe_def (F := D__law_take) (hr.mono (by decide)) (cr_o 0 (cr_v ce_int cr_nil)) (fun _ _ _ _ _ _ _ _ _ us hl => match us, hl with | [_, _], _ => rfl))))))) (cg_name 6 sc__law_words.nd))
  (css_cons (cs_if (ct_cmp (r_eq (u64 hr)) (pd_n 3) (pd_e ce_int) (by rfl))
  (css_one (cs_asg (ce_slice (pd_e ce_str) cp_none (cp_some (ce_op r_add (pd_e ce_int) (pd_e (ce_op r_mod (pd_e (ce_callT c_int rfl B.b_int bt_int (pd_n 5))) (pd_e ce_int)))))) (cg_name 6 sc__law_words.nd)))
  css_nil)
  (css_cons (cs_if (ct_cmp (r_in (u1 hr)) (pd_n 6) (pd_n 4) (by rfl))
  (css_one (cs_asg (ce_op r_add (pd_e ce_str) (pd_e (ce_callT c_str rfl B.b_str bt_str (pd_e (ce_op r_add (pd_e ce_int) (pd_n 5)))))) (cg_name 6 sc__law_words.nd)))
  css_nil)
  (css_one (cs_expr (ce_m1 4 m_append PySem.F.slot_list_append PySem.F.type_list_append (ce_var 6))))))))
  (css_one (cs_retO (co_callB (c_sort rfl (u64 hr)) rfl B.b_sorted bt_sorted (pd_n 4))))))))), F, g⟩
theorem sc__law_ladder : FnScope ["vat", "many", "kinds", "left", "order", "share", "rows", "k", "bosses", "kind"] ["vat", "many"] (defScope st__law_ladder) := ⟨rfl, rfl, rfl, by decide +kernel, rfl, by decide +kernel, by decide +kernel⟩
theorem df__law_ladder {f : Addr} {fd : FuncData} (B : Bt mg) (F : FunD K "_law_ladder" "_law_ladder" (defArgs st__law_ladder) (defBody st__law_ladder) (defScope st__law_ladder) [] [] f fd) (g : mg "_law_ladder" = some (.ref f)) (D__law_take : Df P w K mg base 1 "_law_take" 2 f__law_take (defArgs st__law_take) ["vat", "many"]) (D__law_words : Df P w K mg base 2 "_law_words" 2 f__law_words (defArgs st__law_words) ["vat", "many"]) :
    Df P w K mg base 3 "_law_ladder" 2 f__law_ladder (defArgs st__law_ladder) ["vat", "many"] :=
  ⟨f, fd, _, _, _, fnM (k := 2) (m := m__law_ladder) F sc__law_ladder (fun cdv A outer s H E hr => (css_cons (cs_setO 2 sc__law_ladder.nd (co_def (pe_def (F := D__law_words) (hr.mono (by decide)) (cr_o 0 (cr_v (ce_var 1) cr_nil)) (fun _ _ _ _ _ _ _ _ _ us hl => match us, hl with | [_, _], _ => rfl))))
  (css_cons (cs_setO 3 sc__law_ladder.nd (co_callT c_list rfl B.b_list bt_list (pd_n 2)))
  (css_cons (cs_setLc 4 rfl sc__law_ladder.nd (ci_rng1 rfl B.b_range (ca_cons (ce_var 1) ca_nil)) (blkOk_by (own := [("k", 7)]) (by rfl)) (fun _ _ _ _ _ => (cg_name 7 sc__law_ladder.nd)) (fun _ _ _ _ _ => cts_nil) (fun _ _ _ _ _ => (ce_m1 3 m_popAt PySem.F.slot_list_pop PySem.F.type_list_pop (ce_def (pe_def (F := D__law_take) (hr.mono (by decide)) (cr_o 0 (cr_v (ce_callB c_len rfl B.b_len bt_len (pd_n 3)) cr_nil)) (fun _ _ _ _ _ _ _ _ _ us hl => match us, hl with | [_, _], _ => rfl))))))
  (css_cons (cs_asg (ce_op r_add (pd_e ce_int) (pd_e (ce_def (pe_def (F := D__law_take) (hr.mono (by decide)) (cr_o 0 (cr_v ce_int cr_nil)) (fun _ _ _ _ _ _ _ _ _ us hl => match us, hl with | [_, _], _ => rfl))))) (cg_name 5 sc__law_ladder.nd))
  (css_cons (cs_setO 6 sc__law_ladder.nd (co_lst ca_nil))
  (css_cons (cs_for PassesOwn.never rfl (ci_rng1 rfl B.b_range (ca_cons (ce_var 1) ca_nil)) (cg_name 7 sc__law_ladder.nd)
  (css_cons (cs_setO 8 sc__law_ladder.nd (co_lst (ca_cons (ce_if (CW.ct (cw_or (ct_cmp (r_eq (u64 hr)) (pd_n 7) (pd_e ce_int) (by rfl)) (cw_or1 (ct_cmp (r_eq (u64 hr)) (pd_e (ce_def (pe_def (F := D__law_take) (hr.mono (by decide)) (cr_o 0 (cr_v ce_int cr_nil)) (fun _ _ _ _ _ _ _ _ _ us hl => match us, hl with | [_, _], _ => rfl)))) (pd_e ce_int) (by rfl))))) ce_str (ce_ix (u1 hr) (pd_n 4) (pd_e (ce_def (pe_def (F := D__law_take) (hr.mono (by decide)) (cr_o 0 (cr_v (ce_var 7) cr_nil)) (fun _ _ _ _ _ _ _ _ _ us hl => match us, hl with | [_, _], _ => rfl)))))) ca_nil)))
  (css_cons (cs_for PassesOwn.never rfl (ci_val (CO.val (co_op r_cat (pd_n 2) (pd_e (CO.val (co_lst (ca_cons ce_str ca_nil))))))) (cg_name 9 sc__law_ladder.nd)
  (css_one (cs_if (CW.ct (cw_and (ct_cmp (r_notIn (u1 hr)) (pd_n 9) (pd_n 8) (by rfl)) (cw_and1 (ct_cmp (r_eq (u64 hr)) (pd_e (ce_def (pe_def (F := D__law_take) (hr.mono (by decide)) (cr_o 0 (cr_v (ce_var 5) cr_nil)) (fun _ _ _ _ _ _ _ _ _ us hl => match us, hl with | [_, _], _ => rfl)))) (pd_e ce_int) (by rfl)))))
  (css_one (cs_expr (ce_m1 8 m_append PySem.F.slot_list_append PySem.F.type_list_append (ce_var 9))))
  css_nil)))
  (css_one (cs_expr (ce_m1 6 m_append PySem.F.slot_list_append PySem.F.type_list_append (ce_tup (ca_cons (ce_ix (u1 hr) (pd_n 4) (pd_n 7)) (ca_cons (ce_callT c_tuple rfl B.b_tuple bt_tuple (pd_e (CO.val (co_callB (c_sort rfl (u64 hr)) rfl B.b_sorted bt_sorted (pd_n 8))))) ca_nil)))))))))
  (css_one (cs_ret (ce_callT c_tuple rfl B.b_tuple bt_tuple (pd_e (CO.val (co_callB (c_sort rfl (u64 hr)) rfl B.b_sorted bt_sorted (pd_n 6)))))))))))))), F, g⟩
theorem sc__law_reach : FnScope ["ladder", "kind", "bosses", "met", "todo", "other"] ["ladder", "kind"] (defScope st__law_reach) := ⟨rfl, rfl, rfl, by decide +kernel, rfl, by decide +kernel, by decide +kernel⟩
theorem df__law_reach {f : Addr} {fd : FuncData} (B : Bt mg) (F : FunD K "_law_reach" "_law_reach" (defArgs st__law_reach) (defBody st__law_reach) (defScope st__law_reach) [] [] f fd) (g : mg "_law_reach" = some (.ref f))  :
    Df P w K mg base 1 "_law_reach" 2 f__law_reach (defArgs st__law_reach) ["ladder", "kind"] :=
  ⟨f, fd, _, _, _, fnM (k := 0) (m := m__law_reach) F sc__law_reach (fun cdv A outer s H E hr => (css_cons (cs_setO 2 sc__law_reach.nd (co_callT (c_dict rfl) rfl B.b_dict bt_dict (pd_n 0)))
  (css_cons (cs_setO 3 sc__law_reach.nd (co_lst ca_nil))
  (css_cons (cs_setO 4 sc__law_reach.nd (co_lst (ca_cons (ce_var 1) ca_nil)))
  (css_cons (cs_while PassesOwn.never (ct_cmp r_gt (pd_e (ce_callB c_len rfl B.b_len bt_len (pd_n 4))) (pd_e ce_int) (by rfl))
  (css_one (cs_for PassesOwn.never rfl (ci_val (ce_ix (u1 hr) (pd_n 2) (pd_e (ce_m0 4 m_pop PySem.F.slot_list_pop PySem.F.type_list_pop)))) (cg_name 5 sc__law_reach.nd)
  (css_one (cs_if (CW.ct (cw_and (ct_cmp (r_ne (u64 hr)) (pd_n 5) (pd_e ce_str) (by rfl)) (cw_and1 (ct_cmp (r_notIn (u1 hr)) (pd_n 5) (pd_n 3) (by rfl)))))
  (css_cons (cs_expr (ce_m1 3 m_append PySem.F.slot_list_append PySem.F.type_list_append (ce_var 5)))
  (css_one (cs_expr (ce_m1 4 m_append PySem.F.slot_list_append PySem.F.type_list_append (ce_var 5)))))
  css_nil)))))
  (css_one (cs_ret (ce_var 3)))))))), F, g⟩
theorem sc__law_ways : FnScope ["ladder", "kind", "aim", "bars", "most", "bosses", "found", "rows", "size", "more", "row", "last", "other"] ["ladder", "kind", "aim", "bars", "most"] (defScope st__law_ways) := ⟨rfl, rfl, rfl, by decide +kernel, rfl, by decide +kernel, by decide +kernel⟩
theorem df__law_ways {f : Addr} {fd : FuncData} (B : Bt mg) (F : FunD K "_law_ways" "_law_ways" (defArgs st__law_ways) (defBody st__law_ways) (defScope st__law_ways) [] [] f fd) (g : mg "_law_ways" = some (.ref f))  :
    Df P w K mg base 1 "_law_ways" 5 f__law_ways (defArgs st__law_ways) ["ladder", "kind", "aim", "bars", "most"] :=
  ⟨f, fd, _, _, _, fnM (k := 0) (m := m__law_ways) F sc__law_ways (fun cdv A outer s H E hr => (css_cons (cs_setO 5 sc__law_ways.nd (co_callT (c_dict rfl) rfl B.b_dict bt_dict (pd_n 0)))
  (css_cons (cs_setO 6 sc__law_ways.nd (co_if (ct_cmp (r_in (u1 hr)) (pd_n 2) (pd_e (ce_ix (u1 hr) (pd_n 5) (pd_n 1))) (by rfl)) (co_lst (ca_cons (ce_tup ca_nil) ca_nil)) (co_lst ca_nil)))
  (css_cons (cs_setO 7 sc__law_ways.nd (co_lst (ca_cons (ce_tup ca_nil) ca_nil)))
  (css_cons (cs_for PassesOwn.never rfl (ci_rng1 rfl B.b_range (ca_cons (ce_var 4) ca_nil)) (cg_name 8 sc__law_ways.nd)
  (css_cons (cs_setO 9 sc__law_ways.nd (co_lst ca_nil))
  (css_cons (cs_for PassesOwn.never rfl (ci_val (ce_var 7)) (cg_name 10 sc__law_ways.nd)
  (css_cons (cs_asg (ce_if (ct_cmp r_gt (pd_e (ce_callB c_len rfl B.b_len bt_len (pd_n 10))) (pd_e ce_int) (by rfl)) (ce_ix (u1 hr) (pd_n 10) (pd_e (ce_neg (pd_e ce_int)))) (ce_var 1)) (cg_name 11 sc__law_ways.nd))
  (css_one (cs_setO 9 sc__law_ways.nd (co_op r_cat (pd_n 9) (pd_e (CO.val (co_lc rfl sc__law_ways.nd (ci_val (ce_ix (u1 hr) (pd_n 5) (pd_n 11))) (blkOk_by (own := [("other", 12)]) (by rfl)) (fun _ _ _ _ _ => (cg_name 12 sc__law_ways.nd)) (fun _ _ _ _ _ => (cts_one (CW.ct (cw_and (ct_cmp (r_ne (u64 hr)) (pd_n 12) (pd_e ce_str) (by rfl)) (cw_and1 (ct_cmp (r_notIn (u1 hr)) (pd_n 12) (pd_n 3) (by rfl))))))) (fun _ _ _ _ _ => (ce_op r_add (pd_n 10) (pd_e (ce_tup (ca_cons (ce_var 12) ca_nil)))))))))))))
  (css_cons (cs_asg (ce_var 9) (cg_name 7 sc__law_ways.nd))
  (css_one (cs_setO 6 sc__law_ways.nd (co_op r_cat (pd_n 6) (pd_e (CO.val (co_lc rfl sc__law_ways.nd (ci_val (ce_var 7)) (blkOk_by (own := [("row", 10)]) (by rfl)) (fun _ _ _ _ _ => (cg_name 10 sc__law_ways.nd)) (fun _ _ _ _ _ => (cts_one (ct_cmp (r_in (u1 hr)) (pd_n 2) (pd_e (ce_ix (u1 hr) (pd_n 5) (pd_e (ce_ix (u1 hr) (pd_n 10) (pd_e (ce_neg (pd_e ce_int))))))) (by rfl)))) (fun _ _ _ _ _ => (ce_var 10))))))))))))
  (css_one (cs_ret (ce_callT c_tuple rfl B.b_tuple bt_tuple (pd_e (CO.val (co_callB (c_sort rfl (u64 hr)) rfl B.b_sorted bt_sorted (pd_n 6)))))))))))), F, g⟩
theorem sc__law_many : FnScope ["ladder", "kind", "aim", "many", "bosses", "here", "other", "lap", "above", "below"] ["ladder", "kind", "aim", "many"] (defScope st__law_many) := ⟨rfl, rfl, rfl, by decide +kernel, rfl, by decide +kernel, by decide +kernel⟩
theorem df__law_many {f : Addr} {fd : FuncData} (B : Bt mg) (F : FunD K "_law_many" "_law_many" (defArgs st__law_many) (defBody st__law_many) (defScope st__law_many) [] [] f fd) (g : mg "_law_many" = some (.ref f))  :
    Df P w K mg base 1 "_law_many" 4 f__law_many (defArgs st__law_many) ["ladder", "kind", "aim", "many"] :=
  ⟨f, fd, _, _, _, fnM (k := 0) (m := m__law_many) F sc__law_many (fun cdv A outer s H E hr => (css_cons (cs_setO 4 sc__law_many.nd (co_callT (c_dict rfl) rfl B.b_dict bt_dict (pd_n 0)))
  (css_cons (cs_setO 5 sc__law_many.nd co_dct0)
  (css_cons (cs_for PassesOwn.never rfl (ci_val (ce_var 4)) (cg_name 6 sc__law_many.nd)
  (css_one (cs_setIx 5 (u1 hr) (ce_callT c_int rfl B.b_int bt_int (pd_e (ce_cmp (r_eq (u64 hr)) (pd_n 6) (pd_n 1) (by rfl)))) (ce_var 6))))
  (css_cons (cs_for PassesOwn.never rfl (ci_rng1 rfl B.b_range (ca_cons (ce_var 3) ca_nil)) (cg_name 7 sc__law_many.nd)
  (css_cons (cs_setO 8 sc__law_many.nd co_dct0)
  (css_cons (cs_for PassesOwn.never rfl (ci_val (ce_var 4)) (cg_name 6 sc__law_many.nd)
  (css_one (cs_setIx 8 (u1 hr) (ce_callB (c_sum rfl) rfl B.b_sum bt_sum (pd_e (CO.val (co_lc rfl sc__law_many.nd (ci_val (ce_var 4)) (blkOk_by (own := [("below", 9)]) (by rfl)) (fun _ _ _ _ _ => (cg_name 9 sc__law_many.nd)) (fun _ _ _ _ _ => (cts_one (ct_cmp (r_in (u1 hr)) (pd_n 6) (pd_e (ce_ix (u1 hr) (pd_n 4) (pd_n 9))) (by rfl)))) (fun _ _ _ _ _ => (ce_ix (u1 hr) (pd_n 5) (pd_n 9))))))) (ce_var 6))))
  (css_one (cs_asg (ce_var 8) (cg_name 5 sc__law_many.nd))))))
  (css_one (cs_ret (ce_callB (c_sum rfl) rfl B.b_sum bt_sum (pd_e (CO.val (co_lc rfl sc__law_many.nd (ci_val (ce_var 4)) (blkOk_by (own := [("other", 6)]) (by rfl)) (fun _ _ _ _ _ => (cg_name 6 sc__law_many.nd)) (fun _ _ _ _ _ => (cts_one (ct_cmp (r_in (u1 hr)) (pd_n 2) (pd_e (ce_ix (u1 hr) (pd_n 4) (pd_n 6))) (by rfl)))) (fun _ _ _ _ _ => (ce_ix (u1 hr) (pd_n 5) (pd_n 6)))))))))))))), F, g⟩
theorem sc__law_looked : FnScope ["vat", "ladder", "most", "kinds", "above", "kind", "below", "other", "told", "lap", "aim", "bars", "size", "many", "bosses"] ["vat", "ladder", "most"] (defScope st__law_looked) := ⟨rfl, rfl, rfl, by decide +kernel, rfl, by decide +kernel, by decide +kernel⟩
theorem df__law_looked {f : Addr} {fd : FuncData} (B : Bt mg) (F : FunD K "_law_looked" "_law_looked" (defArgs st__law_looked) (defBody st__law_looked) (defScope st__law_looked) [] [] f fd) (g : mg "_law_looked" = some (.ref f)) (D__law_many : Df P w K mg base 1 "_law_many" 4 f__law_many (defArgs st__law_many) ["ladder", "kind", "aim", "many"]) (D__law_reach : Df P w K mg base 1 "_law_reach" 2 f__law_reach (defArgs st__law_reach) ["ladder", "kind"]) (D__law_same : Df P w K mg base 1 "_law_same" 2 f__law_same (defArgs st__law_same) ["told", "due"]) (D__law_take : Df P w K mg base 1 "_law_take" 2 f__law_take (defArgs st__law_take) ["vat", "many"]) (D__law_ways : Df P w K mg base 1 "_law_ways" 5 f__law_ways (defArgs st__law_ways) ["ladder", "kind", "aim", "bars", "most"]) (D_can_be_over : Df P w K mg base 3 "can_be_over" 3 f_can_be_over (defArgs st_can_be_over) ["ladder", "one", "other"]) (D_kinds_above : Df P w K mg base 2 "kinds_above" 2 f_kinds_above (defArgs st_kinds_above) ["ladder", "kind"]) (D_kinds_below : Df P w K mg base 4 "kinds_below" 2 f_kinds_below (defArgs st_kinds_below) ["ladder", "kind"]) (D_ring_kinds : Df P w K mg base 4 "ring_kinds" 1 f_ring_kinds (defArgs st_ring_kinds) ["ladder"]) (D_way_count : Df P w K mg base 2 "way_count" 4 f_way_count (defArgs st_way_count) ["ladder", "kind", "aim", "many"]) (D_ways_of : Df P w K mg base 2 "ways_of" 5 f_ways_of (defArgs st_ways_of) ["ladder", "kind", "aim", "bars", "most"]) :
    Df P w K mg base 5 "_law_looked" 3 f__law_looked (defArgs st__law_looked) ["vat", "ladder", "most"] :=
  ⟨f, fd, _, _, _, fnM (k := 4) (m := m__law_looked) F sc__law_looked (fun cdv A outer s H E hr => (css_cons (cs_setLc 3 rfl sc__law_looked.nd (ci_val (ce_var 1)) (blkOk_by (own := [("kind", 5), ("bosses", 14)]) (by rfl)) (fun _ _ _ _ _ => (cg_tup rfl (cgs_cons (cg_name 5 sc__law_looked.nd) (cgs_cons (cg_name 14 sc__law_looked.nd) cgs_nil)))) (fun _ _ _ _ _ => cts_nil) (fun _ _ _ _ _ => (ce_var 5)))
  (css_cons (cs_setO 4 sc__law_looked.nd co_dct0)
  (css_cons (cs_for PassesOwn.never rfl (ci_val (ce_var 3)) (cg_name 5 sc__law_looked.nd)
  (css_one (cs_setIx 4 (u1 hr) (CO.val (co_callB (c_sort rfl (u64 hr)) rfl B.b_sorted bt_sorted (pd_e (ce_def (pe_def (F := D__law_reach) (hr.mono (by decide)) (cr_v (ce_var 1) (cr_v (ce_var 5) cr_nil)) (fun _ _ _ _ _ _ _ _ _ us hl => match us, hl with | [_, _], _ => rfl)))))) (ce_var 5))))
  (css_cons (cs_for PassesOwn.never rfl (ci_val (ce_var 3)) (cg_name 5 sc__law_looked.nd)
  (css_cons (cs_setLc 6 rfl sc__law_looked.nd (ci_val (ce_var 3)) (blkOk_by (own := [("other", 7)]) (by rfl)) (fun _ _ _ _ _ => (cg_name 7 sc__law_looked.nd)) (fun _ _ _ _ _ => (cts_one (ct_cmp (r_in (u1 hr)) (pd_n 5) (pd_e (ce_ix (u1 hr) (pd_n 4) (pd_n 7))) (by rfl)))) (fun _ _ _ _ _ => (ce_var 7)))
  (css_cons (cs_if (ct_not (ct_tru (pd_e (ce_def (pe_def (F := D__law_same) (hr.mono (by decide)) (cr_v (ce_tup (ca_cons (ce_def (pe_def (F := D_kinds_above) (hr.mono (by decide)) (cr_v (ce_var 1) (cr_v (ce_var 5) cr_nil)) (fun _ _ _ _ _ _ _ _ _ us hl => match us, hl with | [_, _], _ => rfl))) (ca_cons (ce_def (pe_def (F := D_kinds_below) (hr.mono (by decide)) (cr_v (ce_var 1) (cr_v (ce_var 5) cr_nil)) (fun _ _ _ _ _ _ _ _ _ us hl => match us, hl with | [_, _], _ => rfl))) ca_nil))) (cr_v (ce_tup (ca_cons (ce_callT c_tuple rfl B.b_tuple bt_tuple (pd_e (ce_ix (u1 hr) (pd_n 4) (pd_n 5)))) (ca_cons (ce_callT c_tuple rfl B.b_tuple bt_tuple (pd_n 6)) ca_nil))) cr_nil)) (fun _ _ _ _ _ _ _ _ _ us hl => match us, hl with | [_, _], _ => rfl))))))
  (css_one (cs_ret ce_bl))
  css_nil)
  (css_one (cs_for PassesOwn.never rfl (ci_val (ce_var 3)) (cg_name 7 sc__law_looked.nd)
  (css_cons (cs_asg (ce_def (pe_def (F := D_can_be_over) (hr.mono (by decide)) (cr_v (ce_var 1) (cr_v (ce_var 5) (cr_v (ce_var 7) cr_nil))) (fun _ _ _ _ _ _ _ _ _ us hl => match us, hl with | [_, _, _], _ => rfl))) (cg_name 8 sc__law_looked.nd))
  (css_one (cs_if (CW.ct (cw_or (ct_not (ct_tru (pd_e (ce_isi (hn := isi_bool) (ha := (pd_n 8)) (hm := B.b_isinstance) (hm2 := B.b_bool) (hv2 := bt_bool) (hv := bt_isinstance))))) (cw_or1 (ct_cmp (r_ne (u64 hr)) (pd_n 8) (pd_e (ce_cmp (r_in (u1 hr)) (pd_n 5) (pd_e (ce_ix (u1 hr) (pd_n 4) (pd_n 7))) (by rfl))) (by rfl)))))
  (css_one (cs_ret ce_bl))
  css_nil))))))))
  (css_cons (cs_if (ct_not (ct_tru (pd_e (ce_def (pe_def (F := D__law_same) (hr.mono (by decide)) (cr_v (ce_def (pe_def (F := D_ring_kinds) (hr.mono (by decide)) (cr_v (ce_var 1) cr_nil) (fun _ _ _ _ _ _ _ _ _ us hl => match us, hl with | [_], _ => rfl))) (cr_v (ce_callT c_tuple rfl B.b_tuple bt_tuple (pd_e (CO.val (co_lc rfl sc__law_looked.nd (ci_val (ce_var 3)) (blkOk_by (own := [("kind", 5)]) (by rfl)) (fun _ _ _ _ _ => (cg_name 5 sc__law_looked.nd)) (fun _ _ _ _ _ => (cts_one (ct_cmp (r_in (u1 hr)) (pd_n 5) (pd_e (ce_ix (u1 hr) (pd_n 4) (pd_n 5))) (by rfl)))) (fun _ _ _ _ _ => (ce_var 5)))))) cr_nil)) (fun _ _ _ _ _ _ _ _ _ us hl => match us, hl with | [_, _], _ => rfl))))))
  (css_one (cs_ret ce_bl))
  css_nil)
  (css_cons (cs_for PassesOwn.never rfl (ci_rng1 rfl B.b_range (ca_cons ce_int ca_nil)) (cg_name 9 sc__law_looked.nd)
  (css_cons (cs_asg (ce_ix (u1 hr) (pd_n 3) (pd_e (ce_def (pe_def (F := D__law_take) (hr.mono (by decide)) (cr_o 0 (cr_v (ce_callB c_len rfl B.b_len bt_len (pd_n 3)) cr_nil)) (fun _ _ _ _ _ _ _ _ _ us hl => match us, hl with | [_, _], _ => rfl))))) (cg_name 5 sc__law_looked.nd))
  (css_cons (cs_asg (ce_ix (u1 hr) (pd_e (CO.val (co_op r_cat (pd_n 3) (pd_e (CO.val (co_lst (ca_cons ce_str (ca_cons ce_str ca_nil)))))))) (pd_e (ce_def (pe_def (F := D__law_take) (hr.mono (by decide)) (cr_o 0 (cr_v (ce_op r_add (pd_e (ce_callB c_len rfl B.b_len bt_len (pd_n 3))) (pd_e ce_int)) cr_nil)) (fun _ _ _ _ _ _ _ _ _ us hl => match us, hl with | [_, _], _ => rfl))))) (cg_name 10 sc__law_looked.nd))
  (css_cons (cs_asg (ce_callT c_tuple rfl B.b_tuple bt_tuple (pd_e (CO.val (co_lc rfl sc__law_looked.nd (ci_val (ce_var 3)) (blkOk_by (own := [("other", 7)]) (by rfl)) (fun _ _ _ _ _ => (cg_name 7 sc__law_looked.nd)) (fun _ _ _ _ _ => (cts_one (ct_cmp (r_eq (u64 hr)) (pd_e (ce_def (pe_def (F := D__law_take) (hr.mono (by decide)) (cr_o 0 (cr_v ce_int cr_nil)) (fun _ _ _ _ _ _ _ _ _ us hl => match us, hl with | [_, _], _ => rfl)))) (pd_e ce_int) (by rfl)))) (fun _ _ _ _ _ => (ce_var 7)))))) (cg_name 11 sc__law_looked.nd))
  (css_cons (cs_asg (ce_def (pe_def (F := D__law_take) (hr.mono (by decide)) (cr_o 0 (cr_v (ce_op r_add (pd_n 2) (pd_e ce_int)) cr_nil)) (fun _ _ _ _ _ _ _ _ _ us hl => match us, hl with | [_, _], _ => rfl))) (cg_name 12 sc__law_looked.nd))
  (css_cons (cs_if (ct_not (ct_tru (pd_e (ce_def (pe_def (F := D__law_same) (hr.mono (by decide)) (cr_v (ce_def (pe_def (F := D_ways_of) (hr.mono (by decide)) (cr_v (ce_var 1) (cr_v (ce_var 5) (cr_v (ce_var 10) (cr_v (ce_var 11) (cr_v (ce_var 12) cr_nil))))) (fun _ _ _ _ _ _ _ _ _ us hl => match us, hl with | [_, _, _, _, _], _ => rfl))) (cr_v (ce_def (pe_def (F := D__law_ways) (hr.mono (by decide)) (cr_v (ce_var 1) (cr_v (ce_var 5) (cr_v (ce_var 10) (cr_v (ce_var 11) (cr_v (ce_var 12) cr_nil))))) (fun _ _ _ _ _ _ _ _ _ us hl => match us, hl with | [_, _, _, _, _], _ => rfl))) cr_nil)) (fun _ _ _ _ _ _ _ _ _ us hl => match us, hl with | [_, _], _ => rfl))))))
  (css_one (cs_ret ce_bl))
  css_nil)
  (css_cons (cs_asg (ce_ix (u1 hr) (pd_e (ce_tup (ca_cons (ce_def (pe_def (F := D__law_take) (hr.mono (by decide)) (cr_o 0 (cr_v ce_int cr_nil)) (fun _ _ _ _ _ _ _ _ _ us hl => match us, hl with | [_, _], _ => rfl))) (ca_cons (ce_def (pe_def (F := D__law_take) (hr.mono (by decide)) (cr_o 0 (cr_v ce_int cr_nil)) (fun _ _ _ _ _ _ _ _ _ us hl => match us, hl with | [_, _], _ => rfl))) (ca_cons ce_int ca_nil))))) (pd_e (ce_def (pe_def (F := D__law_take) (hr.mono (by decide)) (cr_o 0 (cr_v ce_int cr_nil)) (fun _ _ _ _ _ _ _ _ _ us hl => match us, hl with | [_, _], _ => rfl))))) (cg_name 13 sc__law_looked.nd))
  (css_one (cs_if (ct_not (ct_tru (pd_e (ce_def (pe_def (F := D__law_same) (hr.mono (by decide)) (cr_v (ce_def (pe_def (F := D_way_count) (hr.mono (by decide)) (cr_v (ce_var 1) (cr_v (ce_var 5) (cr_v (ce_var 10) (cr_v (ce_var 13) cr_nil)))) (fun _ _ _ _ _ _ _ _ _ us hl => match us, hl with | [_, _, _, _], _ => rfl))) (cr_v (ce_def (pe_def (F := D__law_many) (hr.mono (by decide)) (cr_v (ce_var 1) (cr_v (ce_var 5) (cr_v (ce_var 10) (cr_v (ce_var 13) cr_nil)))) (fun _ _ _ _ _ _ _ _ _ us hl => match us, hl with | [_, _, _, _], _ => rfl))) cr_nil)) (fun _ _ _ _ _ _ _ _ _ us hl => match us, hl with | [_, _], _ => rfl))))))
  (css_one (cs_ret ce_bl))
  css_nil)))))))))
  (css_one (cs_ret ce_bl))))))))), F, g⟩
theorem sc__law_named : FnScope ["vat", "rungs", "many", "pair", "both", "kind"] ["vat"] (defScope st__law_named) := ⟨rfl, rfl, rfl, by decide +kernel, rfl, by decide +kernel, by decide +kernel⟩
theorem df__law_named {f : Addr} {fd : FuncData} (B : Bt mg) (F : FunD K "_law_named" "_law_named" (defArgs st__law_named) (defBody st__law_named) (defScope st__law_named) [] [] f fd) (g : mg "_law_named" = some (.ref f)) (D__law_same : Df P w K mg base 1 "_law_same" 2 f__law_same (defArgs st__law_same) ["told", "due"]) (D__law_take : Df P w K mg base 1 "_law_take" 2 f__law_take (defArgs st__law_take) ["vat", "many"]) (D__law_words : Df P w K mg base 2 "_law_words" 2 f__law_words (defArgs st__law_words) ["vat", "many"]) (D_can_be_over : Df P w K mg base 3 "can_be_over" 3 f_can_be_over (defArgs st_can_be_over) ["ladder", "one", "other"]) (D_kinds_above : Df P w K mg base 2 "kinds_above" 2 f_kinds_above (defArgs st_kinds_above) ["ladder", "kind"]) (D_kinds_below : Df P w K mg base 4 "kinds_below" 2 f_kinds_below (defArgs st_kinds_below) ["ladder", "kind"]) (D_ring_kinds : Df P w K mg base 4 "ring_kinds" 1 f_ring_kinds (defArgs st_ring_kinds) ["ladder"]) (D_way_count : Df P w K mg base 2 "way_count" 4 f_way_count (defArgs st_way_count) ["ladder", "kind", "aim", "many"]) (D_ways_of : Df P w K mg base 2 "ways_of" 5 f_ways_of (defArgs st_ways_of) ["ladder", "kind", "aim", "bars", "most"]) :
    Df P w K mg base 5 "_law_named" 1 f__law_named (defArgs st__law_named) ["vat"] :=
  ⟨f, fd, _, _, _, fnM (k := 4) (m := m__law_named) F sc__law_named (fun cdv A outer s H E hr => (css_cons (cs_asg (ce_tup (ca_cons (ce_tup (ca_cons ce_str (ca_cons (ce_tup (ca_cons ce_str ca_nil)) ca_nil))) (ca_cons (ce_tup (ca_cons ce_str (ca_cons (ce_tup (ca_cons ce_str (ca_cons ce_str ca_nil))) ca_nil))) (ca_cons (ce_tup (ca_cons ce_str (ca_cons (ce_tup (ca_cons ce_str ca_nil)) ca_nil))) ca_nil)))) (cg_name 1 sc__law_named.nd))
  (css_cons (cs_if (ct_not (ct_tru (pd_e (ce_def (pe_def (F := D__law_same) (hr.mono (by decide)) (cr_v (ce_tup (ca_cons (ce_def (pe_defK0 ["kind", "ladder"] [1, 0] (F := D_kinds_above) (hr.mono (by decide)) (ck_v ce_str (ck_v (ce_var 1) ck_nil)) (fun _ _ _ _ _ _ _ _ _ us ws hl hk => match us, ws, hl, hk with | [], [_, _], _, _ => rfl))) (ca_cons (ce_def (pe_defK0 ["kind", "ladder"] [1, 0] (F := D_kinds_below) (hr.mono (by decide)) (ck_v ce_str (ck_v (ce_var 1) ck_nil)) (fun _ _ _ _ _ _ _ _ _ us ws hl hk => match us, ws, hl, hk with | [], [_, _], _, _ => rfl))) (ca_cons (ce_def (pe_defK0 ["ladder"] [0] (F := D_ring_kinds) (hr.mono (by decide)) (ck_v (ce_var 1) ck_nil) (fun _ _ _ _ _ _ _ _ _ us ws hl hk => match us, ws, hl, hk with | [], [_], _, _ => rfl))) ca_nil)))) (cr_v (ce_tup (ca_cons (ce_tup (ca_cons ce_str (ca_cons ce_str ca_nil))) (ca_cons (ce_tup (ca_cons ce_str (ca_cons ce_str ca_nil))) (ca_cons (ce_tup (ca_cons ce_str ca_nil)) ca_nil)))) cr_nil)) (fun _ _ _ _ _ _ _ _ _ us hl => match us, hl with | [_, _], _ => rfl))))))
  (css_one (cs_ret ce_bl))
  css_nil)
  (css_cons (cs_if (CW.ct (cw_or (ct_cmp r_notB (pd_e (ce_def (pe_defK0 ["other", "one", "ladder"] [2, 1, 0] (F := D_can_be_over) (hr.mono (by decide)) (ck_v ce_str (ck_v ce_str (ck_v (ce_var 1) ck_nil))) (fun _ _ _ _ _ _ _ _ _ us ws hl hk => match us, ws, hl, hk with | [], [_, _, _], _, _ => rfl)))) (pd_e ce_bl) (by rfl)) (cw_or1 (ct_cmp r_notB (pd_e (ce_def (pe_def (F := D_can_be_over) (hr.mono (by decide)) (cr_v (ce_var 1) (cr_v ce_str (cr_v ce_str cr_nil))) (fun _ _ _ _ _ _ _ _ _ us hl => match us, hl with | [_, _, _], _ => rfl)))) (pd_e ce_bl) (by rfl)))))
  (css_one (cs_ret ce_bl))
  css_nil)
  (css_cons (cs_asg (ce_def (pe_def (F := D__law_take) (hr.mono (by decide)) (cr_o 0 (cr_v ce_int cr_nil)) (fun _ _ _ _ _ _ _ _ _ us hl => match us, hl with | [_, _], _ => rfl))) (cg_name 2 sc__law_named.nd))
  (css_cons (cs_if (CW.ct (cw_or (ct_not (ct_tru (pd_e (ce_def (pe_def (F := D__law_same) (hr.mono (by decide)) (cr_v (ce_def (pe_defK0 ["many", "aim", "kind", "ladder"] [3, 2, 1, 0] (F := D_way_count) (hr.mono (by decide)) (ck_v (ce_var 2) (ck_v ce_str (ck_v ce_str (ck_v (ce_var 1) ck_nil)))) (fun _ _ _ _ _ _ _ _ _ us ws hl hk => match us, ws, hl, hk with | [], [_, _, _, _], _, _ => rfl))) (cr_v (ce_callT c_int rfl B.b_int bt_int (pd_e (ce_cmp r_gt (pd_n 2) (pd_e ce_int) (by rfl)))) cr_nil)) (fun _ _ _ _ _ _ _ _ _ us hl => match us, hl with | [_, _], _ => rfl)))))) (cw_or1 (ct_not (ct_tru (pd_e (ce_def (pe_def (F := D__law_same) (hr.mono (by decide)) (cr_v (ce_def (pe_def (F := D_way_count) (hr.mono (by decide)) (cr_v (ce_var 1) (cr_v ce_str (cr_v ce_str (cr_v (ce_var 2) cr_nil)))) (fun _ _ _ _ _ _ _ _ _ us hl => match us, hl with | [_, _, _, _], _ => rfl))) (cr_v (ce_callT c_int rfl B.b_int bt_int (pd_e (ce_cmp (r_eq (u64 hr)) (pd_n 2) (pd_e ce_int) (by rfl)))) cr_nil)) (fun _ _ _ _ _ _ _ _ _ us hl => match us, hl with | [_, _], _ => rfl)))))))))
  (css_one (cs_ret ce_bl))
  css_nil)
  (css_cons (cs_if (ct_not (ct_tru (pd_e (ce_def (pe_def (F := D__law_same) (hr.mono (by decide)) (cr_v (ce_def (pe_defK0 ["most", "bars", "aim", "kind", "ladder"] [4, 3, 2, 1, 0] (F := D_ways_of) (hr.mono (by decide)) (ck_v ce_int (ck_v (ce_tup ca_nil) (ck_v ce_str (ck_v ce_str (ck_v (ce_var 1) ck_nil))))) (fun _ _ _ _ _ _ _ _ _ us ws hl hk => match us, ws, hl, hk with | [], [_, _, _, _, _], _, _ => rfl))) (cr_v (ce_tup (ca_cons (ce_tup (ca_cons ce_str (ca_cons ce_str ca_nil))) (ca_cons (ce_tup (ca_cons ce_str (ca_cons ce_str (ca_cons ce_str ca_nil)))) ca_nil))) cr_nil)) (fun _ _ _ _ _ _ _ _ _ us hl => match us, hl with | [_, _], _ => rfl))))))
  (css_one (cs_ret ce_bl))
  css_nil)
  (css_cons (cs_if (CW.ct (cw_or (ct_not (ct_tru (pd_e (ce_def (pe_def (F := D__law_same) (hr.mono (by decide)) (cr_v (ce_def (pe_def (F := D_ways_of) (hr.mono (by decide)) (cr_v (ce_var 1) (cr_v ce_str (cr_v ce_str (cr_v (ce_tup ca_nil) (cr_v ce_int cr_nil))))) (fun _ _ _ _ _ _ _ _ _ us hl => match us, hl with | [_, _, _, _, _], _ => rfl))) (cr_v (ce_tup (ca_cons (ce_tup ca_nil) ca_nil)) cr_nil)) (fun _ _ _ _ _ _ _ _ _ us hl => match us, hl with | [_, _], _ => rfl)))))) (cw_or1 (ct_not (ct_tru (pd_e (ce_def (pe_def (F := D__law_same) (hr.mono (by decide)) (cr_v (ce_def (pe_def (F := D_ways_of) (hr.mono (by decide)) (cr_v (ce_var 1) (cr_v ce_str (cr_v ce_str (cr_v (ce_tup (ca_cons ce_str ca_nil)) (cr_v ce_int cr_nil))))) (fun _ _ _ _ _ _ _ _ _ us hl => match us, hl with | [_, _, _, _, _], _ => rfl))) (cr_v (ce_tup ca_nil) cr_nil)) (fun _ _ _ _ _ _ _ _ _ us hl => match us, hl with | [_, _], _ => rfl)))))))))
  (css_one (cs_ret ce_bl))
  css_nil)
  (css_cons (cs_setO 3 sc__law_named.nd (co_def (pe_def (F := D__law_words) (hr.mono (by decide)) (cr_o 0 (cr_v ce_int cr_nil)) (fun _ _ _ _ _ _ _ _ _ us hl => match us, hl with | [_, _], _ => rfl))))
  (css_cons (cs_asg (ce_callT c_tuple rfl B.b_tuple bt_tuple (pd_e (CO.val (co_lc rfl sc__law_named.nd (ci_val (ce_var 3)) (blkOk_by (own := [("kind", 5)]) (by rfl)) (fun _ _ _ _ _ => (cg_name 5 sc__law_named.nd)) (fun _ _ _ _ _ => cts_nil) (fun _ _ _ _ _ => (ce_tup (ca_cons (ce_var 5) (ca_cons (ce_op r_add (pd_e (ce_tup (ca_cons ce_str ca_nil))) (pd_e (ce_callT c_tuple rfl B.b_tuple bt_tuple (pd_n 3)))) ca_nil)))))))) (cg_name 4 sc__law_named.nd))
  (css_one (cs_ret (ce_and (ce_def (pe_def (F := D__law_same) (hr.mono (by decide)) (cr_v (ce_def (pe_def (F := D_way_count) (hr.mono (by decide)) (cr_v (ce_var 4) (cr_v (ce_ix (u1 hr) (pd_n 3) (pd_e ce_int)) (cr_v ce_str (cr_v (ce_var 2) cr_nil)))) (fun _ _ _ _ _ _ _ _ _ us hl => match us, hl with | [_, _, _, _], _ => rfl))) (cr_v (ce_op r_shl (pd_e ce_int) (pd_n 2)) cr_nil)) (fun _ _ _ _ _ _ _ _ _ us hl => match us, hl with | [_, _], _ => rfl))) (ce_one (ce_def (pe_def (F := D__law_same) (hr.mono (by decide)) (cr_v (ce_def (pe_def (F := D_ways_of) (hr.mono (by decide)) (cr_v (ce_var 4) (cr_v (ce_ix (u1 hr) (pd_n 3) (pd_e ce_int)) (cr_v (ce_ix (u1 hr) (pd_n 3) (pd_e ce_int)) (cr_v (ce_tup (ca_cons (ce_ix (u1 hr) (pd_n 3) (pd_e ce_int)) ca_nil)) (cr_v ce_int cr_nil))))) (fun _ _ _ _ _ _ _ _ _ us hl => match us, hl with | [_, _, _, _, _], _ => rfl))) (cr_v (ce_tup (ca_cons (ce_tup ca_nil) (ca_cons (ce_tup (ca_cons (ce_ix (u1 hr) (pd_n 3) (pd_e ce_int)) ca_nil)) (ca_cons (ce_tup (ca_cons (ce_ix (u1 hr) (pd_n 3) (pd_e ce_int)) (ca_cons (ce_ix (u1 hr) (pd_n 3) (pd_e ce_int)) ca_nil))) ca_nil)))) cr_nil)) (fun _ _ _ _ _ _ _ _ _ us hl => match us, hl with | [_, _], _ => rfl))))))))))))))))), F, g⟩
theorem sc_law : FnScope ["script", "vat", "lap", "kinds", "full", "kind"] ["script"] (defScope st_law) := ⟨rfl, rfl, rfl, by decide +kernel, rfl, by decide +kernel, by decide +kernel⟩
theorem fn_law {f : Addr} {fd : FuncData} (B : Bt mg) (F : FunD K "law" "law" (defArgs st_law) (defBody st_law) (defScope st_law) [] [] f fd) (D__law_ladder : Df P w K mg base 3 "_law_ladder" 2 f__law_ladder (defArgs st__law_ladder) ["vat", "many"]) (D__law_looked : Df P w K mg base 5 "_law_looked" 3 f__law_looked (defArgs st__law_looked) ["vat", "ladder", "most"]) (D__law_named : Df P w K mg base 5 "_law_named" 1 f__law_named (defArgs st__law_named) ["vat"]) (D__law_take : Df P w K mg base 1 "_law_take" 2 f__law_take (defArgs st__law_take) ["vat", "many"]) (D__law_vat : Df P w K mg base 1 "_law_vat" 1 f__law_vat (defArgs st__law_vat) ["script"]) (D__law_words : Df P w K mg base 2 "_law_words" 2 f__law_words (defArgs st__law_words) ["vat", "many"]) :
    FnOk P w K mg base CX0 6 f fd ["script"] (spM K 1 f_law) :=
  fnM (k := 5) (m := m_law) F sc_law (fun cdv A outer s H E hr => (css_cons (cs_setO 1 sc_law.nd (co_def (pe_def (F := D__law_vat) (hr.mono (by decide)) (cr_v (ce_var 0) cr_nil) (fun _ _ _ _ _ _ _ _ _ us hl => match us, hl with | [_], _ => rfl))))
  (css_cons (cs_if (ct_not (ct_tru (pd_e (ce_def (pe_def (F := D__law_named) (hr.mono (by decide)) (cr_o 1 cr_nil) (fun _ _ _ _ _ _ _ _ _ us hl => match us, hl with | [_], _ => rfl))))))
  (css_one (cs_ret ce_bl))
  css_nil)
  (css_cons (cs_for PassesOwn.never rfl (ci_rng1 rfl B.b_range (ca_cons ce_int ca_nil)) (cg_name 2 sc_law.nd)
  (css_one (cs_if (ct_not (ct_tru (pd_e (ce_def (pe_def (F := D__law_looked) (hr.mono (by decide)) (cr_o 1 (cr_v (ce_def (pe_def (F := D__law_ladder) (hr.mono (by decide)) (cr_o 1 (cr_v (ce_op r_add (pd_e ce_int) (pd_e (ce_def (pe_def (F := D__law_take) (hr.mono (by decide)) (cr_o 1 (cr_v ce_int cr_nil)) (fun _ _ _ _ _ _ _ _ _ us hl => match us, hl with | [_, _], _ => rfl))))) cr_nil)) (fun _ _ _ _ _ _ _ _ _ us hl => match us, hl with | [_, _], _ => rfl))) (cr_v ce_int cr_nil))) (fun _ _ _ _ _ _ _ _ _ us hl => match us, hl with | [_, _, _], _ => rfl))))))
  (css_one (cs_ret ce_bl))
  css_nil)))
  (css_cons (cs_if (ct_cmp (r_ne (u64 hr)) (pd_e (ce_def (pe_def (F := D__law_take) (hr.mono (by decide)) (cr_o 1 (cr_v ce_int cr_nil)) (fun _ _ _ _ _ _ _ _ _ us hl => match us, hl with | [_, _], _ => rfl)))) (pd_e ce_int) (by rfl))
  (css_one (cs_ret ce_bl))
  css_nil)
  (css_cons (cs_setO 3 sc_law.nd (co_def (pe_def (F := D__law_words) (hr.mono (by decide)) (cr_o 1 (cr_v ce_int cr_nil)) (fun _ _ _ _ _ _ _ _ _ us hl => match us, hl with | [_, _], _ => rfl))))
  (css_cons (cs_asg (ce_callT c_tuple rfl B.b_tuple bt_tuple (pd_e (CO.val (co_lc rfl sc_law.nd (ci_val (ce_var 3)) (blkOk_by (own := [("kind", 5)]) (by rfl)) (fun _ _ _ _ _ => (cg_name 5 sc_law.nd)) (fun _ _ _ _ _ => cts_nil) (fun _ _ _ _ _ => (ce_tup (ca_cons (ce_var 5) (ca_cons (ce_op r_add (pd_e (ce_tup (ca_cons ce_str ca_nil))) (pd_e (ce_callT c_tuple rfl B.b_tuple bt_tuple (pd_n 3)))) ca_nil)))))))) (cg_name 4 sc_law.nd))
  (css_one (cs_ret (ce_def (pe_def (F := D__law_looked) (hr.mono (by decide)) (cr_o 1 (cr_v (ce_var 4) (cr_v ce_int cr_nil))) (fun _ _ _ _ _ _ _ _ _ us hl => match us, hl with | [_, _, _], _ => rfl))))))))))))
end
/-! ### the head -/
def d_kinds_of : He.DefD := ⟨("kinds_of", none), "kinds_of", "kinds_of", defArgs st_kinds_of, defBody st_kinds_of, defScope st_kinds_of, [], []⟩
def d_bosses_of : He.DefD := ⟨("bosses_of", none), "bosses_of", "bosses_of", defArgs st_bosses_of, defBody st_bosses_of, defScope st_bosses_of, [], []⟩
def d_ways_of : He.DefD := ⟨("ways_of", none), "ways_of", "ways_of", defArgs st_ways_of, defBody st_ways_of, defScope st_ways_of, [], []⟩
def d_way_count : He.DefD := ⟨("way_count", none), "way_count", "way_count", defArgs st_way_count, defBody st_way_count, defScope st_way_count, [], []⟩
def d_kinds_above : He.DefD := ⟨("kinds_above", none), "kinds_above", "kinds_above", defArgs st_kinds_above, defBody st_kinds_above, defScope st_kinds_above, [], []⟩
def d_can_be_over : He.DefD := ⟨("can_be_over", none), "can_be_over", "can_be_over", defArgs st_can_be_over, defBody st_can_be_over, defScope st_can_be_over, [], []⟩
def d_kinds_below : He.DefD := ⟨("kinds_below", none), "kinds_below", "kinds_below", defArgs st_kinds_below, defBody st_kinds_below, defScope st_kinds_below, [], []⟩
def d_ring_kinds : He.DefD := ⟨("ring_kinds", none), "ring_kinds", "ring_kinds", defArgs st_ring_kinds, defBody st_ring_kinds, defScope st_ring_kinds, [], []⟩
def d__law_take : He.DefD := ⟨("_law_take", none), "_law_take", "_law_take", defArgs st__law_take, defBody st__law_take, defScope st__law_take, [], []⟩
def d__law_vat : He.DefD := ⟨("_law_vat", none), "_law_vat", "_law_vat", defArgs st__law_vat, defBody st__law_vat, defScope st__law_vat, [], []⟩
def d__law_same : He.DefD := ⟨("_law_same", none), "_law_same", "_law_same", defArgs st__law_same, defBody st__law_same, defScope st__law_same, [], []⟩
def d__law_words : He.DefD := ⟨("_law_words", none), "_law_words", "_law_words", defArgs st__law_words, defBody st__law_words, defScope st__law_words, [], []⟩
def d__law_ladder : He.DefD := ⟨("_law_ladder", none), "_law_ladder", "_law_ladder", defArgs st__law_ladder, defBody st__law_ladder, defScope st__law_ladder, [], []⟩
def d__law_reach : He.DefD := ⟨("_law_reach", none), "_law_reach", "_law_reach", defArgs st__law_reach, defBody st__law_reach, defScope st__law_reach, [], []⟩
def d__law_ways : He.DefD := ⟨("_law_ways", none), "_law_ways", "_law_ways", defArgs st__law_ways, defBody st__law_ways, defScope st__law_ways, [], []⟩
def d__law_many : He.DefD := ⟨("_law_many", none), "_law_many", "_law_many", defArgs st__law_many, defBody st__law_many, defScope st__law_many, [], []⟩
def d__law_looked : He.DefD := ⟨("_law_looked", none), "_law_looked", "_law_looked", defArgs st__law_looked, defBody st__law_looked, defScope st__law_looked, [], []⟩
def d__law_named : He.DefD := ⟨("_law_named", none), "_law_named", "_law_named", defArgs st__law_named, defBody st__law_named, defScope st__law_named, [], []⟩
def d_law : He.DefD := ⟨("law", none), "law", "law", defArgs st_law, defBody st_law, defScope st_law, [], []⟩
def fn : List He.DefD := [d_kinds_of, d_bosses_of, d_ways_of, d_way_count, d_kinds_above, d_can_be_over, d_kinds_below, d_ring_kinds, d__law_take, d__law_vat, d__law_same, d__law_words, d__law_ladder, d__law_reach, d__law_ways, d__law_many, d__law_looked, d__law_named, d_law]
def fa : List He.Fa := [.glo "kinds_of", .glo "bosses_of", .glo "ways_of", .glo "way_count", .glo "kinds_above", .glo "can_be_over", .glo "kinds_below", .glo "ring_kinds", .glo "_law_take", .glo "_law_vat", .glo "_law_same", .glo "_law_words", .glo "_law_ladder", .glo "_law_reach", .glo "_law_ways", .glo "_law_many", .glo "_law_looked", .glo "_law_named", .glo "law", .free "abs", .free "bool", .free "dict", .free "int", .free "isinstance", .free "len", .free "list", .free "range", .free "sorted", .free "str", .free "sum", .free "tuple"]
abbrev R : PySem.W.OpenRow := PySem.W.OpenLaw.row PySem.Challenge.rw_whoeversigns_k43_ladders_looked_at
abbrev hk : PySem.W.Hook := He.hookD 4 fa fn
def ob (s : PySem.W.SharedT) : He.AlD := He.obsDG 4 fa fn (HandSHeadRun.getT s)
theorem ob_eq (s : PySem.W.SharedT) : ob s = hk.obs s.abs := He.obsDG_eq (HandSHeadRun.getT_eq s)
def loose : List PySem.Str := ["kinds_of", "bosses_of", "ways_of", "way_count", "kinds_above", "can_be_over", "kinds_below", "ring_kinds", "_law_take", "_law_vat", "_law_same", "_law_words", "_law_ladder", "_law_reach", "_law_ways", "_law_many", "_law_looked", "_law_named"]
theorem run (w : World) : HandSHeadRun.RunEq R (PySem.W.view R.prog [22]) hk ob 1580 loose w := by
  intro os
  kernel_rfl
theorem facts {P : Program} {w : World} {K : PySem.W.Frag} {h : Heap} {mg : Str → Option Value} {f : Addr} (X : K.In h) (G : h.Ns mainGlobals mg) (hfa : mg ("law" : Str) = some (.ref f)) (c : He.SaysD fa fn K) :
    ∃ fd : FuncData, (∀ (s : Shared) (v : Value), BindsTo s fd ⟨[v], []⟩ [("script", v)]) ∧ ∀ base : Heap, K.In base → base.Ns mainGlobals mg → FnOk P w K mg base CX0 6 f fd ["script"] (spM K 1 f_law) := by
  have B : Bt mg := ⟨He.free_ok X G (c.fact 19 (f := .free "abs") rfl), He.free_ok X G (c.fact 20 (f := .free "bool") rfl), He.free_ok X G (c.fact 21 (f := .free "dict") rfl), He.free_ok X G (c.fact 22 (f := .free "int") rfl), He.free_ok X G (c.fact 23 (f := .free "isinstance") rfl), He.free_ok X G (c.fact 24 (f := .free "len") rfl), He.free_ok X G (c.fact 25 (f := .free "list") rfl), He.free_ok X G (c.fact 26 (f := .free "range") rfl), He.free_ok X G (c.fact 27 (f := .free "sorted") rfl), He.free_ok X G (c.fact 28 (f := .free "str") rfl), He.free_ok X G (c.fact 29 (f := .free "sum") rfl), He.free_ok X G (c.fact 30 (f := .free "tuple") rfl)⟩
  obtain ⟨fd_kinds_of, F_kinds_of⟩ := c.def_ 0 (d := d_kinds_of) rfl
  obtain ⟨fd_bosses_of, F_bosses_of⟩ := c.def_ 1 (d := d_bosses_of) rfl
  obtain ⟨fd_ways_of, F_ways_of⟩ := c.def_ 2 (d := d_ways_of) rfl
  obtain ⟨fd_way_count, F_way_count⟩ := c.def_ 3 (d := d_way_count) rfl
  obtain ⟨fd_kinds_above, F_kinds_above⟩ := c.def_ 4 (d := d_kinds_above) rfl
  obtain ⟨fd_can_be_over, F_can_be_over⟩ := c.def_ 5 (d := d_can_be_over) rfl
  obtain ⟨fd_kinds_below, F_kinds_below⟩ := c.def_ 6 (d := d_kinds_below) rfl
  obtain ⟨fd_ring_kinds, F_ring_kinds⟩ := c.def_ 7 (d := d_ring_kinds) rfl
  obtain ⟨fd__law_take, F__law_take⟩ := c.def_ 8 (d := d__law_take) rfl
  obtain ⟨fd__law_vat, F__law_vat⟩ := c.def_ 9 (d := d__law_vat) rfl
  obtain ⟨fd__law_same, F__law_same⟩ := c.def_ 10 (d := d__law_same) rfl
  obtain ⟨fd__law_words, F__law_words⟩ := c.def_ 11 (d := d__law_words) rfl
  obtain ⟨fd__law_ladder, F__law_ladder⟩ := c.def_ 12 (d := d__law_ladder) rfl
  obtain ⟨fd__law_reach, F__law_reach⟩ := c.def_ 13 (d := d__law_reach) rfl
  obtain ⟨fd__law_ways, F__law_ways⟩ := c.def_ 14 (d := d__law_ways) rfl
  obtain ⟨fd__law_many, F__law_many⟩ := c.def_ 15 (d := d__law_many) rfl
  obtain ⟨fd__law_looked, F__law_looked⟩ := c.def_ 16 (d := d__law_looked) rfl
  obtain ⟨fd__law_named, F__law_named⟩ := c.def_ 17 (d := d__law_named) rfl
  obtain ⟨fd_law, F_law⟩ := c.def_ 18 (d := d_law) rfl
  have e := hfa.symm.trans (He.glo_ok X G (c.fact 18 (f := .glo "law") rfl))
  cases e
  have b := FunD.bindsA (ps := ["script"]) F_law fun _ _ _ _ _ _ us hl => match us, hl with | [_], _ => rfl
  refine ⟨fd_law, fun s v => b s [v] rfl, fun base _ _ => ?_⟩
  have D_kinds_of := df_kinds_of (P := P) (w := w) (base := base) B F_kinds_of (He.glo_ok X G (c.fact 0 (f := .glo "kinds_of") rfl)) 
  have D_bosses_of := df_bosses_of (P := P) (w := w) (base := base) B F_bosses_of (He.glo_ok X G (c.fact 1 (f := .glo "bosses_of") rfl)) 
  have D_ways_of := df_ways_of (P := P) (w := w) (base := base) B F_ways_of (He.glo_ok X G (c.fact 2 (f := .glo "ways_of") rfl)) D_bosses_of
  have D_way_count := df_way_count (P := P) (w := w) (base := base) B F_way_count (He.glo_ok X G (c.fact 3 (f := .glo "way_count") rfl)) D_bosses_of D_kinds_of
  have D_kinds_above := df_kinds_above (P := P) (w := w) (base := base) B F_kinds_above (He.glo_ok X G (c.fact 4 (f := .glo "kinds_above") rfl)) D_bosses_of
  have D_can_be_over := df_can_be_over (P := P) (w := w) (base := base) B F_can_be_over (He.glo_ok X G (c.fact 5 (f := .glo "can_be_over") rfl)) D_kinds_above
  have D_kinds_below := df_kinds_below (P := P) (w := w) (base := base) B F_kinds_below (He.glo_ok X G (c.fact 6 (f := .glo "kinds_below") rfl)) D_can_be_over D_kinds_of
  have D_ring_kinds := df_ring_kinds (P := P) (w := w) (base := base) B F_ring_kinds (He.glo_ok X G (c.fact 7 (f := .glo "ring_kinds") rfl)) D_can_be_over D_kinds_of
  have D__law_take := df__law_take (P := P) (w := w) (base := base) B F__law_take (He.glo_ok X G (c.fact 8 (f := .glo "_law_take") rfl)) 
  have D__law_vat := df__law_vat (P := P) (w := w) (base := base) B F__law_vat (He.glo_ok X G (c.fact 9 (f := .glo "_law_vat") rfl)) 
  have D__law_same := df__law_same (P := P) (w := w) (base := base) B F__law_same (He.glo_ok X G (c.fact 10 (f := .glo "_law_same") rfl)) 
  have D__law_words := df__law_words (P := P) (w := w) (base := base) B F__law_words (He.glo_ok X G (c.fact 11 (f := .glo "_law_words") rfl)) D__law_take
  have D__law_ladder := df__law_ladder (P := P) (w := w) (base := base) B F__law_ladder (He.glo_ok X G (c.fact 12 (f := .glo "_law_ladder") rfl)) D__law_take D__law_words
  have D__law_reach := df__law_reach (P := P) (w := w) (base := base) B F__law_reach (He.glo_ok X G (c.fact 13 (f := .glo "_law_reach") rfl)) 
  have D__law_ways := df__law_ways (P := P) (w := w) (base := base) B F__law_ways (He.glo_ok X G (c.fact 14 (f := .glo "_law_ways") rfl)) 
  have D__law_many := df__law_many (P := P) (w := w) (base := base) B F__law_many (He.glo_ok X G (c.fact 15 (f := .glo "_law_many") rfl)) 
  have D__law_looked := df__law_looked (P := P) (w := w) (base := base) B F__law_looked (He.glo_ok X G (c.fact 16 (f := .glo "_law_looked") rfl)) D__law_many D__law_reach D__law_same D__law_take D__law_ways D_can_be_over D_kinds_above D_kinds_below D_ring_kinds D_way_count D_ways_of
  have D__law_named := df__law_named (P := P) (w := w) (base := base) B F__law_named (He.glo_ok X G (c.fact 17 (f := .glo "_law_named") rfl)) D__law_same D__law_take D__law_words D_can_be_over D_kinds_above D_kinds_below D_ring_kinds D_way_count D_ways_of
  exact fn_law B F_law D__law_ladder D__law_looked D__law_named D__law_take D__law_vat D__law_words
theorem sp_law {K : PySem.W.Frag} {H : Hp} {a : Addr} {ns : List Int} {Q : VK} {E : XK} (hl : ns.length ≤ 63) (hS : SqL K H a (ns.map V.int)) (q : ∀ H', Q (.bl true) H') : spM K 1 f_law [.ref a] H Q E := by
  have rin : ∀ (X : AP) (ns : List Int), RpL K X H (ns.map D.int) (ns.map V.int) := fun X ns => by
    induction ns with
    | nil => exact .nil
    | cons n ns ih => exact .cons .int ih
  refine ⟨rfl, fun _ => False, none, [.va (.scr (ns.map .int))], .va (.bl true), none, ⟨rfl, fun i d h => ?_, fun i o h => ?_, fun i o h => ?_, fun i j o o' h _ => ?_, fun a h => by cases h⟩, fun _ h => h.elim, law_ok ns hl, fun H' v _ _ rv => ?_⟩
  · cases i with
    | zero =>
      have h : Sl.va (.scr (ns.map .int)) = .va d := by simpa using h
      cases h
      refine ⟨.ref a, rfl, ?_⟩
      unfold Rp
      refine ⟨a, ns.map V.int, rfl, ?_, rin _ ns⟩
      rcases hS with hS | hS
      · exact .inl ⟨hS, fun z => z.elim id fun z => by cases z⟩
      · exact .inr (.inr hS)
    | succ i => simp at h
  · cases i with
    | zero => simp at h
    | succ i => simp at h
  · cases i with
    | zero => simp at h
    | succ i => simp at h
  · cases i with
    | zero => simp at h
    | succ i => simp at h
  · rw [rv.bo.bl]
    exact q H'
end DL
open PySem PySem.W PySem.Calls PyProof.Rows
theorem PySem.Challenge.cw_whoeversigns_k43_ladders_looked_at_holds : PySem.Challenge.rw_whoeversigns_k43_ladders_looked_at.Holds := by
  w_on; o_law
  refine HandSHeadRun.head_any (r := OpenLaw.row PySem.Challenge.rw_whoeversigns_k43_ladders_looked_at) (q := view (OpenLaw.row PySem.Challenge.rw_whoeversigns_k43_ladders_looked_at).prog [22]) (H := DL.hk) (ob := DL.ob) (M := 1580) (loose := DL.loose) (d := HandSHeadRun.topDef (OpenLaw.row PySem.Challenge.rw_whoeversigns_k43_ladders_looked_at).prog 22) (kwd := []) DL.ob_eq
    (by kernel_rfl) (fun s => by kernel_rfl) DL.run (by kernel_rfl) (by kernel_rfl) (by kernel_rfl) (by rfl) (by first | assumption | decide +kernel) (by decide +kernel) ⟨rfl, rfl, rfl, rfl, rfl, by decide +kernel⟩ ?hw ?hc
  case hw => w_witness2
  case hc =>
    refine L2.walk_ofE (l := PySem.Challenge.rw_whoeversigns_k43_ladders_looked_at) (n := 63) (k := 6) (x := "script") (CX := L2.CX0) rfl (by decide) (by kernel_rfl) ⟨rfl, by decide, by decide⟩ ?F (fun _ _ _ _ z => z)
    intro w mg fa h Y G hmg0
    obtain ⟨K, KX, c⟩ := Y
    have hmg : mg ("law" : PySem.Str) = some (.ref fa) := by
      have e : (HandSHeadRun.topDef (OpenLaw.row PySem.Challenge.rw_whoeversigns_k43_ladders_looked_at).prog 22).name = ("law" : PySem.Str) := by kernel_rfl
      rw [← e]
      exact hmg0
    obtain ⟨fd, hb, hF⟩ := DL.facts (P := (PySem.Challenge.rw_whoeversigns_k43_ladders_looked_at).prog) (w := w) KX G hmg c
    exact ⟨K, fd, DL.spM K 1 DL.f_law, KX, hb, fun H a ns hl _ hS => DL.sp_law hl hS fun _ => rfl, hF⟩

