import PyProof.Rows.All
import Wide.All
import OpenK.AllK
import Wide.FinOn
import HandS.ForMost
import HandS.Lambda
import HandS.HeadHook4
import HandS.TupAny
import HandS.Wide
import HandS.IsInst
import HandS.Flow
import HandS.More
import HandS.Conv
import KE.KDictPairs
import KE.SortData
import HandS.Zip
import HandS.Rev
import HandS.DictComp
import HandS.Defaults
import HandS.Codes
import OpenK.KMore
import KE.DataMinMax
import PyProof.MinMaxWalk
import PyProof.WalkInts
import KE.DataMinKey
import KE.KLam
import KE.KNestM
import PySem.Challenge.RW_whoeversigns_k01_ways
import KE.KStateDown
import Lean
import HandS.Head0
import HandS.Head1
import HandS.Head2
import HandS.HeadEnd
import HandS.HeadHook1
import HandS.HeadHook2
import HandS.WordsExc
import HandS.EndTab
import HandS.HeadWalk
set_option Elab.async false
set_option linter.all false
set_option maxRecDepth 100000
namespace DL
open PySem PySem.Spec PyProof.Rows L2

/-! ### plain data -/
inductive D where
  | non
  | bl (b : Bool)
  | int (i : Int)
  | str (x : Str)
  | tup (ds : List D)
  | lst (ds : List D)
  | dct (ks : List Key) (ds : List D)
  | scr (ds : List D)
/-- what is owned: a list or a dict whose own cell nobody else holds -/
inductive Ow where
  | lst (ds : List D)
  | dct (ks : List Key) (ds : List D)
def Ow.d : Ow → D
  | .lst ds => .lst ds
  | .dct ks ds => .dct ks ds
/-- a slot: nothing, a value, an owned thing, the caller's own thing -/
inductive Sl where
  | no
  | va (d : D)
  | ow (o : Ow)
  | io (o : Ow)
abbrev En := List Sl
abbrev AP := Addr → Prop
abbrev Sg := List (Option V)
/-- no locked thing, no table -/
def Pl (u : HO) : Prop := (∀ o w, u ≠ HO.frz o w) ∧ ∀ ps, u ≠ .tbl ps

def KT (K : PySem.W.Frag) (a : Addr) (xs : List V) : Prop := SqT K (fun _ => none) a xs
def KL (K : PySem.W.Frag) (a : Addr) (xs : List V) : Prop := SqL K (fun _ => none) a xs
theorem KT.sq {K : PySem.W.Frag} {H : Hp} {a : Addr} {xs : List V} (h : KT K a xs) : SqT K H a xs := by
  rcases h with (h | ⟨o, h⟩) | h
  · cases h
  · cases h
  · exact .inr h
theorem KL.sq {K : PySem.W.Frag} {H : Hp} {a : Addr} {xs : List V} (h : KL K a xs) : SqL K H a xs := by
  rcases h with (h | ⟨o, h⟩) | h
  · cases h
  · cases h
  · exact .inr h

/-- a tuple, a list, a dict at a, away from X -/
def TpAt (K : PySem.W.Frag) (X : AP) (H : Hp) (a : Addr) (vs : List V) : Prop := (∃ ob : Obj, H a = some (.frz ob (.tup vs)) ∧ ob.dict = none ∧ ¬ X a) ∨ (KT K a vs ∧ ∃ ob : Obj, K.lookup a = some ob ∧ ob.dict = none)
def ScAt (K : PySem.W.Frag) (X : AP) (H : Hp) (a : Addr) (vs : List V) : Prop := (Rd H a (.lst vs) ∧ ¬ X a) ∨ KL K a vs
def LsAt (X : AP) (H : Hp) (a : Addr) (vs : List V) : Prop := Rd H a (.lst vs) ∧ ¬ X a
def DcAt (X : AP) (H : Hp) (a : Addr) (kvs : List (Key × V)) : Prop := Rd H a (.dK kvs) ∧ ¬ X a
theorem TpAt.sq {K : PySem.W.Frag} {X : AP} {H : Hp} {a : Addr} {vs : List V} (h : TpAt K X H a vs) : SqT K H a vs := by
  rcases h with ⟨ob, h, _⟩ | h
  · exact .inl (.inr ⟨ob, h⟩)
  · exact h.1.sq
/-- what must stay of a heap for what is told by it -/
structure Kp (X : AP) (H H' : Hp) : Prop where
  rd : ∀ a u, Pl u → Rd H a u → ¬ X a → Rd H' a u
  tp : ∀ a ob vs, H a = some (.frz ob (.tup vs)) → ¬ X a → H' a = some (.frz ob (.tup vs))
theorem Kp.refl {X : AP} {H : Hp} : Kp X H H := ⟨fun _ _ _ z _ => z, fun _ _ _ z _ => z⟩
theorem Kp.all {X : AP} {H H' : Hp} (k : ∀ b w, H b = some w → H' b = some w) : Kp X H H' := ⟨fun a u _ q _ => by
  rcases q with q | ⟨w, q⟩
  · exact .inl (k _ _ q)
  · exact .inr ⟨w, k _ _ q⟩, fun a ob vs q _ => k _ _ q⟩
theorem ScAt.sq {K : PySem.W.Frag} {X : AP} {H : Hp} {a : Addr} {vs : List V} (h : ScAt K X H a vs) : SqL K H a vs := by
  rcases h with h | h
  · exact .inl h.1
  · exact h.sq

/-- the defs that make a lambda -/
def lamNames : List Str := ["short_way"]
/-- the table at P belongs to such a def; its lambdas are named q -/
def LamAt (K : PySem.W.Frag) (P : Addr) (q : Str) : Prop := ∃ x ∈ lamNames, P = (He.cT K (x, none)).2 ∧ q = x ++ ".<locals>." ++ "<lambda>"
/-- their tables are in order -/
def JK (K : PySem.W.Frag) (H : Hp) : Prop := ∀ P q, LamAt K P q → LamX.TabS H P q
theorem JK.keep {K : PySem.W.Frag} {H H' : Hp} (h : JK K H) (k : ∀ b w, H b = some w → (∀ vs, w ≠ .lst vs) → (∀ kvs, w ≠ .dK kvs) → H' b = some w) : JK K H' := fun P q l => by
  obtain ⟨ps, h1, h2, h3⟩ := h P q l
  refine ⟨ps, k _ _ h1 (fun _ z => nomatch z) (fun _ z => nomatch z), h2, fun pos cv hc => ?_⟩
  obtain ⟨c, e1, e2⟩ := h3 pos cv hc
  exact ⟨c, e1, k _ _ e2 (fun _ z => by unfold LamX.CodeO at z; cases z) (fun _ z => by unfold LamX.CodeO at z; cases z)⟩
theorem JK.ext {K : PySem.W.Frag} {H H' : Hp} (h : JK K H) (k : ∀ b w, H b = some w → H' b = some w) : JK K H' := h.keep fun b w e _ _ => k b w e
mutual
/-- the value v is the data d, by objects away from X -/
def Rp (K : PySem.W.Frag) (X : AP) (H : Hp) : D → V → Prop
  | .non, v => v = .non
  | .bl b, v => v = .bl b
  | .int i, v => v = .int i
  | .str x, v => v = .str x
  | .tup ds, v => ∃ a vs, v = .ref a ∧ TpAt K X H a vs ∧ RpL K X H ds vs
  | .lst ds, v => ∃ a vs, v = .ref a ∧ LsAt X H a vs ∧ RpL K X H ds vs
  | .scr ds, v => ∃ a vs, v = .ref a ∧ ScAt K X H a vs ∧ RpL K X H ds vs
  | .dct ks ds, v => ∃ a kvs, v = .ref a ∧ DcAt X H a kvs ∧ kvs.map (·.1) = ks ∧ RpL K X H ds (kvs.map (·.2))
def RpL (K : PySem.W.Frag) (X : AP) (H : Hp) : List D → List V → Prop
  | [], vs => vs = []
  | d :: ds, vs => ∃ v ws, vs = v :: ws ∧ Rp K X H d v ∧ RpL K X H ds ws
end

section
variable {K : PySem.W.Frag} {X Y : AP} {H H' : Hp}
theorem RpL.nil : RpL K X H [] [] := by unfold RpL; rfl
theorem RpL.cons {d : D} {v : V} {ds : List D} {vs : List V} (h : Rp K X H d v) (t : RpL K X H ds vs) : RpL K X H (d :: ds) (v :: vs) := by unfold RpL; exact ⟨v, vs, rfl, h, t⟩
theorem RpL.of_nil {vs : List V} (h : RpL K X H [] vs) : vs = [] := by unfold RpL at h; exact h
theorem RpL.of_cons {d : D} {ds : List D} {vs : List V} (h : RpL K X H (d :: ds) vs) : ∃ v ws, vs = v :: ws ∧ Rp K X H d v ∧ RpL K X H ds ws := by unfold RpL at h; exact h
theorem RpL.length : ∀ {ds : List D} {vs : List V}, RpL K X H ds vs → vs.length = ds.length
  | [], vs, h => by rw [h.of_nil]; rfl
  | d :: ds, vs, h => by
    obtain ⟨v, ws, rfl, _, t⟩ := h.of_cons
    rw [List.length_cons, List.length_cons, RpL.length t]
theorem RpL.app : ∀ {ds es : List D} {vs us : List V}, RpL K X H ds vs → RpL K X H es us → RpL K X H (ds ++ es) (vs ++ us)
  | [], es, vs, us, h, t => by rw [h.of_nil]; exact t
  | d :: ds, es, vs, us, h, t => by
    obtain ⟨v, ws, rfl, h1, h2⟩ := h.of_cons
    exact .cons h1 (RpL.app h2 t)
theorem RpL.get : ∀ {ds : List D} {vs : List V} {i : Nat} {d : D}, RpL K X H ds vs → ds[i]? = some d → ∃ v, vs[i]? = some v ∧ Rp K X H d v
  | [], _, _, _, _, e => by simp at e
  | d :: ds, vs, 0, d', h, e => by
    obtain ⟨v, ws, rfl, h1, h2⟩ := h.of_cons
    have e : d = d' := by simpa using e
    exact ⟨v, rfl, e ▸ h1⟩
  | d :: ds, vs, i + 1, d', h, e => by
    obtain ⟨v, ws, rfl, h1, h2⟩ := h.of_cons
    obtain ⟨u, e1, r⟩ := RpL.get (i := i) h2 (by simpa using e)
    exact ⟨u, by simpa using e1, r⟩
theorem RpL.get' : ∀ {ds : List D} {vs : List V} {i : Nat} {v : V}, RpL K X H ds vs → vs[i]? = some v → ∃ d, ds[i]? = some d ∧ Rp K X H d v := fun {ds vs i v} h e => by
  have hl := h.length
  have hi : i < ds.length := by
    rw [← hl]
    exact (List.getElem?_eq_some_iff.mp e).1
  obtain ⟨u, e1, r⟩ := h.get (List.getElem?_eq_getElem hi)
  rw [e] at e1
  cases e1
  exact ⟨_, List.getElem?_eq_getElem hi, r⟩
theorem RpL.take : ∀ {ds : List D} {vs : List V} (n : Nat), RpL K X H ds vs → RpL K X H (ds.take n) (vs.take n)
  | [], vs, n, h => by rw [h.of_nil, List.take_nil, List.take_nil]; exact .nil
  | d :: ds, vs, 0, h => .nil
  | d :: ds, vs, n + 1, h => by
    obtain ⟨v, ws, rfl, h1, h2⟩ := h.of_cons
    exact .cons h1 (RpL.take n h2)
theorem RpL.drop : ∀ {ds : List D} {vs : List V} (n : Nat), RpL K X H ds vs → RpL K X H (ds.drop n) (vs.drop n)
  | [], vs, n, h => by rw [h.of_nil, List.drop_nil, List.drop_nil]; exact .nil
  | d :: ds, vs, 0, h => h
  | d :: ds, vs, n + 1, h => by
    obtain ⟨v, ws, rfl, h1, h2⟩ := h.of_cons
    exact RpL.drop n h2
theorem RpL.set {x : D} {y : V} (r : Rp K X H x y) : ∀ {ds : List D} {vs : List V} (n : Nat), RpL K X H ds vs → RpL K X H (ds.set n x) (vs.set n y)
  | [], vs, n, h => by rw [h.of_nil]; exact .nil
  | d :: ds, vs, 0, h => by
    obtain ⟨v, ws, rfl, h1, h2⟩ := h.of_cons
    exact .cons r h2
  | d :: ds, vs, n + 1, h => by
    obtain ⟨v, ws, rfl, h1, h2⟩ := h.of_cons
    exact .cons h1 (RpL.set r n h2)
theorem RpL.erase : ∀ {ds : List D} {vs : List V} (n : Nat), RpL K X H ds vs → RpL K X H (ds.eraseIdx n) (vs.eraseIdx n)
  | [], vs, n, h => by rw [h.of_nil]; exact .nil
  | d :: ds, vs, 0, h => by
    obtain ⟨v, ws, rfl, h1, h2⟩ := h.of_cons
    exact h2
  | d :: ds, vs, n + 1, h => by
    obtain ⟨v, ws, rfl, h1, h2⟩ := h.of_cons
    exact .cons h1 (RpL.erase n h2)

mutual
/-- the objects stay, or less is shut out -/
theorem Rp.keep (x : ∀ a, Y a → X a) (k : Kp X H H') : ∀ {d : D} {v : V}, Rp K X H d v → Rp K Y H' d v
  | .non, v, h => by unfold Rp at h ⊢; exact h
  | .bl b, v, h => by unfold Rp at h ⊢; exact h
  | .int i, v, h => by unfold Rp at h ⊢; exact h
  | .str z, v, h => by unfold Rp at h ⊢; exact h
  | .tup ds, v, h => by
    unfold Rp at h ⊢
    obtain ⟨a, vs, e, t, l⟩ := h
    refine ⟨a, vs, e, ?_, RpL.keep x k l⟩
    rcases t with ⟨ob, t1, t0, t2⟩ | t
    · exact .inl ⟨ob, k.tp a ob _ t1 t2, t0, fun z => t2 (x a z)⟩
    · exact .inr t
  | .scr ds, v, h => by
    unfold Rp at h ⊢
    obtain ⟨a, vs, e, t, l⟩ := h
    refine ⟨a, vs, e, ?_, RpL.keep x k l⟩
    rcases t with ⟨t1, t2⟩ | t
    · exact .inl ⟨k.rd a _ ⟨(fun _ _ z => nomatch z), (fun _ z => nomatch z)⟩ t1 t2, fun z => t2 (x a z)⟩
    · exact .inr t
  | .lst ds, v, h => by
    unfold Rp at h ⊢
    obtain ⟨a, vs, e, t, l⟩ := h
    exact ⟨a, vs, e, ⟨k.rd a _ ⟨(fun _ _ z => nomatch z), (fun _ z => nomatch z)⟩ t.1 t.2, fun z => t.2 (x a z)⟩, RpL.keep x k l⟩
  | .dct ks ds, v, h => by
    unfold Rp at h ⊢
    obtain ⟨a, kvs, e, t, e2, l⟩ := h
    exact ⟨a, kvs, e, ⟨k.rd a _ ⟨(fun _ _ z => nomatch z), (fun _ z => nomatch z)⟩ t.1 t.2, fun z => t.2 (x a z)⟩, e2, RpL.keep x k l⟩
theorem RpL.keep (x : ∀ a, Y a → X a) (k : Kp X H H') : ∀ {ds : List D} {vs : List V}, RpL K X H ds vs → RpL K Y H' ds vs
  | [], vs, h => by unfold RpL at h ⊢; exact h
  | d :: ds, vs, h => by
    unfold RpL at h ⊢
    obtain ⟨v, ws, e, h1, h2⟩ := h
    exact ⟨v, ws, e, Rp.keep x k h1, RpL.keep x k h2⟩
end
mutual
/-- a place where nothing stands is away from it -/
theorem Rp.away {p : Addr} (n : H p = none) : ∀ {d : D} {v : V}, Rp K X H d v → Rp K (fun a => X a ∨ a = p) H d v
  | .non, v, h => by unfold Rp at h ⊢; exact h
  | .bl b, v, h => by unfold Rp at h ⊢; exact h
  | .int i, v, h => by unfold Rp at h ⊢; exact h
  | .str z, v, h => by unfold Rp at h ⊢; exact h
  | .tup ds, v, h => by
    unfold Rp at h ⊢
    obtain ⟨a, vs, e, t, l⟩ := h
    refine ⟨a, vs, e, ?_, RpL.away n l⟩
    rcases t with ⟨ob, t1, t0, t2⟩ | t
    · refine .inl ⟨ob, t1, t0, fun z => z.elim t2 fun z => ?_⟩
      subst z
      rw [n] at t1
      cases t1
    · exact .inr t
  | .scr ds, v, h => by
    unfold Rp at h ⊢
    obtain ⟨a, vs, e, t, l⟩ := h
    refine ⟨a, vs, e, ?_, RpL.away n l⟩
    rcases t with ⟨t1, t2⟩ | t
    · refine .inl ⟨t1, fun z => z.elim t2 fun z => ?_⟩
      subst z
      rcases t1 with t1 | ⟨o, t1⟩ <;> (rw [n] at t1; cases t1)
    · exact .inr t
  | .lst ds, v, h => by
    unfold Rp at h ⊢
    obtain ⟨a, vs, e, t, l⟩ := h
    refine ⟨a, vs, e, ⟨t.1, fun z => z.elim t.2 fun z => ?_⟩, RpL.away n l⟩
    subst z
    rcases t.1 with t1 | ⟨o, t1⟩ <;> (rw [n] at t1; cases t1)
  | .dct ks ds, v, h => by
    unfold Rp at h ⊢
    obtain ⟨a, kvs, e, t, e2, l⟩ := h
    refine ⟨a, kvs, e, ⟨t.1, fun z => z.elim t.2 fun z => ?_⟩, e2, RpL.away n l⟩
    subst z
    rcases t.1 with t1 | ⟨o, t1⟩ <;> (rw [n] at t1; cases t1)
theorem RpL.away {p : Addr} (n : H p = none) : ∀ {ds : List D} {vs : List V}, RpL K X H ds vs → RpL K (fun a => X a ∨ a = p) H ds vs
  | [], vs, h => by unfold RpL at h ⊢; exact h
  | d :: ds, vs, h => by
    unfold RpL at h ⊢
    obtain ⟨v, ws, e, h1, h2⟩ := h
    exact ⟨v, ws, e, Rp.away n h1, RpL.away n h2⟩
end
end
/-- the owned thing at a -/
def OwAt (K : PySem.W.Frag) (X : AP) (H : Hp) (a : Addr) : Ow → Prop
  | .lst ds => ∃ vs, H a = some (.lst vs) ∧ RpL K X H ds vs
  | .dct ks ds => ∃ kvs, H a = some (.dK kvs) ∧ kvs.map (·.1) = ks ∧ RpL K X H ds (kvs.map (·.2))
theorem OwAt.keep {K : PySem.W.Frag} {X Y : AP} {H H' : Hp} {a : Addr} {o : Ow} (h : OwAt K X H a o) (x : ∀ a, Y a → X a) (k : Kp X H H') (ka : ∀ u, H a = some u → H' a = some u) : OwAt K Y H' a o := by
  cases o with
  | lst ds =>
    obtain ⟨vs, e, r⟩ := h
    exact ⟨vs, ka _ e, r.keep x k⟩
  | dct ks ds =>
    obtain ⟨kvs, e, e2, r⟩ := h
    exact ⟨kvs, ka _ e, e2, r.keep x k⟩
theorem OwAt.there {K : PySem.W.Frag} {X : AP} {H : Hp} {a : Addr} {o : Ow} (h : OwAt K X H a o) : H a ≠ none := by
  cases o with
  | lst ds =>
    obtain ⟨vs, e, r⟩ := h
    rw [e]; simp
  | dct ks ds =>
    obtain ⟨kvs, e, e2, r⟩ := h
    rw [e]; simp
/-- given up as a value -/
theorem OwAt.rp {K : PySem.W.Frag} {X Y : AP} {H : Hp} {a : Addr} {o : Ow} (h : OwAt K X H a o) (x : ∀ a, Y a → X a) (n : ¬ Y a) : Rp K Y H o.d (.ref a) := by
  cases o with
  | lst ds =>
    obtain ⟨vs, e, r⟩ := h
    unfold Ow.d Rp
    exact ⟨a, vs, rfl, ⟨.inl e, n⟩, r.keep x Kp.refl⟩
  | dct ks ds =>
    obtain ⟨kvs, e, e2, r⟩ := h
    unfold Ow.d Rp
    exact ⟨a, kvs, rfl, ⟨.inl e, n⟩, e2, r.keep x Kp.refl⟩
theorem OwAt.away {K : PySem.W.Frag} {X : AP} {H : Hp} {a p : Addr} {o : Ow} (h : OwAt K X H a o) (n : H p = none) : OwAt K (fun a => X a ∨ a = p) H a o := by
  cases o with
  | lst ds =>
    obtain ⟨vs, e, r⟩ := h
    exact ⟨vs, e, r.away n⟩
  | dct ks ds =>
    obtain ⟨kvs, e, e2, r⟩ := h
    exact ⟨kvs, e, e2, r.away n⟩
end DL

set_option Elab.async false
set_option linter.all false
set_option maxRecDepth 100000
namespace DL
open PySem PySem.Spec PyProof.Rows L2

/-- what stays through a body: what is shut out, the heap at the start, the caller's own thing, values in hand -/
structure Fx where
  X0 : AP
  He : Hp
  ioa : Option Addr
  tmp : List (D × V)
  fz : List (Addr × Obj × List (Key × V))
  hd : List (Addr × HO)
  hx : ∀ l ∈ hd, X0 l.1
def Fx.ex (c : Fx) (p : Addr) : Fx := { c with X0 := fun a => c.X0 a ∨ a = p, hx := fun l h => .inl (c.hx l h) }
def Fx.push (c : Fx) (d : D) (v : V) : Fx := { c with tmp := (d, v) :: c.tmp }
def Fx.lock (c : Fx) (a : Addr) (ob : Obj) (kvs : List (Key × V)) : Fx := { c with fz := (a, ob, kvs) :: c.fz }
/-- u stands at a, and a is shut out -/
def Fx.hold (c : Fx) (a : Addr) (u : HO) (h : c.X0 a) : Fx := { c with hd := (a, u) :: c.hd, hx := fun l q => (List.mem_cons.mp q).elim (fun e => by rw [e]; exact h) (c.hx l) }
/-- what stood at b stands there; a dict may have been locked for good -/
def Still (X : AP) (b : Addr) (o : HO) (H : Hp) : Prop := H b = some o ∨ (¬ X b ∧ ∃ ob kvs, o = .dK kvs ∧ H b = some (.frz ob (.dK kvs))) ∨ ∃ ps ps', o = .tbl ps ∧ H b = some (.tbl ps')

def OwnAt (σ : Sg) (ρ : En) (i : Nat) (a : Addr) : Prop := σ[i]? = some (some (.ref a)) ∧ ∃ o, ρ[i]? = some (.ow o) ∨ ρ[i]? = some (.io o)
def Xo (c : Fx) (σ : Sg) (ρ : En) : AP := fun a => c.X0 a ∨ ∃ i, OwnAt σ ρ i a

structure ER (K : PySem.W.Frag) (c : Fx) (σ : Sg) (H : Hp) (ρ : En) : Prop where
  len : σ.length = ρ.length
  va : ∀ (i : Nat) (d : D), ρ[i]? = some (.va d) → ∃ v, σ[i]? = some (some v) ∧ Rp K (Xo c σ ρ) H d v
  ow : ∀ (i : Nat) (o : Ow), ρ[i]? = some (.ow o) → ∃ a, σ[i]? = some (some (.ref a)) ∧ OwAt K (Xo c σ ρ) H a o ∧ ¬ c.X0 a ∧ c.He a = none
  io : ∀ (i : Nat) (o : Ow), ρ[i]? = some (.io o) → ∃ a, σ[i]? = some (some (.ref a)) ∧ OwAt K (Xo c σ ρ) H a o ∧ ¬ c.X0 a ∧ c.ioa = some a
  inj : ∀ i j a, OwnAt σ ρ i a → OwnAt σ ρ j a → i = j
  fr : ∀ b o, c.He b = some o → c.ioa ≠ some b → Still c.X0 b o H
  fz : ∀ l ∈ c.fz, H l.1 = some (.frz l.2.1 (.dK l.2.2))
  hd : ∀ l ∈ c.hd, (∀ ps, l.2 ≠ .tbl ps) → H l.1 = some l.2
  iot : ∀ a, c.ioa = some a → H a ≠ none
  x0 : ∀ a, c.X0 a → H a ≠ none
  tmp : ∀ p ∈ c.tmp, Rp K (Xo c σ ρ) H p.1 p.2
  jj : JK K H

section
variable {K : PySem.W.Frag} {c : Fx} {σ : Sg} {H H' : Hp} {ρ : En} {i j : Nat} {a p : Addr} {o : Ow} {d : D} {v : V}

theorem Still.kept {X : AP} {b : Addr} {o : HO} {H H' : Hp} (h : Still X b o H) (k : ∀ b u, H b = some u → H' b = some u) : Still X b o H' := by
  rcases h with h | ⟨n, ob, kvs, e, h⟩ | ⟨ps, ps', e, h⟩
  · exact .inl (k _ _ h)
  · exact .inr (.inl ⟨n, ob, kvs, e, k _ _ h⟩)
  · exact .inr (.inr ⟨ps, ps', e, k _ _ h⟩)
theorem Still.to {X Y : AP} {b : Addr} {o : HO} {H H' : Hp} (h : Still X b o H) (x : Y b → X b) (k : ∀ u, H b = some u → H' b = some u) : Still Y b o H' := by
  rcases h with h | ⟨n, ob, kvs, e, h⟩ | ⟨ps, ps', e, h⟩
  · exact .inl (k _ h)
  · exact .inr (.inl ⟨fun z => n (x z), ob, kvs, e, k _ h⟩)
  · exact .inr (.inr ⟨ps, ps', e, k _ h⟩)
theorem Still.there {X : AP} {b : Addr} {o : HO} {H : Hp} (h : Still X b o H) : H b ≠ none := by
  rcases h with h | ⟨n, ob, kvs, e, h⟩ | ⟨ps, ps', e, h⟩ <;> (rw [h]; simp)
theorem Rd.none {H : Hp} {a : Addr} {u : HO} (n : H a = none) (h : Rd H a u) : False := by
  rcases h with h | ⟨o, h⟩ <;> (rw [n] at h; cases h)
theorem ER.own (E : ER K c σ H ρ) (h : OwnAt σ ρ i a) : ∃ o, (ρ[i]? = some (.ow o) ∨ ρ[i]? = some (.io o)) ∧ OwAt K (Xo c σ ρ) H a o ∧ ¬ c.X0 a := by
  obtain ⟨hs, o, h | h⟩ := h
  · obtain ⟨b, e, ho, n, _⟩ := E.ow i o h
    rw [hs] at e
    cases e
    exact ⟨o, .inl h, ho, n⟩
  · obtain ⟨b, e, ho, n, _⟩ := E.io i o h
    rw [hs] at e
    cases e
    exact ⟨o, .inr h, ho, n⟩
/-- all objects kept -/
theorem ER.ext (E : ER K c σ H ρ) (k : ∀ b u, H b = some u → H' b = some u) : ER K c σ H' ρ := by
  have kr : Kp (Xo c σ ρ) H H' := .all k
  have kn : ∀ b, H b ≠ none → H' b ≠ none := fun b h z => by
    cases e : H b with
    | none => exact h e
    | some u => rw [k _ _ e] at z; cases z
  refine ⟨E.len, fun i d h => ?_, fun i o h => ?_, fun i o h => ?_, E.inj, fun b o h1 h2 => (E.fr b o h1 h2).kept k, fun l h => k _ _ (E.fz l h), fun l h nt => k _ _ (E.hd l h nt), fun a h => kn _ (E.iot a h), fun a h => kn _ (E.x0 a h), fun q hq => (E.tmp q hq).keep (fun _ z => z) kr, E.jj.ext k⟩
  · obtain ⟨v, e, r⟩ := E.va i d h
    exact ⟨v, e, r.keep (fun _ z => z) kr⟩
  · obtain ⟨a, e, r, n⟩ := E.ow i o h
    exact ⟨a, e, r.keep (fun _ z => z) kr fun u => k _ u, n⟩
  · obtain ⟨a, e, r, n⟩ := E.io i o h
    exact ⟨a, e, r.keep (fun _ z => z) kr fun u => k _ u, n⟩
theorem ER.he_none (E : ER K c σ H ρ) (n : H p = none) : c.He p = none := by
  cases e : c.He p with
  | none => rfl
  | some u =>
    by_cases h1 : c.ioa = some p
    · exact absurd n (E.iot p h1)
    · exact absurd n (E.fr p u e h1).there
theorem upd_keep {H : Hp} {p : Addr} {u : HO} (n : H p = none) : ∀ b w, H b = some w → upd H p u b = some w := fun b w h => by
  rw [upd_ne (ne_of_none h n)]
  exact h
/-- a place where nothing stands may be shut out -/
theorem ER.exn (E : ER K c σ H ρ) (n : H p = none) (y : ∀ a, H a ≠ none → H' a ≠ none) (k : ∀ b u, H b = some u → H' b = some u) (t : H' p ≠ none) : ER K (c.ex p) σ H' ρ := by
  have kr : Kp (fun a => Xo c σ ρ a ∨ a = p) H H' := .all k
  have xx : ∀ a, Xo (c.ex p) σ ρ a → Xo c σ ρ a ∨ a = p := fun a h => by
    rcases h with (h | h) | h
    · exact .inl (.inl h)
    · exact .inr h
    · exact .inl (.inr h)
  refine ⟨E.len, fun i d h => ?_, fun i o h => ?_, fun i o h => ?_, E.inj, fun b o h1 h2 => ?_, fun l h => k _ _ (E.fz l h), fun l h nt => k _ _ (E.hd l h nt), fun a h => y _ (E.iot a h), fun a h => ?_, fun q hq => ((E.tmp q hq).away n).keep xx kr, E.jj.ext k⟩
  · obtain ⟨v, e, r⟩ := E.va i d h
    exact ⟨v, e, (r.away n).keep xx kr⟩
  · obtain ⟨a, e, r, n1, n2⟩ := E.ow i o h
    refine ⟨a, e, (r.away n).keep xx kr fun u => k _ u, fun z => z.elim n1 fun z => ?_, n2⟩
    subst z
    exact r.there n
  · obtain ⟨a, e, r, n1, n2⟩ := E.io i o h
    refine ⟨a, e, (r.away n).keep xx kr fun u => k _ u, fun z => z.elim n1 fun z => ?_, n2⟩
    subst z
    exact r.there n
  · have q := E.fr b o h1 h2
    exact q.to (fun z => z.elim (fun z => z) fun z => absurd n (by rw [← z]; exact q.there)) (k b)
  · rcases h with h | h
    · exact y _ (E.x0 a h)
    · subst h
      exact t
theorem ER.nx0 (E : ER K c σ H ρ) (n : H p = none) : ¬ c.X0 p := fun z => E.x0 p z n
/-- a new object -/
theorem ER.alloc {u : HO} (E : ER K c σ H ρ) (n : H p = none) : ER K (c.ex p) σ (upd H p u) ρ :=
  E.exn n (fun a h z => by
    by_cases e : a = p
    · subst e
      exact h n
    · rw [upd_ne e] at z
      exact h z) (upd_keep n) (by rw [upd_same]; simp)
/-- less is shut out -/
theorem ER.unex (E : ER K (c.ex p) σ H ρ) : ER K c σ H ρ := by
  have xx : ∀ a, Xo c σ ρ a → Xo (c.ex p) σ ρ a := fun a h => by
    rcases h with h | h
    · exact .inl (.inl h)
    · exact .inr h
  refine ⟨E.len, fun i d h => ?_, fun i o h => ?_, fun i o h => ?_, E.inj, fun b o h1 h2 => (E.fr b o h1 h2).to .inl fun _ z => z, E.fz, E.hd, E.iot, fun a h => E.x0 a (.inl h), fun q hq => (E.tmp q hq).keep xx Kp.refl, E.jj⟩
  · obtain ⟨v, e, r⟩ := E.va i d h
    exact ⟨v, e, r.keep xx Kp.refl⟩
  · obtain ⟨a, e, r, n1, n2⟩ := E.ow i o h
    exact ⟨a, e, r.keep xx Kp.refl fun _ z => z, fun z => n1 (.inl z), n2⟩
  · obtain ⟨a, e, r, n1, n2⟩ := E.io i o h
    exact ⟨a, e, r.keep xx (Kp.refl) fun _ z => z, fun z => n1 (.inl z), n2⟩
theorem Xo.ex (h : Xo c σ ρ a) : Xo (c.ex p) σ ρ a := by
  rcases h with h | h
  · exact .inl (.inl h)
  · exact .inr h
/-- a new thing given up as a value -/
theorem ER.newVa (E : ER K (c.ex p) σ H ρ) (h : OwAt K (Xo (c.ex p) σ ρ) H p o) (nx : ¬ c.X0 p) : Rp K (Xo c σ ρ) H o.d (.ref p) :=
  h.rp (fun _ z => z.ex) fun z => by
    rcases z with z | ⟨i, z⟩
    · exact nx z
    · obtain ⟨_, _, _, n⟩ := E.own z
      exact n (.inr rfl)

theorem get_set_ne {α : Type} {l : List α} {i j : Nat} {x : α} (h : j ≠ i) : (l.set i x)[j]? = l[j]? := List.getElem?_set_ne (Ne.symm h)
theorem get_set_eq {α : Type} {l : List α} {i : Nat} {x : α} (h : i < l.length) : (l.set i x)[i]? = some x := List.getElem?_set_self h

theorem OwnAt.ne_set {v : Option V} {s : Sl} (h : OwnAt (σ.set i v) (ρ.set i s) j a) (hj : j ≠ i) : OwnAt σ ρ j a := by
  obtain ⟨e, o, q⟩ := h
  rw [get_set_ne hj] at e
  rw [get_set_ne hj] at q
  exact ⟨e, o, q⟩
/-- a slot gets a value -/
theorem ER.setVa (E : ER K c σ H ρ) (r : Rp K (Xo c σ ρ) H d v) (hi : i < ρ.length) (hio : ∀ o, ρ[i]? ≠ some (.io o)) : ER K c (σ.set i (some v)) H (ρ.set i (.va d)) := by
  have hs : i < σ.length := by rw [E.len]; exact hi
  have ow : ∀ j a, OwnAt (σ.set i (some v)) (ρ.set i (.va d)) j a → j ≠ i ∧ OwnAt σ ρ j a := fun j a h => by
    by_cases hj : j = i
    · subst hj
      obtain ⟨e, o, q⟩ := h
      rw [get_set_eq hi] at q
      rcases q with q | q <;> cases q
    · exact ⟨hj, h.ne_set hj⟩
  have xx : ∀ a, Xo c (σ.set i (some v)) (ρ.set i (.va d)) a → Xo c σ ρ a := fun a h => by
    rcases h with h | ⟨j, h⟩
    · exact .inl h
    · exact .inr ⟨j, (ow j a h).2⟩
  refine ⟨by rw [List.length_set, List.length_set]; exact E.len, fun j d' h => ?_, fun j o h => ?_, fun j o h => ?_, fun j k a h1 h2 => E.inj j k a (ow j a h1).2 (ow k a h2).2, E.fr, E.fz, E.hd, E.iot, E.x0, fun q hq => (E.tmp q hq).keep xx Kp.refl, E.jj⟩
  · by_cases hj : j = i
    · subst hj
      rw [get_set_eq hi] at h
      cases h
      exact ⟨v, get_set_eq hs, r.keep xx Kp.refl⟩
    · rw [get_set_ne hj] at h
      obtain ⟨v', e, r'⟩ := E.va j d' h
      exact ⟨v', by rw [get_set_ne hj]; exact e, r'.keep xx Kp.refl⟩
  · by_cases hj : j = i
    · subst hj
      rw [get_set_eq hi] at h
      cases h
    · rw [get_set_ne hj] at h
      obtain ⟨b, e, r', n⟩ := E.ow j o h
      exact ⟨b, by rw [get_set_ne hj]; exact e, r'.keep xx (Kp.refl) fun _ z => z, n⟩
  · by_cases hj : j = i
    · subst hj
      rw [get_set_eq hi] at h
      cases h
    · rw [get_set_ne hj] at h
      obtain ⟨b, e, r', n⟩ := E.io j o h
      exact ⟨b, by rw [get_set_ne hj]; exact e, r'.keep xx (Kp.refl) fun _ z => z, n⟩
/-- a slot gets a new own thing -/
theorem ER.setOw (E : ER K (c.ex p) σ H ρ) (ho : OwAt K (Xo (c.ex p) σ ρ) H p o) (np : c.He p = none) (nx : ¬ c.X0 p) (hi : i < ρ.length) : ER K c (σ.set i (some (.ref p))) H (ρ.set i (.ow o)) := by
  have hs : i < σ.length := by rw [E.len]; exact hi
  have ow : ∀ j a, OwnAt (σ.set i (some (.ref p))) (ρ.set i (.ow o)) j a → (j = i ∧ a = p) ∨ (j ≠ i ∧ OwnAt σ ρ j a) := fun j a h => by
    by_cases hj : j = i
    · subst hj
      obtain ⟨e, o, q⟩ := h
      rw [get_set_eq hs] at e
      cases e
      exact .inl ⟨rfl, rfl⟩
    · exact .inr ⟨hj, h.ne_set hj⟩
  have nop : ∀ j, ¬ OwnAt σ ρ j p := fun j h => by
    obtain ⟨_, _, _, n⟩ := E.own h
    exact n (.inr rfl)
  have xx : ∀ a, Xo c (σ.set i (some (.ref p))) (ρ.set i (.ow o)) a → Xo (c.ex p) σ ρ a := fun a h => by
    rcases h with h | ⟨j, h⟩
    · exact .inl (.inl h)
    · rcases ow j a h with ⟨_, e⟩ | ⟨_, h⟩
      · exact .inl (.inr e)
      · exact .inr ⟨j, h⟩
  refine ⟨by rw [List.length_set, List.length_set]; exact E.len, fun j d' h => ?_, fun j o' h => ?_, fun j o' h => ?_, fun j k a h1 h2 => ?_, fun b o h1 h2 => (E.fr b o h1 h2).to .inl fun _ z => z, E.fz, E.hd, E.iot, fun a h => E.x0 a (.inl h), fun q hq => (E.tmp q hq).keep xx Kp.refl, E.jj⟩
  · by_cases hj : j = i
    · subst hj
      rw [get_set_eq hi] at h
      cases h
    · rw [get_set_ne hj] at h
      obtain ⟨v', e, r'⟩ := E.va j d' h
      exact ⟨v', by rw [get_set_ne hj]; exact e, r'.keep xx Kp.refl⟩
  · by_cases hj : j = i
    · subst hj
      rw [get_set_eq hi] at h
      cases h
      exact ⟨p, get_set_eq hs, ho.keep xx (Kp.refl) fun _ z => z, nx, np⟩
    · rw [get_set_ne hj] at h
      obtain ⟨b, e, r', n1, n2⟩ := E.ow j o' h
      exact ⟨b, by rw [get_set_ne hj]; exact e, r'.keep xx (Kp.refl) fun _ z => z, fun z => n1 (.inl z), n2⟩
  · by_cases hj : j = i
    · subst hj
      rw [get_set_eq hi] at h
      cases h
    · rw [get_set_ne hj] at h
      obtain ⟨b, e, r', n1, n2⟩ := E.io j o' h
      exact ⟨b, by rw [get_set_ne hj]; exact e, r'.keep xx (Kp.refl) fun _ z => z, fun z => n1 (.inl z), n2⟩
  · rcases ow j a h1 with ⟨e1, e2⟩ | ⟨_, g1⟩
    · rcases ow k a h2 with ⟨e3, e4⟩ | ⟨_, g2⟩
      · exact e1.trans e3.symm
      · exact absurd (e2 ▸ g2) (nop k)
    · rcases ow k a h2 with ⟨e3, e4⟩ | ⟨_, g2⟩
      · exact absurd (e4 ▸ g1) (nop j)
      · exact E.inj j k a g1 g2
/-- slots are forgotten: any σ', ρ' that agree where ρ' knows something -/
theorem ER.forget {σ' : Sg} {ρ' : En} (E : ER K c σ H ρ) (hl : σ'.length = ρ'.length) (h : ∀ (i : Nat) (s : Sl), ρ'[i]? = some s → s ≠ .no → ρ[i]? = some s ∧ σ'[i]? = σ[i]?) : ER K c σ' H ρ' := by
  have ow : ∀ j a, OwnAt σ' ρ' j a → OwnAt σ ρ j a := fun j a q => by
    obtain ⟨e, o, q⟩ := q
    rcases q with q | q
    · obtain ⟨h1, h2⟩ := h j _ q (by simp)
      exact ⟨h2.symm.trans e, o, .inl h1⟩
    · obtain ⟨h1, h2⟩ := h j _ q (by simp)
      exact ⟨h2.symm.trans e, o, .inr h1⟩
  have xx : ∀ a, Xo c σ' ρ' a → Xo c σ ρ a := fun a h => by
    rcases h with h | ⟨j, h⟩
    · exact .inl h
    · exact .inr ⟨j, ow j a h⟩
  refine ⟨hl, fun j d' q => ?_, fun j o q => ?_, fun j o q => ?_, fun j k a h1 h2 => E.inj j k a (ow j a h1) (ow k a h2), E.fr, E.fz, E.hd, E.iot, E.x0, fun q hq => (E.tmp q hq).keep xx Kp.refl, E.jj⟩
  · obtain ⟨h1, h2⟩ := h j _ q (by simp)
    obtain ⟨v', e, r'⟩ := E.va j d' h1
    exact ⟨v', h2.trans e, r'.keep xx Kp.refl⟩
  · obtain ⟨h1, h2⟩ := h j _ q (by simp)
    obtain ⟨b, e, r', n⟩ := E.ow j o h1
    exact ⟨b, h2.trans e, r'.keep xx (Kp.refl) fun _ z => z, n⟩
  · obtain ⟨h1, h2⟩ := h j _ q (by simp)
    obtain ⟨b, e, r', n⟩ := E.io j o h1
    exact ⟨b, h2.trans e, r'.keep xx (Kp.refl) fun _ z => z, n⟩
/-- an own thing given up: a value from now on -/
theorem ER.demote (E : ER K c σ H ρ) (h : ρ[i]? = some (.ow o)) : ∃ a, σ[i]? = some (some (.ref a)) ∧ ER K c σ H (ρ.set i (.va o.d)) ∧ Rp K (Xo c σ (ρ.set i (.va o.d))) H o.d (.ref a) := by
  obtain ⟨a, e, ho, nx, nh⟩ := E.ow i o h
  have hi : i < ρ.length := (List.getElem?_eq_some_iff.mp h).1
  have ow : ∀ j b, OwnAt σ (ρ.set i (.va o.d)) j b → j ≠ i ∧ OwnAt σ ρ j b := fun j b q => by
    by_cases hj : j = i
    · subst hj
      obtain ⟨_, o, q⟩ := q
      rw [get_set_eq hi] at q
      rcases q with q | q <;> cases q
    · obtain ⟨e, o, q⟩ := q
      rw [get_set_ne hj] at q
      exact ⟨hj, e, o, q⟩
  have xx : ∀ b, Xo c σ (ρ.set i (.va o.d)) b → Xo c σ ρ b := fun b q => by
    rcases q with q | ⟨j, q⟩
    · exact .inl q
    · exact .inr ⟨j, (ow j b q).2⟩
  have na : ¬ Xo c σ (ρ.set i (.va o.d)) a := fun q => by
    rcases q with q | ⟨j, q⟩
    · exact nx q
    · obtain ⟨h1, h2⟩ := ow j a q
      exact h1 (E.inj j i a h2 ⟨e, o, .inl h⟩)
  have rp := ho.rp xx na
  refine ⟨a, e, ⟨by rw [List.length_set]; exact E.len, fun j d' q => ?_, fun j o q => ?_, fun j o q => ?_, fun j k b h1 h2 => E.inj j k b (ow j b h1).2 (ow k b h2).2, E.fr, E.fz, E.hd, E.iot, E.x0, fun q hq => (E.tmp q hq).keep xx Kp.refl, E.jj⟩, rp⟩
  · by_cases hj : j = i
    · subst hj
      rw [get_set_eq hi] at q
      cases q
      exact ⟨.ref a, e, rp⟩
    · rw [get_set_ne hj] at q
      obtain ⟨v', e, r'⟩ := E.va j d' q
      exact ⟨v', e, r'.keep xx Kp.refl⟩
  · by_cases hj : j = i
    · subst hj
      rw [get_set_eq hi] at q
      cases q
    · rw [get_set_ne hj] at q
      obtain ⟨b, e, r', n⟩ := E.ow j o q
      exact ⟨b, e, r'.keep xx (Kp.refl) fun _ z => z, n⟩
  · by_cases hj : j = i
    · subst hj
      rw [get_set_eq hi] at q
      cases q
    · rw [get_set_ne hj] at q
      obtain ⟨b, e, r', n⟩ := E.io j o q
      exact ⟨b, e, r'.keep xx (Kp.refl) fun _ z => z, n⟩
/-- .. an own thing's new content -/
def Sl.put : Sl → Ow → Sl
  | .io _, o => .io o
  | _, o => .ow o
theorem ER.mut (E : ER K c σ H ρ) {u : HO} {o' : Ow} (h : OwnAt σ ρ i a) (k : ∀ b w, b ≠ a → H b = some w → H' b = some w) (ho : OwAt K (Xo c σ ρ) H' a o') : ER K c σ H' (ρ.set i ((ρ.getD i .no).put o')) := by
  obtain ⟨hs, o, hr⟩ := h
  have hown : OwnAt σ ρ i a := ⟨hs, o, hr⟩
  have hi : i < ρ.length := by
    rcases hr with hr | hr <;> exact (List.getElem?_eq_some_iff.mp hr).1
  have ht : ((ρ.getD i .no).put o' = .ow o' ∧ ρ[i]? = some (.ow o)) ∨ ((ρ.getD i .no).put o' = .io o' ∧ ρ[i]? = some (.io o)) := by
    rw [List.getD_eq_getElem?_getD]
    rcases hr with hr | hr
    · exact .inl ⟨by rw [hr]; rfl, hr⟩
    · exact .inr ⟨by rw [hr]; rfl, hr⟩
  generalize (ρ.getD i .no).put o' = t at ht
  have ow : ∀ j b, OwnAt σ (ρ.set i t) j b → OwnAt σ ρ j b := fun j b q => by
    by_cases hj : j = i
    · subst hj
      exact ⟨q.1, o, hr⟩
    · obtain ⟨e, o, q⟩ := q
      rw [get_set_ne hj] at q
      exact ⟨e, o, q⟩
  have xx : ∀ b, Xo c σ (ρ.set i t) b → Xo c σ ρ b := fun b q => by
    rcases q with q | ⟨j, q⟩
    · exact .inl q
    · exact .inr ⟨j, ow j b q⟩
  have kr : Kp (Xo c σ ρ) H H' := ⟨fun b u _ q n => by
    have hb : b ≠ a := fun z => n (.inr ⟨i, by rw [z]; exact hown⟩)
    rcases q with q | ⟨w, q⟩
    · exact .inl (k _ _ hb q)
    · exact .inr ⟨w, k _ _ hb q⟩, fun b ob vs q n => k _ _ (fun z => n (.inr ⟨i, by rw [z]; exact hown⟩)) q⟩
  have kn : ∀ b, H b ≠ none → H' b ≠ none := fun b q z => by
    by_cases hb : b = a
    · subst hb
      exact ho.there z
    · cases e : H b with
      | none => exact q e
      | some u => rw [k _ _ hb e] at z; cases z
  obtain ⟨o2, _, hoa, nxa⟩ := E.own hown
  have nfa : ∀ ob w, H a ≠ some (.frz ob w) := fun ob w z => by
    cases o2 with
    | lst ds => obtain ⟨_, e, _⟩ := hoa; rw [z] at e; cases e
    | dct ks ds => obtain ⟨_, e, _⟩ := hoa; rw [z] at e; cases e
  refine ⟨by rw [List.length_set]; exact E.len, fun j d' q => ?_, fun j o3 q => ?_, fun j o3 q => ?_, fun j k b h1 h2 => E.inj j k b (ow j b h1) (ow k b h2), fun b w h1 h2 => ?_, fun l hl => ?_, fun l hl nt => ?_, fun b h => kn _ (E.iot b h), fun b h => kn _ (E.x0 b h), fun q hq => (E.tmp q hq).keep xx kr, E.jj.keep fun b w e n1 n2 => k b w (fun z => by
    subst z
    cases o2 with
    | lst ds => obtain ⟨_, e2, _⟩ := hoa; rw [e] at e2; exact n1 _ (Option.some.inj e2)
    | dct ks ds => obtain ⟨_, e2, _⟩ := hoa; rw [e] at e2; exact n2 _ (Option.some.inj e2)) e⟩
  · by_cases hj : j = i
    · subst hj
      rw [get_set_eq hi] at q
      rcases ht with ⟨z, _⟩ | ⟨z, _⟩ <;> (rw [z] at q; cases q)
    · rw [get_set_ne hj] at q
      obtain ⟨v', e, r'⟩ := E.va j d' q
      exact ⟨v', e, r'.keep xx kr⟩
  · by_cases hj : j = i
    · subst hj
      rw [get_set_eq hi] at q
      rcases ht with ⟨z, z2⟩ | ⟨z, z2⟩
      · rw [z] at q
        cases q
        obtain ⟨b, e, _, n1, n2⟩ := E.ow j o z2
        rw [hs] at e
        cases e
        exact ⟨a, hs, ho.keep xx (Kp.refl) fun _ z => z, n1, n2⟩
      · rw [z] at q
        cases q
    · rw [get_set_ne hj] at q
      obtain ⟨b, e, r', n⟩ := E.ow j o3 q
      refine ⟨b, e, r'.keep xx kr fun u hu => ?_, n⟩
      by_cases hb : b = a
      · subst hb
        exact absurd (E.inj j i b ⟨e, o3, .inl q⟩ hown) hj
      · exact k _ _ hb hu
  · by_cases hj : j = i
    · subst hj
      rw [get_set_eq hi] at q
      rcases ht with ⟨z, z2⟩ | ⟨z, z2⟩
      · rw [z] at q
        cases q
      · rw [z] at q
        cases q
        obtain ⟨b, e, _, n1, n2⟩ := E.io j o z2
        rw [hs] at e
        cases e
        exact ⟨a, hs, ho.keep xx (Kp.refl) fun _ z => z, n1, n2⟩
    · rw [get_set_ne hj] at q
      obtain ⟨b, e, r', n⟩ := E.io j o3 q
      refine ⟨b, e, r'.keep xx kr fun u hu => ?_, n⟩
      by_cases hb : b = a
      · subst hb
        exact absurd (E.inj j i b ⟨e, o3, .inr q⟩ hown) hj
      · exact k _ _ hb hu
  · have hb : b ≠ a := fun z => by
      subst z
      rcases ht with ⟨_, z2⟩ | ⟨_, z2⟩
      · obtain ⟨b', e, _, _, n2⟩ := E.ow i o z2
        rw [hs] at e
        cases e
        rw [n2] at h1
        cases h1
      · obtain ⟨b', e, _, _, n2⟩ := E.io i o z2
        rw [hs] at e
        cases e
        exact h2 n2
    exact (E.fr b w h1 h2).to (fun z => z) fun u q => k _ _ hb q
  · have q := E.fz l hl
    refine k _ _ (fun z => ?_) q
    rw [z] at q
    exact nfa _ _ q
  · exact k _ _ (fun z => nxa (by rw [← z]; exact c.hx l hl)) (E.hd l hl nt)
/-- values in hand -/
theorem ER.push (E : ER K c σ H ρ) (r : Rp K (Xo c σ ρ) H d v) : ER K (c.push d v) σ H ρ :=
  ⟨E.len, E.va, E.ow, E.io, E.inj, E.fr, E.fz, E.hd, E.iot, E.x0, fun q hq => by
    rcases List.mem_cons.mp hq with e | hq
    · subst e
      exact r
    · exact E.tmp q hq, E.jj⟩
theorem ER.pop (E : ER K (c.push d v) σ H ρ) : ER K c σ H ρ ∧ Rp K (Xo c σ ρ) H d v :=
  ⟨⟨E.len, E.va, E.ow, E.io, E.inj, E.fr, E.fz, E.hd, E.iot, E.x0, fun q hq => E.tmp q (List.mem_cons_of_mem _ hq), E.jj⟩, E.tmp (d, v) List.mem_cons_self⟩
/-- a dict that is only read from now on -/
theorem ER.freeze {ob : Obj} {kvs : List (Key × V)} (E : ER K c σ H ρ) (h : H a = some (.dK kvs)) (no : ¬ Xo c σ ρ a) : ER K (c.lock a ob kvs) σ (upd H a (.frz ob (.dK kvs))) ρ := by
  have kr : Kp (Xo c σ ρ) H (upd H a (.frz ob (.dK kvs))) := ⟨fun b w pl q _ => by
    by_cases hb : b = a
    · subst hb
      rcases q with q | ⟨z, q⟩
      · rw [h] at q
        cases q
        exact .inr ⟨ob, upd_same⟩
      · rw [h] at q
        cases q
    · rcases q with q | ⟨z, q⟩
      · exact .inl (by rw [upd_ne hb]; exact q)
      · exact .inr ⟨z, by rw [upd_ne hb]; exact q⟩, fun b o2 vs q _ => by
      rw [upd_ne]
      · exact q
      · intro z
        subst z
        rw [h] at q
        cases q⟩
  have ko : ∀ i b w, OwnAt σ ρ i b → H b = some w → upd H a (.frz ob (.dK kvs)) b = some w := fun i b w q e => by
    rw [upd_ne]
    · exact e
    · intro z
      subst z
      exact no (.inr ⟨i, q⟩)
  have kn : ∀ b, H b ≠ none → upd H a (.frz ob (.dK kvs)) b ≠ none := fun b q z => by
    by_cases hb : b = a
    · subst hb
      rw [upd_same] at z
      cases z
    · rw [upd_ne hb] at z
      exact q z
  refine ⟨E.len, fun i d h => ?_, fun i o h => ?_, fun i o h => ?_, E.inj, fun b w h1 h2 => ?_, fun l hl => ?_, fun l hl nt => ?_, fun b q => kn _ (E.iot b q), fun b q => kn _ (E.x0 b q), fun q hq => (E.tmp q hq).keep (fun _ z => z) kr, E.jj.keep fun b w e n1 n2 => by
    rw [upd_ne]
    · exact e
    · intro z
      subst z
      rw [h] at e
      exact n2 _ (Option.some.inj e).symm⟩
  · obtain ⟨v, e, r⟩ := E.va i d h
    exact ⟨v, e, r.keep (fun _ z => z) kr⟩
  · obtain ⟨b, e, r, n⟩ := E.ow i o h
    exact ⟨b, e, r.keep (fun _ z => z) kr fun w => ko i b w ⟨e, o, .inl h⟩, n⟩
  · obtain ⟨b, e, r, n⟩ := E.io i o h
    exact ⟨b, e, r.keep (fun _ z => z) kr fun w => ko i b w ⟨e, o, .inr h⟩, n⟩
  · by_cases hb : b = a
    · subst hb
      rcases E.fr b w h1 h2 with q | ⟨n, ob', kvs', e, q⟩ | ⟨ps, ps', e, q⟩
      · rw [h] at q
        cases q
        exact .inr (.inl ⟨fun z => no (.inl z), ob, kvs, rfl, upd_same⟩)
      · rw [h] at q
        cases q
      · rw [h] at q
        cases q
    · exact (E.fr b w h1 h2).to (fun z => z) fun u q => by rw [upd_ne hb]; exact q
  · rcases List.mem_cons.mp hl with e | hl
    · subst e
      exact upd_same
    · have q := E.fz l hl
      rw [upd_ne]
      · exact q
      · intro z
        rw [z, h] at q
        cases q
  · rw [upd_ne (fun z => no (.inl (by rw [← z]; exact c.hx l hl)))]
    exact E.hd l hl nt
/-- .. that is locked already -/
theorem ER.locked {ob : Obj} {kvs : List (Key × V)} (E : ER K c σ H ρ) (h : H a = some (.frz ob (.dK kvs))) : ER K (c.lock a ob kvs) σ H ρ :=
  ⟨E.len, E.va, E.ow, E.io, E.inj, E.fr, fun l hl => by
    rcases List.mem_cons.mp hl with e | hl
    · subst e
      exact h
    · exact E.fz l hl, E.hd, E.iot, E.x0, E.tmp, E.jj⟩
/-- a held object in place of another one -/
theorem ER.held {u : HO} {h : c.X0 a} (E : ER K c σ H ρ) (e : H a = some u) : ER K (c.hold a u h) σ H ρ :=
  ⟨E.len, E.va, E.ow, E.io, E.inj, E.fr, E.fz, fun l hl nt => by
    rcases List.mem_cons.mp hl with q | hl
    · subst q
      exact e
    · exact E.hd l hl nt, E.iot, E.x0, E.tmp, E.jj⟩
/-- c' knows more than c -/
structure Wk (c' c : Fx) : Prop where
  x0 : c'.X0 = c.X0
  he : c'.He = c.He
  ioa : c'.ioa = c.ioa
  tmp : ∀ p ∈ c.tmp, p ∈ c'.tmp
  fz : ∀ p ∈ c.fz, p ∈ c'.fz
  hd : ∀ p ∈ c.hd, p ∈ c'.hd
theorem Wk.refl : Wk c c := ⟨rfl, rfl, rfl, fun _ z => z, fun _ z => z, fun _ z => z⟩
theorem Wk.push : Wk (c.push d v) c := ⟨rfl, rfl, rfl, fun _ z => List.mem_cons_of_mem _ z, fun _ z => z, fun _ z => z⟩
theorem Wk.lock {ob : Obj} {kvs : List (Key × V)} : Wk (c.lock a ob kvs) c := ⟨rfl, rfl, rfl, fun _ z => z, fun _ z => List.mem_cons_of_mem _ z, fun _ z => z⟩
theorem Wk.hold {u : HO} {h : c.X0 a} : Wk (c.hold a u h) c := ⟨rfl, rfl, rfl, fun _ z => z, fun _ z => z, fun _ z => List.mem_cons_of_mem _ z⟩
theorem Wk.trans {c1 c2 c3 : Fx} (h : Wk c1 c2) (h2 : Wk c2 c3) : Wk c1 c3 := ⟨h.x0.trans h2.x0, h.he.trans h2.he, h.ioa.trans h2.ioa, fun p q => h.tmp p (h2.tmp p q), fun p q => h.fz p (h2.fz p q), fun p q => h.hd p (h2.hd p q)⟩
theorem Wk.ex {c' : Fx} (h : Wk c' c) : Wk (c'.ex p) (c.ex p) := ⟨by show (fun a => c'.X0 a ∨ a = p) = _; rw [h.x0]; rfl, h.he, h.ioa, h.tmp, h.fz, h.hd⟩
theorem Wk.xo {c' : Fx} (h : Wk c' c) : Xo c' σ ρ = Xo c σ ρ := by
  unfold Xo
  rw [h.x0]
theorem ER.wk {c' : Fx} (E : ER K c' σ H ρ) (h : Wk c' c) : ER K c σ H ρ := by
  obtain ⟨h1, h2, h3, h4, h5, h6⟩ := h
  have hx : Xo c' σ ρ = Xo c σ ρ := by
    unfold Xo
    rw [h1]
  obtain ⟨g1, g2, g3, g4, g5, g6, g7, gh, g8, g9, g10, g11⟩ := E
  rw [hx] at g2 g3 g4 g10
  rw [h1] at g3 g4 g6 g9
  rw [h2] at g3 g6
  rw [h3] at g4 g6 g8
  exact ⟨g1, g2, g3, g4, g5, g6, fun l q => g7 l (h5 l q), fun l q => gh l (h6 l q), g8, g9, fun q hq => g10 q (h4 q hq), g11⟩
end
end DL

set_option Elab.async false
set_option linter.all false
set_option maxRecDepth 100000
namespace DL
open PySem PySem.Spec PyProof.Rows L2

/-! ### meanings -/
abbrev Mm (α : Type) := En → Option (α × En)
/-- how a block ends -/
inductive Fl where
  | nx
  | bk
  | ct
  | rv (d : D)
  | ro (o : Ow)
abbrev Ms := En → Option (Fl × En)

def tE (K : PySem.W.Frag) (m : Mm D) : TE := fun σ H Q => ∃ c ρ d ρ', ER K c σ H ρ ∧ m ρ = some (d, ρ') ∧ ∀ v H', ER K c σ H' ρ' → Rp K (Xo c σ ρ') H' d v → Q v H'
def tO (K : PySem.W.Frag) (m : Mm Ow) : TE := fun σ H Q => ∃ c ρ o ρ', ER K c σ H ρ ∧ m ρ = some (o, ρ') ∧ ∀ p H', ER K (c.ex p) σ H' ρ' → OwAt K (Xo (c.ex p) σ ρ') H' p o → c.He p = none → ¬ c.X0 p → Q (.ref p) H'
def tTm (K : PySem.W.Frag) (m : Mm Bool) : TT := fun σ H Q => ∃ c ρ b ρ', ER K c σ H ρ ∧ m ρ = some (b, ρ') ∧ ∀ H', ER K c σ H' ρ' → Q b H'
def tAm (K : PySem.W.Frag) (m : Mm (List D)) : TA := fun σ H Q => ∃ c ρ ds ρ', ER K c σ H ρ ∧ m ρ = some (ds, ρ') ∧ ∀ vs H', ER K c σ H' ρ' → RpL K (Xo c σ ρ') H' ds vs → Q vs H'
/-- what is wanted behind a block that ends so -/
def EK (K : PySem.W.Frag) (c : Fx) (ρ' : En) (Dn : Ends) : Fl → Prop
  | .nx => ∀ σ' H', ER K c σ' H' ρ' → Dn.nx σ' H'
  | .bk => ∀ σ' H', ER K c σ' H' ρ' → Dn.bk σ' H'
  | .ct => ∀ σ' H', ER K c σ' H' ρ' → Dn.ct σ' H'
  | .rv d => ∀ σ' H' v, ER K c σ' H' ρ' → Rp K (Xo c σ' ρ') H' d v → Dn.rt v H'
  | .ro o => ∀ σ' H' p, ER K (c.ex p) σ' H' ρ' → OwAt K (Xo (c.ex p) σ' ρ') H' p o → c.He p = none → ¬ c.X0 p → Dn.rt (.ref p) H'
def tSm (K : PySem.W.Frag) (m : Ms) : TS := fun Dn σ H => ∃ c ρ f ρ', ER K c σ H ρ ∧ m ρ = some (f, ρ') ∧ EK K c ρ' Dn f

def CE (X : Cx) (e : Expr) (m : Mm D) : Prop := PE X e (tE X.K m)
def CO (X : Cx) (e : Expr) (m : Mm Ow) : Prop := PE X e (tO X.K m)
def CT (X : Cx) (e : Expr) (m : Mm Bool) : Prop := PT X e (tTm X.K m)
def CA (X : Cx) (es : List Expr) (m : Mm (List D)) : Prop := PA X es (tAm X.K m)
def CS (X : Cx) (st : Stmt) (m : Ms) : Prop := PS X st (tSm X.K m)
def CSs (X : Cx) (st : List Stmt) (m : Ms) : Prop := PSs X st (tSm X.K m)

theorem pe_imp {X : Cx} {e : Expr} {t t' : TE} (h : PE X e t) (w : ∀ σ H Q, t' σ H Q → t σ H Q) : PE X e t' := ⟨fun pins s σ H Q I q => h.run pins s σ H Q I (w σ H Q q)⟩
theorem pt_imp {X : Cx} {e : Expr} {t t' : TT} (h : PT X e t) (w : ∀ σ H Q, t' σ H Q → t σ H Q) : PT X e t' := ⟨fun pins s σ H Q I q => h.run pins s σ H Q I (w σ H Q q)⟩
theorem pw_imp {X : Cx} {e : Expr} {t t' : TT} (h : PW X e t) (w : ∀ σ H Q, t' σ H Q → t σ H Q) : PW X e t' := ⟨fun wh pins s σ H Q I q => h.run wh pins s σ H Q I (w σ H Q q)⟩
theorem pa_imp {X : Cx} {es : List Expr} {t t' : TA} (h : PA X es t) (w : ∀ σ H Q, t' σ H Q → t σ H Q) : PA X es t' := ⟨fun pos pins s σ H Q I q => h.run pos pins s σ H Q I (w σ H Q q)⟩
theorem ps_imp {X : Cx} {st : Stmt} {t t' : TS} (h : PS X st t) (w : ∀ Dn σ H, t' Dn σ H → t Dn σ H) : PS X st t' := ⟨fun pins s σ H Dn I q => h.run pins s σ H Dn I (w Dn σ H q)⟩
theorem pss_imp {X : Cx} {st : List Stmt} {t t' : TS} (h : PSs X st t) (w : ∀ Dn σ H, t' Dn σ H → t Dn σ H) : PSs X st t' := ⟨fun pins s σ H Dn I q => h.run pins s σ H Dn I (w Dn σ H q)⟩

/-! ### binding of meanings -/
def bd {α β : Type} (m : Mm α) (f : α → Mm β) : Mm β := fun ρ => match m ρ with
  | some (x, ρ1) => f x ρ1
  | none => none
theorem bd_some {α β : Type} {m : Mm α} {f : α → Mm β} {ρ ρ' : En} {z : β} (h : bd m f ρ = some (z, ρ')) : ∃ x ρ1, m ρ = some (x, ρ1) ∧ f x ρ1 = some (z, ρ') := by
  unfold bd at h
  cases e : m ρ with
  | none => rw [e] at h; cases h
  | some p => obtain ⟨x, ρ1⟩ := p; rw [e] at h; exact ⟨x, ρ1, rfl, h⟩
theorem bd_eq {α β : Type} {m : Mm α} {f : α → Mm β} {ρ ρ1 : En} {x : α} (h : m ρ = some (x, ρ1)) : bd m f ρ = f x ρ1 := by
  unfold bd
  rw [h]
def lf {α : Type} (o : Option α) : Mm α := fun ρ => match o with
  | some x => some (x, ρ)
  | none => none
theorem lf_some {α : Type} {o : Option α} {ρ ρ' : En} {z : α} (h : lf o ρ = some (z, ρ')) : o = some z ∧ ρ = ρ' := by
  unfold lf at h
  cases o with
  | none => cases h
  | some x => cases h; exact ⟨rfl, rfl⟩
theorem lf_eq {α : Type} {o : Option α} {ρ : En} {z : α} (h : o = some z) : lf o ρ = some (z, ρ) := by subst h; rfl
def ret {α : Type} (x : α) : Mm α := fun ρ => some (x, ρ)

/-! ### names -/
/-- a name as a value: an own thing is given up -/
def mVar (i : Nat) : Mm D := fun ρ => match ρ[i]? with
  | some (.va d) => some (d, ρ)
  | some (.ow o) => some (o.d, ρ.set i (.va o.d))
  | _ => none
/-- .. looked at -/
def mBor (i : Nat) : Mm D := fun ρ => match ρ[i]? with
  | some (.va d) => some (d, ρ)
  | some (.ow o) => some (o.d, ρ)
  | some (.io o) => some (o.d, ρ)
  | _ => none
def mC (d : D) : Mm D := ret d

section
variable {X : Cx} {K : PySem.W.Frag} {c : Fx} {σ : Sg} {H H' : Hp} {ρ ρ' : En} {i j : Nat} {a p : Addr} {o : Ow} {d : D} {v : V} {Q : VK}
theorem te_var (h : tE K (mVar i) σ H Q) : tVar i σ H Q := by
  obtain ⟨c, ρ, d, ρ', E, e, q⟩ := h
  unfold mVar at e
  cases z : ρ[i]? with
  | none => rw [z] at e; cases e
  | some s =>
    rw [z] at e
    cases s with
    | no => cases e
    | io _ => cases e
    | va d' =>
      cases e
      obtain ⟨v, hv, r⟩ := E.va i d z
      exact ⟨v, hv, q v H E r⟩
    | ow o =>
      cases e
      obtain ⟨a, ha, E', r⟩ := E.demote z
      exact ⟨.ref a, ha, q _ H E' r⟩
theorem ce_var {x : Str} {pos : Pos} (i : Nat) (hN : X.N[i]? = some x := by rfl) (hv : Vis X.env.scope x := by first | exact Or.inl rfl | exact Or.inr (Or.inl rfl) | exact Or.inr (Or.inr rfl)) (hd : (x == ("__debug__" : Str)) = false := by decide)
    (hcd : (x == ("__classdict__" : Str)) = false := by decide) : CE X (.Name x pos) (mVar i) := pe_imp (pe_var hN hv hd hcd) fun _ _ _ => te_var
theorem te_c (r : ∀ X H, Rp K X H d v) (h : tE K (mC d) σ H Q) : tC v σ H Q := by
  obtain ⟨c, ρ, d', ρ', E, e, q⟩ := h
  cases e
  exact q v H E (r _ _)
theorem ce_int {i j pos} : CE X (.Constant (.int i) j pos) (mC (.int i)) := pe_imp pe_int fun _ _ _ => te_c fun _ _ => by unfold Rp; rfl
theorem ce_bl {b j pos} : CE X (.Constant (.bool b) j pos) (mC (.bl b)) := pe_imp pe_bl fun _ _ _ => te_c fun _ _ => by unfold Rp; rfl
theorem ce_non {j pos} : CE X (.Constant .none j pos) (mC .non) := pe_imp pe_non fun _ _ _ => te_c fun _ _ => by unfold Rp; rfl
theorem ce_str {x j pos} : CE X (.Constant (.str x) j pos) (mC (.str x)) := pe_imp pe_str fun _ _ _ => te_c fun _ _ => by unfold Rp; rfl

/-! ### operands: a name that is looked at, or any expression -/
/-- a thing looked at: its own cell may be owned -/
def Bo (K : PySem.W.Frag) (X : AP) (H : Hp) (d : D) (v : V) : Prop := match d with
  | .lst ds => ∃ a vs, v = .ref a ∧ Rd H a (.lst vs) ∧ RpL K X H ds vs
  | .dct ks ds => ∃ a kvs, v = .ref a ∧ Rd H a (.dK kvs) ∧ kvs.map (·.1) = ks ∧ RpL K X H ds (kvs.map (·.2))
  | d => Rp K X H d v
theorem Rp.bo {X : AP} (h : Rp K X H d v) : Bo K X H d v := by
  cases d with
  | lst ds =>
    unfold Rp at h
    obtain ⟨a, vs, e, l, r⟩ := h
    exact ⟨a, vs, e, l.1, r⟩
  | dct ks ds =>
    unfold Rp at h
    obtain ⟨a, kvs, e, l, e2, r⟩ := h
    exact ⟨a, kvs, e, l.1, e2, r⟩
  | _ => exact h
theorem OwAt.bo {X : AP} (h : OwAt K X H a o) : Bo K X H o.d (.ref a) := by
  cases o with
  | lst ds =>
    obtain ⟨vs, e, r⟩ := h
    exact ⟨a, vs, rfl, .inl e, r⟩
  | dct ks ds =>
    obtain ⟨kvs, e, e2, r⟩ := h
    exact ⟨a, kvs, rfl, .inl e, e2, r⟩
theorem ER.bor (E : ER K c σ H ρ) (h : mBor i ρ = some (d, ρ')) : ρ' = ρ ∧ ∃ v, σ[i]? = some (some v) ∧ Bo K (Xo c σ ρ) H d v := by
  unfold mBor at h
  cases z : ρ[i]? with
  | none => rw [z] at h; cases h
  | some s =>
    rw [z] at h
    cases s with
    | no => cases h
    | va d' =>
      cases h
      obtain ⟨v, hv, r⟩ := E.va i d z
      exact ⟨rfl, v, hv, r.bo⟩
    | ow o =>
      cases h
      obtain ⟨a, ha, r, _⟩ := E.ow i o z
      exact ⟨rfl, _, ha, r.bo⟩
    | io o =>
      cases h
      obtain ⟨a, ha, r, _⟩ := E.io i o z
      exact ⟨rfl, _, ha, r.bo⟩
inductive Opd where
  | n (i : Nat)
  | e (m : Mm D)
def tOpd (K : PySem.W.Frag) : Opd → TE
  | .n i => tVar i
  | .e m => tE K m
def PD (X : Cx) (e : Expr) (o : Opd) : Prop := PE X e (tOpd X.K o)
theorem pd_n {x : Str} {pos : Pos} (i : Nat) (hN : X.N[i]? = some x := by rfl) (hv : Vis X.env.scope x := by first | exact Or.inl rfl | exact Or.inr (Or.inl rfl) | exact Or.inr (Or.inr rfl)) (hd : (x == ("__debug__" : Str)) = false := by decide)
    (hcd : (x == ("__classdict__" : Str)) = false := by decide) : PD X (.Name x pos) (.n i) := pe_var hN hv hd hcd
theorem pd_e {e : Expr} {m : Mm D} (h : CE X e m) : PD X e (.e m) := h
/-- two operands, the left one first; a name is looked at behind both -/
def m2 {α : Type} (a b : Opd) (f : D → D → Option α) : Mm α := match a, b with
  | .e m, .e m' => bd m fun x => bd m' fun y => lf (f x y)
  | .n i, .e m' => bd (mBor i) fun _ => bd m' fun y => bd (mBor i) fun x => lf (f x y)
  | .e m, .n j => bd m fun x => bd (mBor j) fun y => lf (f x y)
  | .n i, .n j => bd (mBor i) fun x => bd (mBor j) fun y => lf (f x y)
def m1 {α : Type} (a : Opd) (f : D → Option α) : Mm α := match a with
  | .e m => bd m fun x => lf (f x)
  | .n i => bd (mBor i) fun x => lf (f x)

/-- what a rule is to do with two operands that are looked at -/
theorem op2 {α : Type} {ma mb : Opd} {f : D → D → Option α} {z : α} {R : V → V → Hp → Prop} (E : ER K c σ H ρ) (e : m2 ma mb f ρ = some (z, ρ'))
    (h : ∀ x y vx vy H', ER K c σ H' ρ' → Bo K (Xo c σ ρ') H' x vx → Bo K (Xo c σ ρ') H' y vy → f x y = some z → R vx vy H') :
    tOpd K ma σ H fun vx H1 => tOpd K mb σ H1 fun vy H2 => R vx vy H2 := by
  cases ma with
  | e m =>
    cases mb with
    | e m' =>
      obtain ⟨x, ρ1, e1, e⟩ := bd_some e
      obtain ⟨y, ρ2, e2, e⟩ := bd_some e
      obtain ⟨e3, rfl⟩ := lf_some e
      exact ⟨c, ρ, x, ρ1, E, e1, fun vx H1 E1 r1 => ⟨c.push x vx, ρ1, y, ρ2, E1.push r1, e2, fun vy H2 E2 r2 => h x y vx vy H2 E2.pop.1 E2.pop.2.bo r2.bo e3⟩⟩
    | n j =>
      obtain ⟨x, ρ1, e1, e⟩ := bd_some e
      obtain ⟨y, ρ2, e2, e⟩ := bd_some e
      obtain ⟨e3, rfl⟩ := lf_some e
      refine ⟨c, ρ, x, ρ1, E, e1, fun vx H1 E1 r1 => ?_⟩
      obtain ⟨rfl, vy, hy, b⟩ := E1.bor e2
      exact ⟨vy, hy, h x y vx vy H1 E1 r1.bo b e3⟩
  | n i =>
    cases mb with
    | e m' =>
      obtain ⟨x0, ρ0, e0, f1⟩ := bd_some e
      obtain ⟨y, ρ1, e1, f2⟩ := bd_some f1
      obtain ⟨x, ρ2, e2, f3⟩ := bd_some f2
      obtain ⟨e3, e4⟩ := lf_some f3
      obtain ⟨z0, vx, hx, _⟩ := E.bor e0
      rw [z0] at e1
      refine ⟨vx, hx, c, ρ, y, ρ1, E, e1, fun vy H1 E1 r1 => ?_⟩
      obtain ⟨z1, vx', hx', b⟩ := E1.bor e2
      rw [hx] at hx'
      cases hx'
      rw [← e4, z1] at h
      exact h x y vx vy H1 E1 b r1.bo e3
    | n j =>
      obtain ⟨x, ρ1, e1, f1⟩ := bd_some e
      obtain ⟨y, ρ2, e2, f2⟩ := bd_some f1
      obtain ⟨e3, e4⟩ := lf_some f2
      obtain ⟨z1, vx, hx, b1⟩ := E.bor e1
      rw [z1] at e2
      obtain ⟨z2, vy, hy, b2⟩ := E.bor e2
      rw [← e4, z2] at h
      exact ⟨vx, hx, vy, hy, h x y vx vy H E b1 b2 e3⟩
theorem op1 {α : Type} {ma : Opd} {f : D → Option α} {z : α} {R : V → Hp → Prop} (E : ER K c σ H ρ) (e : m1 ma f ρ = some (z, ρ'))
    (h : ∀ x vx H', ER K c σ H' ρ' → Bo K (Xo c σ ρ') H' x vx → f x = some z → R vx H') :
    tOpd K ma σ H fun vx H1 => R vx H1 := by
  cases ma with
  | e m =>
    obtain ⟨x, ρ1, e1, f1⟩ := bd_some e
    obtain ⟨e3, e4⟩ := lf_some f1
    rw [← e4] at h
    exact ⟨c, ρ, x, ρ1, E, e1, fun vx H1 E1 r1 => h x vx H1 E1 r1.bo e3⟩
  | n i =>
    obtain ⟨x, ρ1, e1, f1⟩ := bd_some e
    obtain ⟨e3, e4⟩ := lf_some f1
    obtain ⟨z1, vx, hx, b1⟩ := E.bor e1
    rw [← e4, z1] at h
    exact ⟨vx, hx, h x vx H E b1 e3⟩
end
end DL

set_option Elab.async false
set_option linter.all false
set_option maxRecDepth 100000
namespace DL
open PySem PySem.Spec PyProof.Rows L2
/-! ### tuples that are known to the object (no attributes of their own) -/
section
variable {X : Cx} {pins : List (Addr × Obj)} {σ : Sg} {H : Hp} {s : Shared}
/-- a new tuple is laid, known to the object -/
theorem tup_laid {its : List Value} {vs : List V} {t' : Nat} (I : Inv X pins σ H s) (r : Vals vs its) (hz : vs.length ≤ sizeLine) :
    Inv X pins σ (upd H s.heap.objs.size (.frz { cls := .type "tuple", data := .seq its.toArray } (.tup vs))) { s with heap := s.heap.push { cls := .type "tuple", data := .seq its.toArray }, toks := t' } :=
  I.laid (t' := t') (o := .frz { cls := .type "tuple", data := .seq its.toArray } (.tup vs)) (fun b u e => Heap.get?_push_of_some _ e) (Nat.le_refl _) ⟨Heap.get?_push_size _ rfl, hz, its, r, IsTup.new _ _⟩
/-- what follows a new tuple -/
def NewT (H : Hp) (vs : List V) (Q : VK) : Prop := ∀ (p : Addr) (ob : Obj), ob.dict = none → H p = none → Q (.ref p) (upd H p (.frz ob (.tup vs)))
theorem newT_ep {its : List Value} {vs : List V} {Q : VK} {t' : Nat} (I : Inv X pins σ H s) (r : Vals vs its) (hz : vs.length ≤ sizeLine) (q : NewT H vs Q) :
    EP X pins σ Q (.ref s.heap.objs.size) { s with heap := s.heap.push { cls := .type "tuple", data := .seq its.toArray }, toks := t' } :=
  ⟨.ref s.heap.objs.size, _, tup_laid (t' := t') I r hz, rfl, q _ _ rfl (I.hok.fresh (Nat.le_refl _))⟩
def tTupF (t : TA) : TE := fun σ H Q => t σ H fun xs H1 => xs.length ≤ sizeLine ∧ NewT H1 xs Q
theorem pe_tupF {es : List Expr} {k : Nat} {pos : Pos} {t : TA} (h : PA X es t) : PE X (.Tuple es k pos) (tTupF t) := by
  refine ⟨fun pins s σ H Q I hq => ?_⟩
  refine wpAny_Tuple_spliced (thn (h.run pos pins s σ H _ I hq) fun us s1 ⟨xs, H1, I1, r, z, q⟩ => ⟨by rw [← r.length]; exact z, ?_⟩)
  exact newT_ep (t' := s1.toks) I1 r z q
def rCatF (K : PySem.W.Frag) : R2 := fun x y H Q => ∃ a b xs ys, x = .ref a ∧ y = .ref b ∧ SqT K H a xs ∧ SqT K H b ys ∧ xs.length + ys.length ≤ sizeLine ∧
  (xs = [] → Q (.ref b) H) ∧ (xs ≠ [] → ys = [] → Q (.ref a) H) ∧ (xs ≠ [] → ys ≠ [] → NewT H (xs ++ ys) Q)
theorem op_catF : OpR X (binaryOp .Add) (rCatF X.K) := by
  intro pins s σ H x y v u Q I rx ry h
  obtain ⟨a, b, xs, ys, rfl, rfl, ha, hb, hz, q0, q1, q2⟩ := h
  cases rx
  cases ry
  obtain ⟨its, r1, p1, _⟩ := I.tuple ha
  obtain ⟨its2, r2, p2, _⟩ := I.tuple hb
  by_cases hx : xs = []
  · subst hx
    cases r1
    exact cat_tup0 p1 p2 ⟨.ref b, H, I, rfl, q0 rfl⟩
  · refine HT.cat_tup p1 p2 (fun z => hx (r1.nil_iff.mp z)) (fun z => ⟨.ref a, H, I, rfl, q1 hx (r2.nil_iff.mp z)⟩) (fun z => ?_) (by rw [← r1.length, ← r2.length]; exact hz)
    exact newT_ep (t' := s.toks) I (r1.append r2) (by rw [List.length_append]; exact hz) (q2 hx fun w => z (r2.nil_iff.mpr w))
/-- tuple(xs): of a list a new one, of a tuple itself -/
def rTupOf (K : PySem.W.Frag) : List V → Hp → VK → Prop := fun xs H Q => ∃ p ys, xs = [.ref p] ∧ ((SqL K H p ys ∧ NewT H ys Q) ∨ (SqT K H p ys ∧ Q (.ref p) H))
theorem call_tupF : CallR X (.type "tuple") (rTupOf X.K) := by
  intro pins s σ H xs us Q I r h
  obtain ⟨p, ys, rfl, h⟩ := h
  obtain ⟨u, rfl, rx⟩ := vals1 r
  cases rx
  rcases h with ⟨hq, q⟩ | ⟨hq, q⟩
  · obtain ⟨its, r', pl, hz⟩ := I.list hq
    have hlen := r'.length
    refine call_tuple_list pl.isList (fun h' kp => ?_) (by simp only [List.size_toArray] <;> omega)
    have I1 : Inv X pins σ H { s with heap := h' } := I.kept (t' := s.toks) kp
    exact newT_ep (t' := s.toks) I1 r' hz q
  · obtain ⟨its, r', pl, hz⟩ := I.tuple hq
    exact call_tuple_same pl ⟨.ref p, H, I, rfl, q⟩
/-- t[lo:hi] -/
def rSlF (K : PySem.W.Frag) : V → Option Int → Option Int → Hp → VK → Prop := fun x lo hi H Q => ∃ a xs, x = .ref a ∧ SqT K H a xs ∧
  (HT.sIx xs.length 0 lo = 0 ∧ HT.sIx xs.length xs.length hi = xs.length → Q (.ref a) H) ∧ (¬ (HT.sIx xs.length 0 lo = 0 ∧ HT.sIx xs.length xs.length hi = xs.length) → NewT H (cutV xs lo hi) Q)
theorem sl_tupF : SlR X (rSlF X.K) := by
  intro pins s σ H x v vl vu lo hi sl Q I rx hs pl pu h
  obtain ⟨a, xs, rfl, hx, q1, q2⟩ := h
  cases rx
  obtain ⟨its, r, ht, hz⟩ := I.tuple hx
  have hlen : its.toArray.size = xs.length := by rw [List.size_toArray]; exact r.length.symm
  refine ⟨"tuple", _, PyProof.Rows.slot_tuple_getitem.lookup, ht.typeIs, ?_⟩
  by_cases hw : HT.sIx xs.length 0 lo = 0 ∧ HT.sIx xs.length xs.length hi = xs.length
  · exact getItem_tuple_whole ht hs pl pu (by rw [hlen]; exact hw) ⟨.ref a, H, I, rfl, q1 hw⟩
  · refine HT.getItem_tuple_cut ht hs pl pu (by rw [hlen]; exact hw) ?_ (by rw [hlen]; exact hz)
    rw [hlen]
    exact newT_ep (t' := s.toks) I ((r.drop (HT.sIx xs.length 0 lo)).take (HT.sIx xs.length xs.length hi - HT.sIx xs.length 0 lo)) (Nat.le_trans (cutV_length xs lo hi) hz) (q2 hw)
end
end DL

set_option Elab.async false
set_option linter.all false
set_option maxRecDepth 100000
namespace DL
open PySem PySem.Spec PyProof.Rows L2

section
variable {X : Cx} {K : PySem.W.Frag} {c : Fx} {σ : Sg} {H H' : Hp} {ρ ρ' : En} {i j : Nat} {a p : Addr} {o : Ow} {d x y z : D} {v vx vy : V} {Q : VK} {ds : List D} {vs : List V}
/-! ### new objects -/
theorem ER.nXo (E : ER K c σ H ρ) (n : H p = none) : ¬ Xo c σ ρ p := fun z => by
  rcases z with z | ⟨i, z⟩
  · exact E.x0 p z n
  · obtain ⟨_, _, q, _⟩ := E.own z
    exact q.there n
theorem Rp.kept {Xx : AP} (k : ∀ b w, H b = some w → H' b = some w) (r : Rp K Xx H d v) : Rp K Xx H' d v := r.keep (fun _ z => z) (.all k)
theorem RpL.kept {Xx : AP} (k : ∀ b w, H b = some w → H' b = some w) (r : RpL K Xx H ds vs) : RpL K Xx H' ds vs := r.keep (fun _ z => z) (.all k)
theorem ER.newTup {ob : Obj} (E : ER K c σ H ρ) (n : H p = none) (hd : ob.dict = none) (r : RpL K (Xo c σ ρ) H ds vs) : ER K c σ (upd H p (.frz ob (.tup vs))) ρ ∧ Rp K (Xo c σ ρ) (upd H p (.frz ob (.tup vs))) (.tup ds) (.ref p) := by
  refine ⟨E.ext (upd_keep n), ?_⟩
  unfold Rp
  exact ⟨p, vs, rfl, .inl ⟨ob, upd_same, hd, E.nXo n⟩, r.kept (upd_keep n)⟩
theorem ER.newT {Q : VK} (E : ER K c σ H ρ) (r : RpL K (Xo c σ ρ) H ds vs) (k : ∀ v H', ER K c σ H' ρ → Rp K (Xo c σ ρ) H' (.tup ds) v → Q v H') : NewT H vs Q := fun p ob hd n =>
  k _ _ (E.newTup n hd r).1 (E.newTup n hd r).2
theorem RpL.exd (r : RpL K (Xo c σ ρ) H ds vs) (n : H p = none) : RpL K (Xo (c.ex p) σ ρ) H ds vs := (r.away n).keep (fun a q => by
  rcases q with (q | q) | q
  · exact .inl (.inl q)
  · exact .inr q
  · exact .inl (.inr q)) Kp.refl
theorem ER.newLst (E : ER K c σ H ρ) (n : H p = none) (r : RpL K (Xo c σ ρ) H ds vs) : ER K (c.ex p) σ (upd H p (.lst vs)) ρ ∧ OwAt K (Xo (c.ex p) σ ρ) (upd H p (.lst vs)) p (.lst ds) ∧ c.He p = none ∧ ¬ c.X0 p :=
  ⟨E.alloc n, ⟨vs, upd_same, (r.exd n).kept (upd_keep n)⟩, E.he_none n, E.nx0 n⟩
theorem ER.newDct {kvs : List (Key × V)} (E : ER K c σ H ρ) (n : H p = none) (r : RpL K (Xo c σ ρ) H ds (kvs.map (·.2))) : ER K (c.ex p) σ (upd H p (.dK kvs)) ρ ∧ OwAt K (Xo (c.ex p) σ ρ) (upd H p (.dK kvs)) p (.dct (kvs.map (·.1)) ds) ∧ c.He p = none ∧ ¬ c.X0 p :=
  ⟨E.alloc n, ⟨kvs, upd_same, rfl, (r.exd n).kept (upd_keep n)⟩, E.he_none n, E.nx0 n⟩
/-- a new own thing as a value -/
def mOv (m : Mm Ow) : Mm D := bd m fun o => ret o.d
theorem CO.val {e : Expr} {m : Mm Ow} (h : CO X e m) : CE X e (mOv m) := pe_imp h fun σ H Q q => by
  obtain ⟨c, ρ, d, ρ', E, e, q⟩ := q
  obtain ⟨o, ρ1, e1, f1⟩ := bd_some e
  have f2 : some (o.d, ρ1) = some (d, ρ') := f1
  cases f2
  exact ⟨c, ρ, o, _, E, e1, fun p H' E' ho np nx => q _ H' E'.unex (E'.newVa ho nx)⟩

theorem Bo.int {Xx : AP} {i : Int} (h : Bo K Xx H (.int i) v) : v = .int i := by
  unfold Bo Rp at h
  exact h
theorem Bo.bl {Xx : AP} {i : Bool} (h : Bo K Xx H (.bl i) v) : v = .bl i := by
  unfold Bo Rp at h
  exact h
theorem Bo.str {Xx : AP} {i : Str} (h : Bo K Xx H (.str i) v) : v = .str i := by
  unfold Bo Rp at h
  exact h
theorem Bo.non {Xx : AP} (h : Bo K Xx H .non v) : v = .non := by
  unfold Bo Rp at h
  exact h
theorem Bo.tup {Xx : AP} (h : Bo K Xx H (.tup ds) v) : ∃ a vs, v = .ref a ∧ TpAt K Xx H a vs ∧ RpL K Xx H ds vs := by
  unfold Bo Rp at h
  exact h
theorem Bo.scr {Xx : AP} (h : Bo K Xx H (.scr ds) v) : ∃ a vs, v = .ref a ∧ ScAt K Xx H a vs ∧ RpL K Xx H ds vs := by
  unfold Bo Rp at h
  exact h
theorem Rp.int {Xx : AP} {i : Int} : Rp K Xx H (.int i) (.int i) := by unfold Rp; rfl
theorem Rp.bl {Xx : AP} {i : Bool} : Rp K Xx H (.bl i) (.bl i) := by unfold Rp; rfl
theorem Rp.str {Xx : AP} {i : Str} : Rp K Xx H (.str i) (.str i) := by unfold Rp; rfl
theorem Rp.non {Xx : AP} : Rp K Xx H .non .non := by unfold Rp; rfl

/-! ### two-place operators -/
/-- a rule for an operator that gives a value -/
def HasR2 (X : Cx) (f : Value → Value → Sem Value) (g : D → D → Option D) : Prop := ∃ r : R2, OpR X f r ∧ ∀ c σ H ρ x y z vx vy Q, ER X.K c σ H ρ → Bo X.K (Xo c σ ρ) H x vx → Bo X.K (Xo c σ ρ) H y vy → g x y = some z →
  (∀ v H', ER X.K c σ H' ρ → Rp X.K (Xo c σ ρ) H' z v → Q v H') → r vx vy H Q
theorem HasR2.or {f : Value → Value → Sem Value} {g g' : D → D → Option D} (h : HasR2 X f g) (h' : HasR2 X f g') : HasR2 X f fun x y => (g x y).or (g' x y) := by
  obtain ⟨r, o, q⟩ := h
  obtain ⟨r', o', q'⟩ := h'
  refine ⟨_, o.or o', fun c σ H ρ x y z vx vy Q E b1 b2 e k => ?_⟩
  have e : (g x y).or (g' x y) = some z := e
  cases w : g x y with
  | some z1 =>
    rw [w] at e
    exact .inl (q c σ H ρ x y z vx vy Q E b1 b2 (by rw [w]; exact e) k)
  | none =>
    rw [w] at e
    exact .inr (q' c σ H ρ x y z vx vy Q E b1 b2 e k)
theorem HasR2.to {f : Value → Value → Sem Value} {g g' : D → D → Option D} (h : HasR2 X f g) (w : ∀ x y z, g' x y = some z → g x y = some z) : HasR2 X f g' := by
  obtain ⟨r, o, q⟩ := h
  exact ⟨r, o, fun c σ H ρ x y z vx vy Q E b1 b2 e k => q c σ H ρ x y z vx vy Q E b1 b2 (w _ _ _ e) k⟩
variable {e1 e2 e3 : Expr} {oa ob : Opd} {pos : Pos}
theorem ce_op {op : Operator} {g : D → D → Option D} (h : HasR2 X (binaryOp op) g) (ha : PD X e1 oa) (hb : PD X e2 ob) : CE X (.BinOp e1 op e2 pos) (m2 oa ob g) := by
  obtain ⟨r, o, q⟩ := h
  refine pe_imp (pe_op o ha hb) fun σ H Q h => ?_
  obtain ⟨c, ρ, z, ρ', E, e, k⟩ := h
  exact op2 E e fun x y vx vy H' E' b1 b2 w => q c σ H' ρ' x y z vx vy Q E' b1 b2 w k
theorem ce_cmp {op : CmpOp} {g : D → D → Option D} (h : HasR2 X (compareOp op) g) (ha : PD X e1 oa) (hb : PD X e2 ob) (hm : behindInMarks op e2 = false) : CE X (.Compare e1 [op] [e2] pos) (m2 oa ob g) := by
  obtain ⟨r, o, q⟩ := h
  refine pe_imp (pe_cmpR o ha hb hm) fun σ H Q h => ?_
  obtain ⟨c, ρ, z, ρ', E, e, k⟩ := h
  exact op2 E e fun x y vx vy H' E' b1 b2 w => q c σ H' ρ' x y z vx vy Q E' b1 b2 w k
/-- a truth value read as one -/
def asB : D → Option Bool
  | .bl b => some b
  | _ => none
def mTb (m : Mm D) : Mm Bool := bd m fun d => lf (asB d)
theorem asB_some {b : Bool} (h : asB d = some b) : d = .bl b := by
  cases d with
  | bl k =>
    have h : some k = some b := h
    cases h
    rfl
  | _ => cases h
theorem tT_of {m : Mm D} {Q : Bool → Hp → Prop} (h : tTm K (mTb m) σ H Q) : tE K m σ H fun x H' => ∃ k, x = .bl k ∧ Q k H' := by
  obtain ⟨c, ρ, b, ρ', E, e, k⟩ := h
  obtain ⟨d, ρ1, e1, f1⟩ := bd_some e
  obtain ⟨e3, rfl⟩ := lf_some f1
  cases asB_some e3
  exact ⟨c, ρ, _, ρ1, E, e1, fun v H' E' r => ⟨b, by unfold Rp at r; exact r, k H' E'⟩⟩
theorem ct_cmp {op : CmpOp} {g : D → D → Option D} (h : HasR2 X (compareOp op) g) (ha : PD X e1 oa) (hb : PD X e2 ob) (hm : behindInMarks op e2 = false) : CT X (.Compare e1 [op] [e2] pos) (mTb (m2 oa ob g)) := by
  obtain ⟨r, o, q⟩ := h
  refine pt_imp (pt_cmpR o ha hb hm) fun σ H Q h => ?_
  obtain ⟨c, ρ, z, ρ', E, e, k⟩ := tT_of h
  exact op2 E e fun x y vx vy H' E' b1 b2 w => q c σ H' ρ' x y z vx vy _ E' b1 b2 w k

def gAddI : D → D → Option D
  | .int i, .int j => some (.int (i + j))
  | _, _ => none
def gAddS : D → D → Option D
  | .str a, .str b => if a.length + b.length ≤ 16777216 then some (.str (a ++ b)) else none
  | _, _ => none
def gAddT : D → D → Option D
  | .tup a, .tup b => if a.length + b.length ≤ 16777216 then some (.tup (a ++ b)) else none
  | _, _ => none
theorem r_addI : HasR2 X (binaryOp .Add) gAddI := by
  refine ⟨_, op_add, fun c σ H ρ x y z vx vy Q E b1 b2 e k => ?_⟩
  unfold gAddI at e
  split at e <;> cases e
  rw [b1.int, b2.int]
  exact ⟨_, _, rfl, rfl, k _ _ E .int⟩
theorem r_addS : HasR2 X (binaryOp .Add) gAddS := by
  refine ⟨_, op_add_str, fun c σ H ρ x y z vx vy Q E b1 b2 e k => ?_⟩
  unfold gAddS at e
  split at e
  · split at e <;> cases e
    rw [b1.str, b2.str]
    exact ⟨_, _, rfl, rfl, by rw [sizeLine_eq]; assumption, k _ _ E .str⟩
  · cases e
theorem r_addT : HasR2 X (binaryOp .Add) gAddT := by
  refine ⟨_, op_catF, fun c σ H ρ x y z vx vy Q E b1 b2 e k => ?_⟩
  unfold gAddT at e
  split at e
  · split at e
    · cases e
      obtain ⟨a, xs, rfl, t1, r1⟩ := b1.tup
      obtain ⟨b, ys, rfl, t2, r2⟩ := b2.tup
      refine ⟨a, b, xs, ys, rfl, rfl, t1.sq, t2.sq, by rw [sizeLine_eq, r1.length, r2.length]; assumption, fun z => ?_, fun _ z => ?_, fun _ _ => E.newT (r1.app r2) k⟩
      · subst z
        have z := r1.length
        rw [List.eq_nil_of_length_eq_zero z.symm] at k
        refine k _ _ E ?_
        unfold Rp
        exact ⟨b, ys, rfl, t2, r2⟩
      · subst z
        have z := r2.length
        rw [List.eq_nil_of_length_eq_zero z.symm, List.append_nil] at k
        refine k _ _ E ?_
        unfold Rp
        exact ⟨a, xs, rfl, t1, r1⟩
    · cases e
  · cases e
def dAdd (x y : D) : Option D := match x, y with
  | .int i, .int j => some (.int (i + j))
  | .str a, .str b => if a.length + b.length ≤ 16777216 then some (.str (a ++ b)) else none
  | .tup a, .tup b => if a.length + b.length ≤ 16777216 then some (.tup (a ++ b)) else none
  | _, _ => none
theorem r_add : HasR2 X (binaryOp .Add) dAdd := (r_addI.or (r_addS.or r_addT)).to fun x y z h => by
  unfold dAdd at h
  split at h
  · exact h
  · show Option.or none (Option.or (gAddS _ _) _) = _
    unfold gAddS
    split at h <;> cases h
    rename_i q
    simp [q]
  · exact h
  · cases h
def dSub : D → D → Option D
  | .int i, .int j => some (.int (i - j))
  | _, _ => none
theorem r_sub : HasR2 X (binaryOp .Sub) dSub := by
  refine ⟨_, op_sub, fun c σ H ρ x y z vx vy Q E b1 b2 e k => ?_⟩
  unfold dSub at e
  split at e <;> cases e
  rw [b1.int, b2.int]
  exact ⟨_, _, rfl, rfl, k _ _ E .int⟩
/-- the sizes together below a million bits -/
def dMul : D → D → Option D
  | .int i, .int j => if i.natAbs.log2 + j.natAbs.log2 < 1000000 then some (.int (i * j)) else none
  | _, _ => none
theorem r_mul : HasR2 X (binaryOp .Mult) dMul := by
  refine ⟨_, op_mulW, fun c σ H ρ x y z vx vy Q E b1 b2 e k => ?_⟩
  unfold dMul at e
  split at e
  · split at e <;> cases e
    rw [b1.int, b2.int]
    exact ⟨_, _, rfl, rfl, by unfold CMulW; assumption, k _ _ E .int⟩
  · cases e
def dFdiv : D → D → Option D
  | .int i, .int j => if 0 < j ∧ j.natAbs.log2 < 9000 then some (.int (i / j)) else none
  | _, _ => none
theorem r_fdiv : HasR2 X (binaryOp .FloorDiv) dFdiv := by
  refine ⟨_, op_fdivW, fun c σ H ρ x y z vx vy Q E b1 b2 e k => ?_⟩
  unfold dFdiv at e
  split at e
  · split at e <;> cases e
    rw [b1.int, b2.int]
    exact ⟨_, _, rfl, rfl, by unfold CDivW; assumption, k _ _ E .int⟩
  · cases e
def dMod : D → D → Option D
  | .int i, .int j => if 0 < j then some (.int (i % j)) else none
  | _, _ => none
theorem r_mod : HasR2 X (binaryOp .Mod) dMod := by
  refine ⟨_, op_mod, fun c σ H ρ x y z vx vy Q E b1 b2 e k => ?_⟩
  unfold dMod at e
  split at e
  · split at e <;> cases e
    rw [b1.int, b2.int]
    exact ⟨_, _, rfl, rfl, by assumption, k _ _ E .int⟩
  · cases e
def dPow : D → D → Option D
  | .int i, .int j => if 0 ≤ j ∧ j ≤ 1000000 ∧ i.natAbs < 18446744073709551616 then some (.int (i ^ j.toNat)) else none
  | _, _ => none
theorem r_pow : HasR2 X (binaryOp .Pow) dPow := by
  refine ⟨_, op_pow, fun c σ H ρ x y z vx vy Q E b1 b2 e k => ?_⟩
  unfold dPow at e
  split at e
  · split at e <;> cases e
    rw [b1.int, b2.int]
    exact ⟨_, _, rfl, rfl, by unfold CPow; assumption, k _ _ E .int⟩
  · cases e
def dShl : D → D → Option D
  | .int i, .int j => if 0 ≤ j ∧ j ≤ 1000000 ∧ i.natAbs < 18446744073709551616 then some (.int (i * 2 ^ j.toNat)) else none
  | _, _ => none
theorem r_shl : HasR2 X (binaryOp .LShift) dShl := by
  refine ⟨_, op_shl, fun c σ H ρ x y z vx vy Q E b1 b2 e k => ?_⟩
  unfold dShl at e
  split at e
  · split at e <;> cases e
    rw [b1.int, b2.int]
    exact ⟨_, _, rfl, rfl, by unfold CPow; assumption, k _ _ E .int⟩
  · cases e
/-- a list of two lists: a new one -/
def HasO2 (X : Cx) (f : Value → Value → Sem Value) (g : D → D → Option Ow) : Prop := ∃ r : R2, OpR X f r ∧ ∀ c σ H ρ x y z vx vy Q, ER X.K c σ H ρ → Bo X.K (Xo c σ ρ) H x vx → Bo X.K (Xo c σ ρ) H y vy → g x y = some z →
  (∀ p H', ER X.K (c.ex p) σ H' ρ → OwAt X.K (Xo (c.ex p) σ ρ) H' p z → c.He p = none → ¬ c.X0 p → Q (.ref p) H') → r vx vy H Q
theorem co_op {op : Operator} {g : D → D → Option Ow} (h : HasO2 X (binaryOp op) g) (ha : PD X e1 oa) (hb : PD X e2 ob) : CO X (.BinOp e1 op e2 pos) (m2 oa ob g) := by
  obtain ⟨r, o, q⟩ := h
  refine pe_imp (pe_op o ha hb) fun σ H Q h => ?_
  obtain ⟨c, ρ, z, ρ', E, e, k⟩ := h
  exact op2 E e fun x y vx vy H' E' b1 b2 w => q c σ H' ρ' x y z vx vy Q E' b1 b2 w k
def rCatR : R2 := fun x y H Q => ∃ l b xs zs, x = .ref l ∧ y = .ref b ∧ Rd H l (.lst xs) ∧ Rd H b (.lst zs) ∧ xs.length + zs.length ≤ sizeLine ∧ ∀ p, H p = none → Q (.ref p) (upd H p (.lst (xs ++ zs)))
theorem op_catR : OpR X (binaryOp .Add) rCatR := by
  intro pins s σ H x y v u Q I rx ry h
  obtain ⟨l, b, xs, zs, rfl, rfl, hH, hB, hz, q⟩ := h
  cases rx
  cases ry
  obtain ⟨z, its, n, r, e⟩ := hH.ok I.hok
  obtain ⟨z2, its2, n2, r2, e2⟩ := hB.ok I.hok
  have hl := r.length
  have hl2 := r2.length
  refine PySem.P.add_list e e2 ?_ (by rw [List.size_toArray, List.size_toArray]; omega)
  have ea : its.toArray ++ its2.toArray = (its ++ its2).toArray := by simp
  rw [ea]
  exact ⟨.ref _, _, I.lnew (t' := s.toks) (r.append r2) (by rw [List.length_append]; omega), rfl, q _ I.fresh⟩
def dCat : D → D → Option Ow
  | .lst a, .lst b => if a.length + b.length ≤ 16777216 then some (.lst (a ++ b)) else none
  | _, _ => none
theorem Bo.lst {Xx : AP} (h : Bo K Xx H (.lst ds) v) : ∃ a vs, v = .ref a ∧ Rd H a (.lst vs) ∧ RpL K Xx H ds vs := by
  unfold Bo at h
  exact h
theorem Bo.dct {Xx : AP} {ks : List Key} (h : Bo K Xx H (.dct ks ds) v) : ∃ a kvs, v = .ref a ∧ Rd H a (.dK kvs) ∧ kvs.map (·.1) = ks ∧ RpL K Xx H ds (kvs.map (·.2)) := by
  unfold Bo at h
  exact h
theorem r_cat : HasO2 X (binaryOp .Add) dCat := by
  refine ⟨_, op_catR, fun c σ H ρ x y z vx vy Q E b1 b2 e k => ?_⟩
  unfold dCat at e
  split at e
  · split at e <;> cases e
    obtain ⟨a, xs, rfl, t1, r1⟩ := b1.lst
    obtain ⟨b, ys, rfl, t2, r2⟩ := b2.lst
    refine ⟨a, b, xs, ys, rfl, rfl, t1, t2, by rw [sizeLine_eq, r1.length, r2.length]; assumption, fun p np => ?_⟩
    obtain ⟨h1, h2, h3, h4⟩ := E.newLst np (r1.app r2)
    exact k _ _ h1 h2 h3 h4
  · cases e
end
end DL

set_option Elab.async false
set_option linter.all false
set_option maxRecDepth 100000
namespace DL
open PySem PySem.Spec PyProof.Rows L2

/-! ### data as the library's data -/
mutual
def D.py : D → PyData
  | .non => .none
  | .bl b => .bool b
  | .int i => .int i
  | .str x => .str x
  | .tup ds => .tuple (pyL ds)
  | .lst ds => .list (pyL ds)
  | .dct _ _ => .none
  | .scr _ => .none
def pyL : List D → List PyData
  | [] => []
  | d :: ds => d.py :: pyL ds
end
mutual
/-- no dict within -/
def D.pl : D → Bool
  | .tup ds => plL ds
  | .lst ds => plL ds
  | .dct _ _ => false
  | .scr _ => false
  | _ => true
def plL : List D → Bool
  | [] => true
  | d :: ds => d.pl && plL ds
end
theorem pyL_map : ∀ ds : List D, pyL ds = ds.map D.py
  | [] => by unfold pyL; rfl
  | d :: ds => by unfold pyL; rw [pyL_map ds]; rfl

section
variable {X : Cx} {K : PySem.W.Frag} {c : Fx} {σ : Sg} {H H' : Hp} {ρ ρ' : En} {i j : Nat} {a p : Addr} {o : Ow} {d x y z : D} {v vx vy : V} {Q : VK} {ds : List D} {vs : List V} {Xx : AP}
mutual
theorem Rp.dp : ∀ {d : D} {v : V}, Rp K Xx H d v → d.pl = true → Dp K H v d.py
  | .non, v, h, _ => by unfold Rp at h; subst h; unfold D.py; exact .non
  | .bl b, v, h, _ => by unfold Rp at h; subst h; unfold D.py; exact .bl b
  | .int i, v, h, _ => by unfold Rp at h; subst h; unfold D.py; exact .int i
  | .str z, v, h, _ => by unfold Rp at h; subst h; unfold D.py; exact .str z
  | .tup ds, v, h, q => by
    unfold Rp at h
    obtain ⟨a, vs, rfl, t, l⟩ := h
    unfold D.pl at q
    unfold D.py
    exact .tup t.sq (RpL.dp l q)
  | .lst ds, v, h, q => by
    unfold Rp at h
    obtain ⟨a, vs, rfl, t, l⟩ := h
    unfold D.pl at q
    unfold D.py
    exact .lst (.inl t.1) (RpL.dp l q)
  | .dct ks ds, v, h, q => by unfold D.pl at q; cases q
  | .scr ds, v, h, q => by unfold D.pl at q; cases q
theorem RpL.dp : ∀ {ds : List D} {vs : List V}, RpL K Xx H ds vs → plL ds = true → DpAll K H vs (pyL ds)
  | [], vs, h, _ => by rw [h.of_nil]; unfold pyL; exact .nil
  | d :: ds, vs, h, q => by
    obtain ⟨v, ws, rfl, h1, h2⟩ := h.of_cons
    unfold plL at q
    rw [Bool.and_eq_true] at q
    unfold pyL
    exact .cons (Rp.dp h1 q.1) (RpL.dp h2 q.2)
end
theorem Bo.dp (h : Bo K Xx H d v) (q : d.pl = true) : Dp K H v d.py := by
  cases d with
  | lst ds =>
    obtain ⟨a, vs, rfl, t, l⟩ := h.lst
    unfold D.pl at q
    unfold D.py
    exact .lst (.inl t) (l.dp q)
  | dct ks ds => unfold D.pl at q; cases q
  | _ => exact Rp.dp (show Rp K Xx H _ v from h) q

/-! ### == and != -/
def eqOk (x y : D) : Bool := x.pl && y.pl && SeqAt.shaped x.py && SeqAt.shaped y.py
def gEqS (x y : D) : Option Bool := match x, y with
  | .int i, .int j => some (i == j)
  | .str i, .str j => some (i == j)
  | .bl i, .bl j => some (i == j)
  | .non, .non => some true
  | .str _, .int _ => some false
  | .int _, .str _ => some false
  | .str _, .bl _ => some false
  | .bl _, .str _ => some false
  | .non, .int _ => some false
  | .int _, .non => some false
  | .non, .bl _ => some false
  | .bl _, .non => some false
  | .non, .str _ => some false
  | .str _, .non => some false
  | _, _ => none
def gEqB (x y : D) : Option Bool := match gEqS x y with
  | some b => some b
  | none => if eqOk x y then some (PyData.eqv x.py y.py) else none
def dEq (x y : D) : Option D := (gEqB x y).map .bl
def dNe (x y : D) : Option D := (gEqB x y).map fun b => .bl !b
theorem beq_dec {α : Type} [DecidableEq α] (a b : α) : (a == b) = decide (a = b) := by
  rw [Bool.eq_iff_iff]
  simp
theorem gEqS_ok {b : Bool} (b1 : Bo K Xx H x vx) (b2 : Bo K Xx H y vy) (h : gEqS x y = some b) : scal vx vy = true ∧ b = decide (vx = vy) := by
  unfold gEqS at h
  split at h
  · cases h; have e1 := b1.int; have e2 := b2.int; subst e1 e2; exact ⟨rfl, dec_int.symm⟩
  · cases h; have e1 := b1.str; have e2 := b2.str; subst e1 e2; exact ⟨rfl, dec_str.symm⟩
  · cases h; have e1 := b1.bl; have e2 := b2.bl; subst e1 e2; exact ⟨rfl, dec_bl.symm⟩
  · cases h; have e1 := b1.non; have e2 := b2.non; subst e1 e2; exact ⟨rfl, rfl⟩
  · cases h; have e1 := b1.str; have e2 := b2.int; subst e1 e2; exact ⟨rfl, rfl⟩
  · cases h; have e1 := b1.int; have e2 := b2.str; subst e1 e2; exact ⟨rfl, rfl⟩
  · cases h; have e1 := b1.str; have e2 := b2.bl; subst e1 e2; exact ⟨rfl, rfl⟩
  · cases h; have e1 := b1.bl; have e2 := b2.str; subst e1 e2; exact ⟨rfl, rfl⟩
  · cases h; have e1 := b1.non; have e2 := b2.int; subst e1 e2; exact ⟨rfl, rfl⟩
  · cases h; have e1 := b1.int; have e2 := b2.non; subst e1 e2; exact ⟨rfl, rfl⟩
  · cases h; have e1 := b1.non; have e2 := b2.bl; subst e1 e2; exact ⟨rfl, rfl⟩
  · cases h; have e1 := b1.bl; have e2 := b2.non; subst e1 e2; exact ⟨rfl, rfl⟩
  · cases h; have e1 := b1.non; have e2 := b2.str; subst e1 e2; exact ⟨rfl, rfl⟩
  · cases h; have e1 := b1.str; have e2 := b2.non; subst e1 e2; exact ⟨rfl, rfl⟩
  · cases h
theorem eqOk_parts {x y : D} (h : eqOk x y = true) : x.pl = true ∧ y.pl = true ∧ SeqAt.shaped x.py = true ∧ SeqAt.shaped y.py = true := by
  unfold eqOk at h
  simp only [Bool.and_eq_true] at h
  exact ⟨h.1.1.1, h.1.1.2, h.1.2, h.2⟩
theorem r_eq (hu : X.A.units + 64 < cLine) : HasR2 X (compareOp .Eq) dEq := by
  refine ⟨_, op_eq.or (op_eqD hu), fun c σ H ρ x y z vx vy Q E b1 b2 e k => ?_⟩
  unfold dEq gEqB at e
  cases w : gEqS x y with
  | some b =>
    rw [w] at e
    cases e
    obtain ⟨h1, h2⟩ := gEqS_ok b1 b2 w
    refine .inl ⟨h1, ?_⟩
    rw [← h2]
    exact k _ _ E .bl
  | none =>
    rw [w] at e
    dsimp only at e
    split at e
    · cases e
      obtain ⟨q1, q2, q3, q4⟩ := eqOk_parts (by assumption)
      exact .inr ⟨_, _, b1.dp q1, b2.dp q2, q3, q4, k _ _ E .bl⟩
    · cases e
theorem r_ne (hu : X.A.units + 64 < cLine) : HasR2 X (compareOp .NotEq) dNe := by
  refine ⟨_, op_ne.or (op_neD hu), fun c σ H ρ x y z vx vy Q E b1 b2 e k => ?_⟩
  unfold dNe gEqB at e
  cases w : gEqS x y with
  | some b =>
    rw [w] at e
    cases e
    obtain ⟨h1, h2⟩ := gEqS_ok b1 b2 w
    refine .inl ⟨h1, ?_⟩
    rw [← h2]
    exact k _ _ E .bl
  | none =>
    rw [w] at e
    dsimp only at e
    split at e
    · cases e
      obtain ⟨q1, q2, q3, q4⟩ := eqOk_parts (by assumption)
      exact .inr ⟨_, _, b1.dp q1, b2.dp q2, q3, q4, k _ _ E .bl⟩
    · cases e
/-! ### the order of ints and texts -/
def dLtI : D → D → Option D
  | .int i, .int j => some (.bl (decide (i < j)))
  | _, _ => none
def dLtS : D → D → Option D
  | .str i, .str j => some (.bl (decide (i.cps.toList < j.cps.toList)))
  | _, _ => none
theorem r_ltI : HasR2 X (compareOp .Lt) dLtI := by
  refine ⟨_, op_lt, fun c σ H ρ x y z vx vy Q E b1 b2 e k => ?_⟩
  unfold dLtI at e
  split at e <;> cases e
  rw [b1.int, b2.int]
  exact ⟨_, _, rfl, rfl, k _ _ E .bl⟩
theorem r_ltS : HasR2 X (compareOp .Lt) dLtS := by
  refine ⟨_, op_lt_str, fun c σ H ρ x y z vx vy Q E b1 b2 e k => ?_⟩
  unfold dLtS at e
  split at e <;> cases e
  rw [b1.str, b2.str]
  exact ⟨_, _, rfl, rfl, k _ _ E .bl⟩
def dLt (x y : D) : Option D := match x, y with
  | .int i, .int j => some (.bl (decide (i < j)))
  | .str i, .str j => some (.bl (decide (i.cps.toList < j.cps.toList)))
  | _, _ => none
theorem r_lt : HasR2 X (compareOp .Lt) dLt := (r_ltI.or r_ltS).to fun x y z h => by
  unfold dLt at h
  split at h
  · exact h
  · exact h
  · cases h
def dLe (x y : D) : Option D := match x, y with
  | .int i, .int j => some (.bl (decide (i ≤ j)))
  | _, _ => none
theorem r_le : HasR2 X (compareOp .LtE) dLe := by
  refine ⟨_, op_le, fun c σ H ρ x y z vx vy Q E b1 b2 e k => ?_⟩
  unfold dLe at e
  split at e <;> cases e
  rw [b1.int, b2.int]
  exact ⟨_, _, rfl, rfl, k _ _ E .bl⟩
def dGt (x y : D) : Option D := match x, y with
  | .int i, .int j => some (.bl (decide (j < i)))
  | _, _ => none
theorem r_gt : HasR2 X (compareOp .Gt) dGt := by
  refine ⟨_, op_gt, fun c σ H ρ x y z vx vy Q E b1 b2 e k => ?_⟩
  unfold dGt at e
  split at e <;> cases e
  rw [b1.int, b2.int]
  exact ⟨_, _, rfl, rfl, k _ _ E .bl⟩
def dGe (x y : D) : Option D := match x, y with
  | .int i, .int j => some (.bl (decide (j ≤ i)))
  | _, _ => none
theorem r_ge : HasR2 X (compareOp .GtE) dGe := by
  refine ⟨_, op_ge, fun c σ H ρ x y z vx vy Q E b1 b2 e k => ?_⟩
  unfold dGe at e
  split at e <;> cases e
  rw [b1.int, b2.int]
  exact ⟨_, _, rfl, rfl, k _ _ E .bl⟩
/-! ### is -/
def D.isNon : D → Bool
  | .non => true
  | _ => false
theorem rp_non_dec (b : Bo K Xx H d v) : decide (v = .non) = d.isNon := by
  cases d with
  | non => have e := b.non; subst e; rfl
  | bl _ => have e := b.bl; subst e; rfl
  | int _ => have e := b.int; subst e; rfl
  | str _ => have e := b.str; subst e; rfl
  | tup _ => obtain ⟨_, _, e, _⟩ := b.tup; subst e; rfl
  | lst _ => obtain ⟨_, _, e, _⟩ := b.lst; subst e; rfl
  | dct _ _ => obtain ⟨_, _, e, _⟩ := b.dct; subst e; rfl
  | scr _ => obtain ⟨_, _, e, _⟩ := b.scr; subst e; rfl
def dIsN (x y : D) : Option D := match y with
  | .non => some (.bl x.isNon)
  | _ => none
def dNotN (x y : D) : Option D := match y with
  | .non => some (.bl (!x.isNon))
  | _ => none
theorem r_isN : HasR2 X (compareOp .Is) dIsN := by
  refine ⟨_, op_isN, fun c σ H ρ x y z vx vy Q E b1 b2 e k => ?_⟩
  unfold dIsN at e
  split at e <;> cases e
  rw [b2.non]
  refine ⟨rfl, ?_⟩
  rw [rp_non_dec b1]
  exact k _ _ E .bl
theorem r_notN : HasR2 X (compareOp .IsNot) dNotN := by
  refine ⟨_, op_notN, fun c σ H ρ x y z vx vy Q E b1 b2 e k => ?_⟩
  unfold dNotN at e
  split at e <;> cases e
  rw [b2.non]
  refine ⟨rfl, ?_⟩
  rw [rp_non_dec b1]
  exact k _ _ E .bl
def dIsB (x y : D) : Option D := match x, y with
  | .bl a, .bl b => some (.bl (a == b))
  | _, _ => none
def dNotB (x y : D) : Option D := match x, y with
  | .bl a, .bl b => some (.bl (a != b))
  | _, _ => none
theorem op_isB : OpR X (compareOp .Is) (fun x y H Q => ∃ a b, x = .bl a ∧ y = .bl b ∧ Q (.bl (a == b)) H) := by
  intro pins s σ H x y v u Q I rx ry h
  obtain ⟨a, b, rfl, rfl, q⟩ := h
  cases rx
  cases ry
  exact is_bool (fin_bl I q rfl)
theorem op_notB : OpR X (compareOp .IsNot) (fun x y H Q => ∃ a b, x = .bl a ∧ y = .bl b ∧ Q (.bl (a != b)) H) := by
  intro pins s σ H x y v u Q I rx ry h
  obtain ⟨a, b, rfl, rfl, q⟩ := h
  cases rx
  cases ry
  exact isnot_bool (fin_bl I q rfl)
theorem r_isB : HasR2 X (compareOp .Is) dIsB := by
  refine ⟨_, op_isB, fun c σ H ρ x y z vx vy Q E b1 b2 e k => ?_⟩
  unfold dIsB at e
  split at e <;> cases e
  rw [b1.bl, b2.bl]
  exact ⟨_, _, rfl, rfl, k _ _ E .bl⟩
theorem r_notB : HasR2 X (compareOp .IsNot) dNotB := by
  refine ⟨_, op_notB, fun c σ H ρ x y z vx vy Q E b1 b2 e k => ?_⟩
  unfold dNotB at e
  split at e <;> cases e
  rw [b1.bl, b2.bl]
  exact ⟨_, _, rfl, rfl, k _ _ E .bl⟩

/-! ### in -/
/-- x in a list or tuple of flat things -/
def flD : D → Bool
  | .non => true
  | .bl _ => true
  | .int _ => true
  | .str _ => true
  | _ => false
def toV : D → V
  | .bl b => .bl b
  | .int i => .int i
  | .str x => .str x
  | _ => .non
theorem Rp.toV (r : Rp K Xx H d v) (f : flD d = true) : v = toV d ∧ flatV v = true := by
  cases d with
  | non => unfold Rp at r; subst r; exact ⟨rfl, rfl⟩
  | bl _ => unfold Rp at r; subst r; exact ⟨rfl, rfl⟩
  | int _ => unfold Rp at r; subst r; exact ⟨rfl, rfl⟩
  | str _ => unfold Rp at r; subst r; exact ⟨rfl, rfl⟩
  | _ => cases f
theorem RpL.toV : ∀ {ds : List D} {vs : List V}, RpL K Xx H ds vs → ds.all flD = true → vs = ds.map DL.toV ∧ vs.all flatV = true
  | [], vs, h, _ => by rw [h.of_nil]; exact ⟨rfl, rfl⟩
  | d :: ds, vs, h, f => by
    obtain ⟨v, ws, rfl, h1, h2⟩ := h.of_cons
    rw [List.all_cons, Bool.and_eq_true] at f
    obtain ⟨e1, e2⟩ := h1.toV f.1
    obtain ⟨e3, e4⟩ := RpL.toV h2 f.2
    rw [e1] at e2 ⊢
    rw [e3] at e4 ⊢
    exact ⟨rfl, by rw [List.all_cons, e2, e4]; rfl⟩
def eqF (x y : D) : Bool := eqV (toV x) (toV y)
def inF (x : D) (ys : List D) : Bool := ys.any fun y => eqF y x
theorem inF_V (x : D) (ys : List D) : inV (toV x) (ys.map toV) = inF x ys := by
  unfold inV inF
  rw [List.any_map]
  rfl
def keyOf : D → Option Key
  | .int i => some (.inl i)
  | .str x => some (.inr x)
  | _ => none
theorem Rp.key {k : Key} (b : Bo K Xx H d v) (h : keyOf d = some k) : v = kV k := by
  cases d with
  | int i => cases h; rw [b.int]; rfl
  | str i => cases h; rw [b.str]; rfl
  | _ => cases h
def hasK (ks : List Key) (k : Key) : Bool := ks.any fun x => decide (x = k)
def lk : List Key → List D → Key → Option D
  | a :: ks, d :: ds, k => if a = k then some d else lk ks ds k
  | _, _, _ => none
def dInB (x y : D) : Option Bool := match y with
  | .lst ds => if flD x && ds.all flD then some (inF x ds) else none
  | .tup ds => if flD x && ds.all flD then some (inF x ds) else none
  | .dct ks _ => (keyOf x).map (hasK ks)
  | _ => none
def dIn (x y : D) : Option D := (dInB x y).map .bl
def dNotIn (x y : D) : Option D := (dInB x y).map fun b => .bl !b
theorem Bo.flat (b : Bo K Xx H d v) (f : flD d = true) : v = toV d ∧ flatV v = true := by
  cases d with
  | lst _ => cases f
  | dct _ _ => cases f
  | _ => exact Rp.toV (show Rp K Xx H _ v from b) f
theorem valV_isSome {kvs : List (Key × V)} {k : Key} : (valV kvs k).isSome = hasK (kvs.map (·.1)) k := by
  unfold valV hasK
  rw [Option.isSome_map, List.any_map, Bool.eq_iff_iff, List.find?_isSome]
  simp
theorem op_dIn (hu : X.A.units + 1 < cLine) : OpR X (compareOp .In) (fun x y H Q => ∃ a o, y = .ref a ∧ DGet H a x o ∧ Q (.bl o.isSome) H) := by
  intro pins s σ H x y v u Q I rx ry h
  obtain ⟨a, o, rfl, g, q⟩ := h
  obtain rfl : u = Value.ref a := ry
  exact d_in hu I g rx fun s3 I3 => ⟨.bl o.isSome, H, I3, rfl, q⟩
theorem op_dNotIn (hu : X.A.units + 1 < cLine) : OpR X (compareOp .NotIn) (fun x y H Q => ∃ a o, y = .ref a ∧ DGet H a x o ∧ Q (.bl !o.isSome) H) := by
  intro pins s σ H x y v u Q I rx ry h
  obtain ⟨a, o, rfl, g, q⟩ := h
  obtain rfl : u = Value.ref a := ry
  exact d_notIn hu I g rx fun s3 I3 => ⟨.bl !o.isSome, H, I3, rfl, q⟩
theorem dInB_ok {neg : Bool} {b : Bool} (b1 : Bo K Xx H x vx) (b2 : Bo K Xx H y vy) (h : dInB x y = some b) (q : Q (.bl (if neg = true then !b else b)) H) :
    rIn K neg vx vy H Q ∨ ∃ a o, vy = .ref a ∧ DGet H a vx o ∧ Q (.bl (if neg = true then !o.isSome else o.isSome)) H := by
  unfold dInB at h
  split at h
  · split at h <;> cases h
    rename_i f
    rw [Bool.and_eq_true] at f
    obtain ⟨a, vs, rfl, t, l⟩ := b2.lst
    obtain ⟨e1, e2⟩ := b1.flat f.1
    obtain ⟨e3, e4⟩ := l.toV f.2
    refine .inl ⟨a, vs, rfl, .inl (.inl t), e2, e4, ?_⟩
    rw [e1, e3, inF_V]
    exact q
  · split at h <;> cases h
    rename_i f
    rw [Bool.and_eq_true] at f
    obtain ⟨a, vs, rfl, t, l⟩ := b2.tup
    obtain ⟨e1, e2⟩ := b1.flat f.1
    obtain ⟨e3, e4⟩ := l.toV f.2
    refine .inl ⟨a, vs, rfl, .inr t.sq, e2, e4, ?_⟩
    rw [e1, e3, inF_V]
    exact q
  · obtain ⟨a, kvs, rfl, t, e2, l⟩ := b2.dct
    cases w : keyOf x with
    | none => rw [w] at h; cases h
    | some k =>
      rw [w] at h
      cases h
      refine .inr ⟨a, valV kvs k, rfl, .inl ⟨kvs, k, t, Rp.key b1 w, rfl⟩, ?_⟩
      rw [valV_isSome, e2]
      exact q
  · cases h
theorem r_in (hu : X.A.units + 1 < cLine) : HasR2 X (compareOp .In) dIn := by
  refine ⟨_, op_in_seq.or (op_dIn hu), fun c σ H ρ x y z vx vy Q E b1 b2 e k => ?_⟩
  unfold dIn at e
  obtain ⟨b, e1, rfl⟩ := Option.map_eq_some_iff.mp e
  exact dInB_ok (neg := false) b1 b2 e1 (k _ _ E .bl)
theorem r_notIn (hu : X.A.units + 1 < cLine) : HasR2 X (compareOp .NotIn) dNotIn := by
  refine ⟨_, op_notIn_seq.or (op_dNotIn hu), fun c σ H ρ x y z vx vy Q E b1 b2 e k => ?_⟩
  unfold dNotIn at e
  obtain ⟨b, e1, rfl⟩ := Option.map_eq_some_iff.mp e
  exact dInB_ok (neg := true) b1 b2 e1 (k _ _ E .bl)
end
end DL

set_option Elab.async false
set_option linter.all false
set_option maxRecDepth 100000
namespace DL
open PySem PySem.Spec PyProof.Rows L2

section
variable {X : Cx} {K : PySem.W.Frag} {c : Fx} {σ : Sg} {H H' : Hp} {ρ ρ' : En} {i j : Nat} {a p : Addr} {o : Ow} {d x y z : D} {v vx vy : V} {Q : VK} {ds : List D} {vs : List V} {Xx : AP}
variable {e1 e2 e3 : Expr} {es : List Expr} {oa ob : Opd} {pos : Pos} {ma mb : Mm D} {ta tb tc : Mm Bool}
/-! ### truth, tests -/
def dTru : D → Option Bool
  | .non => some false
  | .bl b => some b
  | .int i => some (i != 0)
  | .str x => if x.length ≤ 16777216 then some ((x.length : Int) != 0) else none
  | .tup ds => some (!ds.isEmpty)
  | .lst ds => some (!ds.isEmpty)
  | .scr ds => some (!ds.isEmpty)
  | .dct ks _ => none
theorem RpL.emp (l : RpL K Xx H ds vs) : ds.isEmpty = vs.isEmpty := by
  have e := l.length
  cases ds with
  | nil => cases vs with
    | nil => rfl
    | cons _ _ => cases e
  | cons _ _ => cases vs with
    | nil => cases e
    | cons _ _ => rfl
theorem dTru_ok {b : Bool} (h : dTru d = some b) (r : Bo K Xx H d v) : TruV K v H b := by
  cases d with
  | non => cases h; rw [r.non]; exact rfl
  | bl _ => cases h; rw [r.bl]; exact rfl
  | int _ => cases h; rw [r.int]; exact rfl
  | str z =>
    have h : (if z.length ≤ 16777216 then some ((z.length : Int) != 0) else none) = some b := h
    by_cases q : z.length ≤ 16777216
    · rw [if_pos q] at h
      cases h
      rw [r.str]
      exact ⟨by rw [sizeLine_eq]; exact q, rfl⟩
    · rw [if_neg q] at h
      cases h
  | tup ds => cases h; obtain ⟨a, vs, rfl, t, l⟩ := r.tup; exact .inr (.inl ⟨vs, t.sq, by rw [l.emp]⟩)
  | lst ds => cases h; obtain ⟨a, vs, rfl, t, l⟩ := r.lst; exact .inl ⟨vs, .inl t, by rw [l.emp]⟩
  | scr ds => cases h; obtain ⟨a, vs, rfl, t, l⟩ := r.scr; exact .inl ⟨vs, t.sq, by rw [l.emp]⟩
  | dct _ _ => cases h
theorem ct_tru (h : PD X e1 oa) (he : ∀ whole, isTrue e1 X.env whole = (do let v ← whole; standAt e1.pos; holding [v] (truthy v)) := by intro _; rfl) : CT X e1 (m1 oa dTru) := by
  refine pt_imp (pt_truth h he) fun σ H Q q => ?_
  obtain ⟨c, ρ, b, ρ', E, e, k⟩ := q
  exact op1 E e fun x vx H' E' b1 w => ⟨b, dTru_ok w b1, k H' E'⟩
def mNot (m : Mm Bool) : Mm Bool := bd m fun b => ret (!b)
theorem ct_not (h : CT X e1 ta) : CT X (.UnaryOp .Not e1 pos) (mNot ta) := by
  refine pt_imp (pt_not h) fun σ H Q q => ?_
  obtain ⟨c, ρ, b, ρ', E, e, k⟩ := q
  obtain ⟨b1, ρ1, g1, f1⟩ := bd_some e
  cases f1
  exact ⟨c, ρ, b1, _, E, g1, fun H' E' => k H' E'⟩
def CW (X : Cx) (e : Expr) (m : Mm Bool) : Prop := PW X e (tTm X.K m)
def mAnd (m m' : Mm Bool) : Mm Bool := bd m fun b => if b then m' else ret false
def mOr (m m' : Mm Bool) : Mm Bool := bd m fun b => if b then ret true else m'
theorem cw_and1 (h : CT X e1 ta) : CW X (.BoolOp .And [e1] pos) ta := pw_and1 h
theorem cw_or1 (h : CT X e1 ta) : CW X (.BoolOp .Or [e1] pos) ta := pw_or1 h
theorem cw_and (h : CT X e1 ta) (h2 : CW X (.BoolOp .And (e2 :: es) pos) tb) : CW X (.BoolOp .And (e1 :: e2 :: es) pos) (mAnd ta tb) := by
  refine pw_imp (pw_and h h2) fun σ H Q q => ?_
  obtain ⟨c, ρ, b, ρ', E, e, k⟩ := q
  obtain ⟨b1, ρ1, g1, f1⟩ := bd_some e
  refine ⟨c, ρ, b1, ρ1, E, g1, fun H' E' => ?_⟩
  cases b1 with
  | true => exact iteT ⟨c, ρ1, b, ρ', E', f1, k⟩
  | false =>
    cases f1
    exact iteF (k H' E')
theorem cw_or (h : CT X e1 ta) (h2 : CW X (.BoolOp .Or (e2 :: es) pos) tb) : CW X (.BoolOp .Or (e1 :: e2 :: es) pos) (mOr ta tb) := by
  refine pw_imp (pw_or h h2) fun σ H Q q => ?_
  obtain ⟨c, ρ, b, ρ', E, e, k⟩ := q
  obtain ⟨b1, ρ1, g1, f1⟩ := bd_some e
  refine ⟨c, ρ, b1, ρ1, E, g1, fun H' E' => ?_⟩
  cases b1 with
  | false => exact iteF ⟨c, ρ1, b, ρ', E', f1, k⟩
  | true =>
    cases f1
    exact iteT (k H' E')
theorem CW.ct (h : CW X e1 ta) : CT X e1 ta := PW.pt h
/-! ### and, or, not, if as values -/
def mAndV (m m' : Mm D) : Mm D := bd m fun x => bd (lf (dTru x)) fun b => if b then m' else ret x
def mOrV (m m' : Mm D) : Mm D := bd m fun x => bd (lf (dTru x)) fun b => if b then ret x else m'
def mNotV (m : Mm D) : Mm D := bd m fun x => bd (lf (dTru x)) fun b => ret (.bl !b)
theorem ce_one {op} (h : CE X e1 ma) : CE X (.BoolOp op [e1] pos) ma := pe_one h
theorem ce_and (h : CE X e1 ma) (h2 : CE X (.BoolOp .And (e2 :: es) pos) mb) : CE X (.BoolOp .And (e1 :: e2 :: es) pos) (mAndV ma mb) := by
  refine pe_imp (pe_andT h h2) fun σ H Q q => ?_
  obtain ⟨c, ρ, z, ρ', E, e, k⟩ := q
  obtain ⟨x, ρ1, g1, f1⟩ := bd_some e
  obtain ⟨b, ρ2, g2, f2⟩ := bd_some f1
  obtain ⟨g3, rfl⟩ := lf_some g2
  refine ⟨c, ρ, x, ρ1, E, g1, fun v H' E' r => ⟨b, dTru_ok g3 r.bo, ?_⟩⟩
  cases b with
  | true => exact iteT ⟨c, ρ1, z, ρ', E', f2, k⟩
  | false =>
    cases f2
    exact iteF (k _ _ E' r)
theorem ce_or (h : CE X e1 ma) (h2 : CE X (.BoolOp .Or (e2 :: es) pos) mb) : CE X (.BoolOp .Or (e1 :: e2 :: es) pos) (mOrV ma mb) := by
  refine pe_imp (pe_orT h h2) fun σ H Q q => ?_
  obtain ⟨c, ρ, z, ρ', E, e, k⟩ := q
  obtain ⟨x, ρ1, g1, f1⟩ := bd_some e
  obtain ⟨b, ρ2, g2, f2⟩ := bd_some f1
  obtain ⟨g3, rfl⟩ := lf_some g2
  refine ⟨c, ρ, x, ρ1, E, g1, fun v H' E' r => ⟨b, dTru_ok g3 r.bo, ?_⟩⟩
  cases b with
  | false => exact iteF ⟨c, ρ1, z, ρ', E', f2, k⟩
  | true =>
    cases f2
    exact iteT (k _ _ E' r)
theorem ce_not (h : CE X e1 ma) : CE X (.UnaryOp .Not e1 pos) (mNotV ma) := by
  refine pe_imp (pe_notT h) fun σ H Q q => ?_
  obtain ⟨c, ρ, z, ρ', E, e, k⟩ := q
  obtain ⟨x, ρ1, g1, f1⟩ := bd_some e
  obtain ⟨b, ρ2, g2, f2⟩ := bd_some f1
  obtain ⟨g3, rfl⟩ := lf_some g2
  cases f2
  exact ⟨c, ρ, x, _, E, g1, fun v H' E' r => ⟨b, dTru_ok g3 r.bo, k _ _ E' .bl⟩⟩
def mIf {α : Type} (t : Mm Bool) (m m' : Mm α) : Mm α := bd t fun b => if b then m else m'
theorem ce_if (h : CT X e3 tc) (h1 : CE X e1 ma) (h2 : CE X e2 mb) : CE X (.IfExp e3 e1 e2 pos) (mIf tc ma mb) := by
  refine pe_imp (pe_ifExp h h1 h2) fun σ H Q q => ?_
  obtain ⟨c, ρ, z, ρ', E, e, k⟩ := q
  obtain ⟨b, ρ1, g1, f1⟩ := bd_some e
  refine ⟨c, ρ, b, ρ1, E, g1, fun H' E' => ?_⟩
  cases b with
  | true => exact iteT ⟨c, ρ1, z, ρ', E', f1, k⟩
  | false => exact iteF ⟨c, ρ1, z, ρ', E', f1, k⟩
theorem co_if {oa ob : Mm Ow} (h : CT X e3 tc) (h1 : CO X e1 oa) (h2 : CO X e2 ob) : CO X (.IfExp e3 e1 e2 pos) (mIf tc oa ob) := by
  refine pe_imp (pe_ifExp h h1 h2) fun σ H Q q => ?_
  obtain ⟨c, ρ, z, ρ', E, e, k⟩ := q
  obtain ⟨b, ρ1, g1, f1⟩ := bd_some e
  refine ⟨c, ρ, b, ρ1, E, g1, fun H' E' => ?_⟩
  cases b with
  | true => exact iteT ⟨c, ρ1, z, ρ', E', f1, k⟩
  | false => exact iteF ⟨c, ρ1, z, ρ', E', f1, k⟩
/-- -i -/
def dNeg : D → Option D
  | .int i => some (.int (-i))
  | _ => none
theorem ce_neg (h : PD X e1 oa) : CE X (.UnaryOp .USub e1 pos) (m1 oa dNeg) := by
  refine pe_imp (pe_un un_neg h) fun σ H Q q => ?_
  obtain ⟨c, ρ, z, ρ', E, e, k⟩ := q
  refine op1 E e fun x vx H' E' b1 w => ?_
  unfold dNeg at w
  split at w <;> cases w
  rw [b1.int]
  exact ⟨_, rfl, k _ _ E' .int⟩
/-! ### argument lists, displays -/
def mNil : Mm (List D) := ret []
def mCons (m : Mm D) (m' : Mm (List D)) : Mm (List D) := bd m fun x => bd m' fun xs => ret (x :: xs)
theorem ca_nil : CA X [] mNil := pa_imp pa_nil fun σ H Q q => by
  obtain ⟨c, ρ, z, ρ', E, e, k⟩ := q
  cases e
  exact k [] H E .nil
theorem ca_cons {m' : Mm (List D)} (h : CE X e1 ma) (h2 : CA X es m') (hs : starEach (e1 :: es) X.env = (false, eval e1 X.env) :: starEach es X.env := by rfl) : CA X (e1 :: es) (mCons ma m') := by
  refine pa_imp (pa_cons h h2 hs) fun σ H Q q => ?_
  obtain ⟨c, ρ, z, ρ', E, e, k⟩ := q
  obtain ⟨x, ρ1, g1, f1⟩ := bd_some e
  obtain ⟨xs, ρ2, g2, f2⟩ := bd_some f1
  cases f2
  exact ⟨c, ρ, x, ρ1, E, g1, fun v H1 E1 r1 => ⟨c.push x v, ρ1, xs, _, E1.push r1, g2, fun vs H2 E2 r2 => k _ _ E2.pop.1 (.cons E2.pop.2 r2)⟩⟩
def szOk {α : Type} (l : List α) : Bool := decide (l.length ≤ 16777216)
def mTup (m : Mm (List D)) : Mm D := bd m fun xs => if szOk xs then ret (.tup xs) else fun _ => none
def mLst (m : Mm (List D)) : Mm Ow := bd m fun xs => if szOk xs then ret (.lst xs) else fun _ => none
theorem szOk_le {α : Type} {l : List α} (h : szOk l = true) : l.length ≤ sizeLine := by
  rw [sizeLine_eq]
  exact of_decide_eq_true h
theorem ce_tup {m : Mm (List D)} {k : Nat} (h : CA X es m) : CE X (.Tuple es k pos) (mTup m) := by
  refine pe_imp (pe_tupF h) fun σ H Q q => ?_
  obtain ⟨c, ρ, z, ρ', E, e, k⟩ := q
  obtain ⟨xs, ρ1, g1, f1⟩ := bd_some e
  split at f1
  · cases f1
    refine ⟨c, ρ, xs, _, E, g1, fun vs H1 E1 r1 => ⟨by rw [r1.length]; exact szOk_le (by assumption), E1.newT r1 k⟩⟩
  · cases f1
theorem co_lst {m : Mm (List D)} (h : CA X es m) : CO X (.List es pos) (mLst m) := by
  refine pe_imp (pe_lst h) fun σ H Q q => ?_
  obtain ⟨c, ρ, z, ρ', E, e, k⟩ := q
  obtain ⟨xs, ρ1, g1, f1⟩ := bd_some e
  split at f1
  · cases f1
    refine ⟨c, ρ, xs, _, E, g1, fun vs H1 E1 r1 => ⟨by rw [r1.length]; exact szOk_le (by assumption), fun p np => ?_⟩⟩
    obtain ⟨h1, h2, h3, h4⟩ := E1.newLst np r1
    exact k _ _ h1 h2 h3 h4
  · cases f1
/-- {} -/
def mDct0 : Mm Ow := ret (.dct [] [])
theorem co_dct0 : CO X (.Dict [] [] pos) mDct0 := pe_imp pe_dnewK fun σ H Q q => by
  obtain ⟨c, ρ, z, ρ', E, e, k⟩ := q
  cases e
  intro p np
  obtain ⟨h1, h2, h3, h4⟩ := E.newDct (kvs := []) np (ds := []) .nil
  exact k _ _ h1 h2 h3 h4
/-! ### subscripts -/
def dAt {α : Type} (xs : List α) (i : Int) : Option α := atI xs i
theorem atI_lt {α : Type} {xs : List α} {i : Int} {v : α} (h : atI xs i = some v) : ∃ j, ixN xs.length i = some j ∧ xs[j]? = some v := by
  unfold atI at h
  exact Option.bind_eq_some_iff.mp h
theorem RpL.at_ {i : Int} (l : RpL K Xx H ds vs) (h : dAt ds i = some d) : ∃ v, atI vs i = some v ∧ Rp K Xx H d v := by
  obtain ⟨j, e1, e2⟩ := atI_lt h
  obtain ⟨v, e3, r⟩ := l.get e2
  refine ⟨v, ?_, r⟩
  unfold atI
  rw [l.length, e1]
  exact e3
def dIx (x y : D) : Option D := match x, y with
  | .lst ds, .int i => dAt ds i
  | .tup ds, .int i => dAt ds i
  | .scr ds, .int i => dAt ds i
  | .str z, .int i => if z.length ≤ 16777216 then (dAt z.cps.toList i).map fun c => .str ⟨#[c]⟩ else none
  | .dct ks ds, y => (keyOf y).bind fun k => lk ks ds k
  | _, _ => none
theorem ix_dict (hu : X.A.units + 1 < cLine) : IxR X (fun x y H Q => ∃ a v, x = .ref a ∧ DGet H a y (some v) ∧ Q v H) := by
  intro value slice pins s σ H x y v u Q I rx ry h hs
  obtain ⟨a, w, rfl, g, q⟩ := h
  obtain rfl : v = Value.ref a := rx
  exact tail_any (dict_typeIs I g) PySem.F.slot_dict_getitem.lookup (d_getItem hu I g ry fun w' s3 I3 rw' => ⟨w, H, I3, rw', q⟩) hs
theorem lk_val {kvs : List (Key × V)} {k : Key} : ∀ {ds : List D}, RpL K Xx H ds (kvs.map (·.2)) → lk (kvs.map (·.1)) ds k = some d → ∃ v, valV kvs k = some v ∧ Rp K Xx H d v := by
  induction kvs with
  | nil => intro ds l h; unfold lk at h; cases h
  | cons kv kvs ih =>
    intro ds l h
    cases ds with
    | nil =>
      have q := l.length
      cases q
    | cons d' ds =>
      obtain ⟨v, ws, e, h1, h2⟩ := l.of_cons
      obtain ⟨rfl, rfl⟩ := List.cons.inj e
      have h : (if kv.1 = k then some d' else lk (kvs.map (·.1)) ds k) = some d := h
      unfold valV
      rw [List.find?_cons]
      by_cases q : kv.1 = k
      · rw [if_pos q] at h
        cases h
        rw [decide_eq_true q]
        exact ⟨_, rfl, h1⟩
      · rw [if_neg q] at h
        rw [decide_eq_false q]
        exact ih h2 h
theorem dIx_ok (b1 : Bo K Xx H x vx) (b2 : Bo K Xx H y vy) (h : dIx x y = some z) (q : ∀ v, Rp K Xx H z v → Q v H) :
    rIx K vx vy H Q ∨ ∃ a v, vx = .ref a ∧ DGet H a vy (some v) ∧ Q v H := by
  unfold dIx at h
  split at h
  · obtain ⟨a, vs, rfl, t, l⟩ := b1.lst
    rw [b2.int]
    obtain ⟨v, e, r⟩ := l.at_ h
    exact .inl (.inl ⟨a, vs, _, v, rfl, rfl, .inl t, e, q v r⟩)
  · obtain ⟨a, vs, rfl, t, l⟩ := b1.tup
    rw [b2.int]
    obtain ⟨v, e, r⟩ := l.at_ h
    exact .inl (.inr (.inl ⟨a, vs, _, v, rfl, rfl, t.sq, e, q v r⟩))
  · obtain ⟨a, vs, rfl, t, l⟩ := b1.scr
    rw [b2.int]
    obtain ⟨v, e, r⟩ := l.at_ h
    exact .inl (.inl ⟨a, vs, _, v, rfl, rfl, t.sq, e, q v r⟩)
  · split at h
    · obtain ⟨cd, e, rfl⟩ := Option.map_eq_some_iff.mp h
      rw [b1.str, b2.int]
      exact .inl (.inr (.inr ⟨_, _, cd, rfl, rfl, by rw [sizeLine_eq]; assumption, e, q _ .str⟩))
    · cases h
  · obtain ⟨k, e1, e2⟩ := Option.bind_eq_some_iff.mp h
    obtain ⟨a, kvs, rfl, t, e3, l⟩ := b1.dct
    rw [← e3] at e2
    obtain ⟨v, e4, r⟩ := lk_val l e2
    exact .inr ⟨a, v, rfl, .inl ⟨kvs, k, t, Rp.key b2 e1, e4.symm⟩, q v r⟩
  · cases h
theorem ce_ix (hu : X.A.units + 1 < cLine) (ha : PD X e1 oa) (hb : PD X e2 ob) (hs : PlainIx e2 := by exact fun _ _ => rfl) : CE X (.Subscript e1 e2 pos) (m2 oa ob dIx) := by
  refine pe_imp (pe_ix (ix_seq.or (ix_dict hu)) ha hb hs) fun σ H Q h => ?_
  obtain ⟨c, ρ, z, ρ', E, e, k⟩ := h
  exact op2 E e fun x y vx vy H' E' b1 b2 w => dIx_ok b1 b2 w fun v r => k v H' E' r
end
end DL

set_option Elab.async false
set_option linter.all false
set_option maxRecDepth 100000
namespace DL
open PySem PySem.Spec PyProof.Rows L2

section
variable {X : Cx} {K : PySem.W.Frag} {c : Fx} {σ : Sg} {H H' : Hp} {ρ ρ' : En} {i j : Nat} {a p : Addr} {o : Ow} {d x y z : D} {v vx vy : V} {Q : VK} {ds : List D} {vs : List V} {Xx : AP}
variable {e1 e2 e3 : Expr} {es : List Expr} {oa ob : Opd} {pos np : Pos} {nm : Str} {bid : String}
/-! ### calls of built-ins with one argument -/
def HasC (X : Cx) (f : Value) (g : D → Option D) : Prop := ∃ r, CallR X f r ∧ ∀ c σ H ρ x z vx Q, ER X.K c σ H ρ → Bo X.K (Xo c σ ρ) H x vx → g x = some z →
  (∀ v H', ER X.K c σ H' ρ → Rp X.K (Xo c σ ρ) H' z v → Q v H') → r [vx] H Q
def HasCO (X : Cx) (f : Value) (g : D → Option Ow) : Prop := ∃ r, CallR X f r ∧ ∀ c σ H ρ x z vx Q, ER X.K c σ H ρ → Bo X.K (Xo c σ ρ) H x vx → g x = some z →
  (∀ p H', ER X.K (c.ex p) σ H' ρ → OwAt X.K (Xo (c.ex p) σ ρ) H' p z → c.He p = none → ¬ c.X0 p → Q (.ref p) H') → r [vx] H Q
theorem HasC.or {f : Value} {g g' : D → Option D} (h : HasC X f g) (h' : HasC X f g') : HasC X f fun x => (g x).or (g' x) := by
  obtain ⟨r, o, q⟩ := h
  obtain ⟨r', o', q'⟩ := h'
  refine ⟨_, o.or o', fun c σ H ρ x z vx Q E b1 e k => ?_⟩
  have e : (g x).or (g' x) = some z := e
  cases w : g x with
  | some z1 =>
    rw [w] at e
    exact .inl (q c σ H ρ x z vx Q E b1 (by rw [w]; exact e) k)
  | none =>
    rw [w] at e
    exact .inr (q' c σ H ρ x z vx Q E b1 e k)
theorem HasC.to {f : Value} {g g' : D → Option D} (h : HasC X f g) (w : ∀ x z, g' x = some z → g x = some z) : HasC X f g' := by
  obtain ⟨r, o, q⟩ := h
  exact ⟨r, o, fun c σ H ρ x z vx Q E b1 e k => q c σ H ρ x z vx Q E b1 (w _ _ e) k⟩
theorem HasCO.or {f : Value} {g g' : D → Option Ow} (h : HasCO X f g) (h' : HasCO X f g') : HasCO X f fun x => (g x).or (g' x) := by
  obtain ⟨r, o, q⟩ := h
  obtain ⟨r', o', q'⟩ := h'
  refine ⟨_, o.or o', fun c σ H ρ x z vx Q E b1 e k => ?_⟩
  have e : (g x).or (g' x) = some z := e
  cases w : g x with
  | some z1 =>
    rw [w] at e
    exact .inl (q c σ H ρ x z vx Q E b1 (by rw [w]; exact e) k)
  | none =>
    rw [w] at e
    exact .inr (q' c σ H ρ x z vx Q E b1 e k)
theorem HasCO.to {f : Value} {g g' : D → Option Ow} (h : HasCO X f g) (w : ∀ x z, g' x = some z → g x = some z) : HasCO X f g' := by
  obtain ⟨r, o, q⟩ := h
  exact ⟨r, o, fun c σ H ρ x z vx Q E b1 e k => q c σ H ρ x z vx Q E b1 (w _ _ e) k⟩
section
variable (hg : Gl X nm) (hm : X.mg nm = none) (ha : PD X e1 oa) (hn : nm ≠ "__name__" := by decide) (hdb : (nm == ("__debug__" : Str)) = false := by decide)
  (he : starEach (e1 :: []) X.env = (false, eval e1 X.env) :: starEach [] X.env := by rfl) (hpl : (backTo pos (starEach [] X.env)).any (·.1) = false := by rfl)
theorem ce_callB {g : D → Option D} (h : HasC X (.builtin bid) g) (hg : Gl X nm) (hm : X.mg nm = none) (hv : bootBuiltins nm = some (.builtin bid)) (ha : PD X e1 oa) (hn : nm ≠ "__name__" := by decide) (hdb : (nm == ("__debug__" : Str)) = false := by decide)
  (he : starEach (e1 :: []) X.env = (false, eval e1 X.env) :: starEach [] X.env := by rfl) (hpl : (backTo pos (starEach [] X.env)).any (·.1) = false := by rfl) : CE X (.Call (.Name nm np) [e1] [] pos) (m1 oa g) := by
  obtain ⟨r, o, q⟩ := h
  refine pe_imp (pe_callB o hg hm hv (pa_cons ha pa_nil he) hn hdb he hpl) fun σ H Q h => ?_
  obtain ⟨c, ρ, z, ρ', E, e, k⟩ := h
  exact op1 E e fun x vx H' E' b1 w => q c σ H' ρ' x z vx Q E' b1 w k
theorem ce_callT {g : D → Option D} (h : HasC X (.type bid) g) (hg : Gl X nm) (hm : X.mg nm = none) (hv : bootBuiltins nm = some (.type bid)) (ha : PD X e1 oa) (hn : nm ≠ "__name__" := by decide) (hdb : (nm == ("__debug__" : Str)) = false := by decide)
  (he : starEach (e1 :: []) X.env = (false, eval e1 X.env) :: starEach [] X.env := by rfl) (hpl : (backTo pos (starEach [] X.env)).any (·.1) = false := by rfl) : CE X (.Call (.Name nm np) [e1] [] pos) (m1 oa g) := by
  obtain ⟨r, o, q⟩ := h
  refine pe_imp (pe_callTy o hg hm hv (pa_cons ha pa_nil he) hn hdb he hpl) fun σ H Q h => ?_
  obtain ⟨c, ρ, z, ρ', E, e, k⟩ := h
  exact op1 E e fun x vx H' E' b1 w => q c σ H' ρ' x z vx Q E' b1 w k
theorem co_callB {g : D → Option Ow} (h : HasCO X (.builtin bid) g) (hg : Gl X nm) (hm : X.mg nm = none) (hv : bootBuiltins nm = some (.builtin bid)) (ha : PD X e1 oa) (hn : nm ≠ "__name__" := by decide) (hdb : (nm == ("__debug__" : Str)) = false := by decide)
  (he : starEach (e1 :: []) X.env = (false, eval e1 X.env) :: starEach [] X.env := by rfl) (hpl : (backTo pos (starEach [] X.env)).any (·.1) = false := by rfl) : CO X (.Call (.Name nm np) [e1] [] pos) (m1 oa g) := by
  obtain ⟨r, o, q⟩ := h
  refine pe_imp (pe_callB o hg hm hv (pa_cons ha pa_nil he) hn hdb he hpl) fun σ H Q h => ?_
  obtain ⟨c, ρ, z, ρ', E, e, k⟩ := h
  exact op1 E e fun x vx H' E' b1 w => q c σ H' ρ' x z vx Q E' b1 w k
theorem co_callT {g : D → Option Ow} (h : HasCO X (.type bid) g) (hg : Gl X nm) (hm : X.mg nm = none) (hv : bootBuiltins nm = some (.type bid)) (ha : PD X e1 oa) (hn : nm ≠ "__name__" := by decide) (hdb : (nm == ("__debug__" : Str)) = false := by decide)
  (he : starEach (e1 :: []) X.env = (false, eval e1 X.env) :: starEach [] X.env := by rfl) (hpl : (backTo pos (starEach [] X.env)).any (·.1) = false := by rfl) : CO X (.Call (.Name nm np) [e1] [] pos) (m1 oa g) := by
  obtain ⟨r, o, q⟩ := h
  refine pe_imp (pe_callTy o hg hm hv (pa_cons ha pa_nil he) hn hdb he hpl) fun σ H Q h => ?_
  obtain ⟨c, ρ, z, ρ', E, e, k⟩ := h
  exact op1 E e fun x vx H' E' b1 w => q c σ H' ρ' x z vx Q E' b1 w k
end
/-! ### len, abs, int, bool, str -/
def dLen : D → Option D
  | .lst ds => some (.int ds.length)
  | .tup ds => some (.int ds.length)
  | .scr ds => some (.int ds.length)
  | .str z => if z.length ≤ 16777216 then some (.int z.length) else none
  | .dct ks _ => some (.int ks.length)
  | _ => none
theorem call_lenR : CallR X (.builtin "len") (fun xs H Q => ∃ a kvs, xs = [V.ref a] ∧ Rd H a (.dK kvs) ∧ Q (.int kvs.length) H) := by
  intro pins s σ H xs us Q I r h
  obtain ⟨a, kvs, rfl, ha, q⟩ := h
  obtain ⟨u, rfl, ru⟩ := vals1 r
  cases ru
  exact d_len I ha fun t s' I' => ⟨.int kvs.length, H, I', ⟨t, rfl⟩, q⟩
theorem c_len : HasC X (.builtin "len") dLen := by
  refine ⟨_, call_len_seq.or (call_len_str.or call_lenR), fun c σ H ρ x z vx Q E b e k => ?_⟩
  unfold dLen at e
  split at e
  · cases e
    obtain ⟨a, vs, rfl, t, l⟩ := b.lst
    exact .inl ⟨a, vs, rfl, .inl (.inl t), by rw [l.length]; exact k _ _ E .int⟩
  · cases e
    obtain ⟨a, vs, rfl, t, l⟩ := b.tup
    exact .inl ⟨a, vs, rfl, .inr t.sq, by rw [l.length]; exact k _ _ E .int⟩
  · cases e
    obtain ⟨a, vs, rfl, t, l⟩ := b.scr
    exact .inl ⟨a, vs, rfl, .inl t.sq, by rw [l.length]; exact k _ _ E .int⟩
  · split at e <;> cases e
    rw [b.str]
    exact .inr (.inl ⟨_, rfl, by rw [sizeLine_eq]; assumption, k _ _ E .int⟩)
  · cases e
    obtain ⟨a, kvs, rfl, t, e2, l⟩ := b.dct
    refine .inr (.inr ⟨a, kvs, rfl, t, ?_⟩)
    rw [← e2, List.length_map] at k
    exact k _ _ E .int
  · cases e
def dAbs : D → Option D
  | .int i => some (.int (if i < 0 then -i else i))
  | _ => none
theorem c_abs : HasC X (.builtin "abs") dAbs := by
  refine ⟨_, call_abs, fun c σ H ρ x z vx Q E b e k => ?_⟩
  unfold dAbs at e
  split at e <;> cases e
  rw [b.int]
  exact ⟨_, rfl, k _ _ E .int⟩
def dInt : D → Option D
  | .int i => some (.int i)
  | .bl b => some (.int (if b then 1 else 0))
  | _ => none
theorem c_int : HasC X (.type "int") dInt := by
  refine ⟨_, call_int1, fun c σ H ρ x z vx Q E b e k => ?_⟩
  unfold dInt at e
  split at e <;> cases e
  · rw [b.int]
    exact .inl ⟨_, rfl, k _ _ E .int⟩
  · rw [b.bl]
    exact .inr ⟨_, rfl, k _ _ E .int⟩
def dStr : D → Option D
  | .int i => if i.natAbs.log2 < 1920 then some (.str (toString i)) else none
  | _ => none
theorem c_str : HasC X (.type "str") dStr := by
  refine ⟨_, call_str_int, fun c σ H ρ x z vx Q E b e k => ?_⟩
  unfold dStr at e
  split at e
  · split at e <;> cases e
    rw [b.int]
    exact ⟨_, rfl, by assumption, k _ _ E .str⟩
  · cases e
/-! ### tuple, list -/
def dTuple : D → Option D
  | .lst ds => some (.tup ds)
  | .tup ds => some (.tup ds)
  | .scr ds => some (.tup ds)
  | _ => none
theorem c_tuple : HasC X (.type "tuple") dTuple := by
  refine ⟨_, call_tupF, fun c σ H ρ x z vx Q E b e k => ?_⟩
  unfold dTuple at e
  split at e <;> cases e
  · obtain ⟨a, vs, rfl, t, l⟩ := b.lst
    exact ⟨a, vs, rfl, .inl ⟨.inl t, E.newT l k⟩⟩
  · obtain ⟨a, vs, rfl, t, l⟩ := b.tup
    exact ⟨a, vs, rfl, .inr ⟨t.sq, k _ _ E b⟩⟩
  · obtain ⟨a, vs, rfl, t, l⟩ := b.scr
    exact ⟨a, vs, rfl, .inl ⟨t.sq, E.newT l k⟩⟩
def dList : D → Option Ow
  | .lst ds => some (.lst ds)
  | .tup ds => some (.lst ds)
  | .scr ds => some (.lst ds)
  | _ => none
theorem c_list : HasCO X (.type "list") dList := by
  refine ⟨_, call_list_of, fun c σ H ρ x z vx Q E b e k => ?_⟩
  unfold dList at e
  split at e <;> cases e
  · obtain ⟨a, vs, rfl, t, l⟩ := b.lst
    refine ⟨a, vs, rfl, .inl (.inl t), fun p np => ?_⟩
    obtain ⟨h1, h2, h3, h4⟩ := E.newLst np l
    exact k _ _ h1 h2 h3 h4
  · obtain ⟨a, vs, rfl, t, l⟩ := b.tup
    refine ⟨a, vs, rfl, .inr t.sq, fun p np => ?_⟩
    obtain ⟨h1, h2, h3, h4⟩ := E.newLst np l
    exact k _ _ h1 h2 h3 h4
  · obtain ⟨a, vs, rfl, t, l⟩ := b.scr
    refine ⟨a, vs, rfl, .inl t.sq, fun p np => ?_⟩
    obtain ⟨h1, h2, h3, h4⟩ := E.newLst np l
    exact k _ _ h1 h2 h3 h4
/-! ### sum, all, any -/
def intsOf : List D → Option (List Int)
  | [] => some []
  | .int i :: ds => (intsOf ds).map (i :: ·)
  | _ => none
theorem intsOf_ok : ∀ {ds : List D} {vs : List V} {ns : List Int}, RpL K Xx H ds vs → intsOf ds = some ns → vs = ns.map V.int
  | [], vs, ns, l, e => by
    cases e
    rw [l.of_nil]
    rfl
  | d :: ds, vs, ns, l, e => by
    obtain ⟨v, ws, rfl, h1, h2⟩ := l.of_cons
    unfold intsOf at e
    split at e
    · rename_i q
      cases q
    · rename_i q
      cases q
      obtain ⟨ms, e1, rfl⟩ := Option.map_eq_some_iff.mp e
      rw [intsOf_ok h2 e1]
      unfold Rp at h1
      rw [h1]
      rfl
    · cases e
def blsOf : List D → Option (List Bool)
  | [] => some []
  | .bl i :: ds => (blsOf ds).map (i :: ·)
  | _ => none
theorem blsOf_ok : ∀ {ds : List D} {vs : List V} {ns : List Bool}, RpL K Xx H ds vs → blsOf ds = some ns → vs = ns.map V.bl
  | [], vs, ns, l, e => by
    cases e
    rw [l.of_nil]
    rfl
  | d :: ds, vs, ns, l, e => by
    obtain ⟨v, ws, rfl, h1, h2⟩ := l.of_cons
    unfold blsOf at e
    split at e
    · rename_i q
      cases q
    · rename_i q
      cases q
      obtain ⟨ms, e1, rfl⟩ := Option.map_eq_some_iff.mp e
      rw [blsOf_ok h2 e1]
      unfold Rp at h1
      rw [h1]
      rfl
    · cases e
def dSum : D → Option D
  | .lst ds => (intsOf ds).map fun ns => .int ns.sum
  | _ => none
theorem c_sum (hc : X.calm = true) : HasC X (.builtin "sum") dSum := by
  refine ⟨_, cr_sum hc, fun c σ H ρ x z vx Q E b e k => ?_⟩
  unfold dSum at e
  split at e
  · obtain ⟨ns, e1, rfl⟩ := Option.map_eq_some_iff.mp e
    obtain ⟨a, vs, rfl, t, l⟩ := b.lst
    have q := intsOf_ok l e1
    subst q
    exact ⟨a, ns, rfl, .inl t, k _ _ E .int⟩
  · cases e
def dAll : D → Option D
  | .lst ds => (blsOf ds).map fun ns => .bl (ns.all id)
  | _ => none
def dAny : D → Option D
  | .lst ds => (blsOf ds).map fun ns => .bl (ns.any id)
  | _ => none
theorem c_all (hc : X.calm = true) : HasC X (.builtin "all") dAll := by
  refine ⟨_, cr_all hc, fun c σ H ρ x z vx Q E b e k => ?_⟩
  unfold dAll at e
  split at e
  · obtain ⟨ns, e1, rfl⟩ := Option.map_eq_some_iff.mp e
    obtain ⟨a, vs, rfl, t, l⟩ := b.lst
    have q := blsOf_ok l e1
    subst q
    exact ⟨a, ns, rfl, .inl t, k _ _ E .bl⟩
  · cases e
theorem c_any (hc : X.calm = true) : HasC X (.builtin "any") dAny := by
  refine ⟨_, cr_any hc, fun c σ H ρ x z vx Q E b e k => ?_⟩
  unfold dAny at e
  split at e
  · obtain ⟨ns, e1, rfl⟩ := Option.map_eq_some_iff.mp e
    obtain ⟨a, vs, rfl, t, l⟩ := b.lst
    have q := blsOf_ok l e1
    subst q
    exact ⟨a, ns, rfl, .inl t, k _ _ E .bl⟩
  · cases e
def dMax : D → Option D
  | .lst ds => (intsOf ds).bind fun ns => ns.max?.map .int
  | _ => none
end
end DL

set_option Elab.async false
set_option linter.all false
set_option maxRecDepth 100000
/-! sorted of data, tuples with nothing in them among them -/
namespace DLS
open PySem PySem.W PySem.Calls PyProof.Rows PySem.SeqAt
section
variable {prog : Program} {w : World} {A : Around} {E : Value → Shared → Prop} {s : Shared}
theorem tup_call_lt {Q : Value → Shared → Prop} {l b : Addr} {items items2 : Array Value} {e r : Nat → Bool} (hl : s.heap.IsTuple l items) (hb : s.heap.IsTuple b items2)
    (he : ∀ j (h1 : j < items.size) (h2 : j < items2.size), EqAt A.in1 s items[j] items2[j] (e j)) (hr : ∀ j (h1 : j < items.size) (h2 : j < items2.size), e j = false → RcLt A.in1 s items[j] items2[j] (r j))
    (h : Q (.bool (firstLt e r (decide (items.size < items2.size)) (List.range (min items.size items2.size)))) s) : wpAny (model prog w) A (call (.builtin "tuple.__lt__") [.ref l, .ref b]) Q E s := by
  obtain ⟨⟨cls, dd, data, sl⟩, ho, hc, n, hd⟩ := id hl
  obtain ⟨⟨cls2, dd2, data2, sl2⟩, ho2, hc2, n2, hd2⟩ := id hb
  simp only at hc hd hc2 hd2
  subst hc hd hc2 hd2
  exact call_meets F.slot_tuple_lt ⟨_, ho, rfl⟩ F.entry_tuple_lt (F.args_tuple_lt_2 _ _) (tuple_ltAt l b items items2 n n2 dd dd2 sl sl2 e r) ⟨ho, ho2, he, hr, h⟩
/-- one tuple against another -/
theorem one_tup {f : Bool} {xs ys : List PyData} {a b : Value} {as bs : List Addr} {Q : Bool → Shared → Prop} (ra : Reads s.heap a (.tuple xs) as) (rb : Reads s.heap b (.tuple ys) bs) (hal : alikeAll xs ys = true)
    (hu : A.units + min (PyData.tuple xs).depth (PyData.tuple ys).depth < cLine) (hq : Q (dataLt (.tuple xs) (.tuple ys)) s) : wpAny (model prog w) A (oneLt' f a b) Q E s := by
  cases f with
  | false =>
    rw [oneLt'_eq]
    simp only [Bool.false_eq_true, if_false]
    exact wpAny_bind (rcLt_alike _ _ A s a b as bs ra rb (by simpa [alike] using hal) (by simp) hu prog w E _ (wpAny_truthy_bool hq))
  | true =>
    cases ra with
    | @tuple l o vs n _ as₁ h1 h2 h3 h4 =>
      cases rb with
      | @tuple l' o' vs' n' _ bs₁ k1 k2 k3 k4 =>
        have n1 : vs.size = xs.length := by simpa using ReadsAll.length _ _ _ h4
        have n2 : vs'.size = ys.length := by simpa using ReadsAll.length _ _ _ k4
        rw [dataLt_tuple, ← firstLt_toks xs ys hal, ← n1, ← n2] at hq
        rw [oneLt'_eq]
        simp only [if_true]
        refine wpAny_bind (wpAny_cRoomFor (room_here hu) ?_)
        refine wpAny_bind (wpAny_callSpecialIfBound?_slot (T := "tuple") ⟨_, h1, h2⟩ F.slot_tuple_lt (tup_call_lt (e := pairEq xs ys) (r := fun j => dataLt (xs.getD j .none) (ys.getD j .none)) ⟨_, h1, h2, _, h3⟩ ⟨_, k1, k2, _, k3⟩ (fun j j1 j2 => ?_) (fun j j1 j2 hj => ?_) ?_))
        · have := eqAt_alikeAll xs ys A.in1 s vs.toList vs'.toList _ _ h4 k4 hal (room_in hu) j (by simpa using j1) (by simpa using j2)
          simpa using this
        · have := rcLt_alikeAll xs ys A.in1 s vs.toList vs'.toList _ _ h4 k4 hal (room_in hu) j (by simpa using j1) (by simpa using j2) hj
          simpa using this
        · exact wpAny_truthy_bool hq
def hasItem : PyData → Bool
  | .tuple (_ :: _) => true
  | _ => false
theorem firsts_tup {M : Model} : ∀ (vs : List Value) (ds : List PyData) {Q : List (Option Value) → Shared → Prop}, EachIs (fun v d => ∃ as, Reads s.heap v d as) vs ds → (∀ d ∈ ds, ∃ xs, d = .tuple xs) →
    (∀ os : List (Option Value), os.map Option.isSome = ds.map hasItem → Q os s) → wpAny M A (vs.mapM firstOfTuple') Q E s
  | [], ds, Q, e, _, h => by
    cases e
    rw [List.mapM_nil]
    exact wpAny_pure (h [] rfl)
  | v :: vs, ds, Q, e, ht, h => by
    cases e with
    | @cons _ d _ ds r t =>
      obtain ⟨as, r⟩ := r
      obtain ⟨xs, rfl⟩ := ht d (List.mem_cons_self ..)
      rw [List.mapM_cons]
      refine wpAny_bind ?_
      cases r with
      | @tuple a o ws n _ _ ho hc hd hr =>
        rw [kas_first_eq]
        refine wpAny_bind (Looks.here (show Looks M s.heap (typeOf (.ref a)) o.cls from (Looks.ld ho).andThen .now) ?_)
        rw [hc, if_neg (by first | decide | simp)]
        refine wpAny_bind (listItems_at ho hd (wpAny_pure ?_))
        refine wpAny_bind (firsts_tup vs ds (Q := fun bs s' => wpAny M A (pure (ws[0]? :: bs)) Q E s') t (fun d hd => ht d (List.mem_cons_of_mem _ hd)) fun os ho2 => wpAny_pure (h _ ?_))
        rw [List.map_cons, List.map_cons, ho2]
        congr 1
        have q := ReadsAll.length _ _ _ hr
        rw [← Array.getElem?_toList]
        cases xs with
        | nil =>
          have e0 : ws.toList = [] := List.eq_nil_of_length_eq_zero q
          rw [e0]
          rfl
        | cons x xs =>
          cases e1 : ws.toList with
          | nil => rw [e1] at q; cases q
          | cons y ys => rfl
theorem kind_tup {vs : List Value} {ds : List PyData} {Q : SortKind → Shared → Prop} (h2 : 2 ≤ vs.length) (e : EachIs (fun v d => ∃ as, Reads s.heap v d as) vs ds) (ht : ∀ d ∈ ds, ∃ xs, d = .tuple xs) (hn : ds.all hasItem = false)
    (h : Q (if (ds.head?.map hasItem) = some true then general' else oneType') s) : wpAny (model prog w) A (keyKind' vs.toArray) Q E s := by
  rw [keyKind'_eq, List.mapM_toArray, map_eq_pure_bind]
  refine wpAny_bind (wpAny_bind (firsts_tup vs ds e ht fun os ho => wpAny_pure ?_))
  have hall : ¬ (os.toArray.all fun x => x.isSome) = true := by
    rw [List.all_toArray]
    intro q
    have q2 : (os.map Option.isSome).all (fun b => b) = true := by rw [List.all_map]; exact q
    rw [ho, List.all_map] at q2
    have q3 : ds.all hasItem = true := q2
    rw [hn] at q3
    cases q3
  rw [if_neg hall]
  have h0 : (os.toArray[0]?.bind id).isSome = decide ((ds.head?.map hasItem) = some true) := by
    cases os with
    | nil =>
      cases ds with
      | nil => rfl
      | cons d ds => cases ho
    | cons x os =>
      cases ds with
      | nil => cases ho
      | cons d ds =>
        rw [List.map_cons, List.map_cons] at ho
        obtain ⟨e1, _⟩ := List.cons.inj ho
        show x.isSome = decide (some (hasItem d) = some true)
        rw [e1]
        cases hasItem d <;> rfl
  rw [h0]
  by_cases hc : (ds.head?.map hasItem) = some true
  · rw [if_pos hc] at h
    rw [decide_eq_true hc, if_pos rfl]
    exact wpAny_pure h
  · rw [if_neg hc] at h
    rw [decide_eq_false hc, if_neg (by decide)]
    rw [oneTypeOnly'_eq, List.mapM_toArray, map_eq_pure_bind]
    refine wpAny_bind (wpAny_bind (wpAny_bind (kas_mapM (r := Value.type "tuple") _ (fun v hv Q' hq => ?_) (wpAny_pure ?_))))
    · obtain ⟨d, hd, as, r⟩ := e.left v hv
      obtain ⟨xs, rfl⟩ := ht d hd
      exact (looks_reads r).here hq
    · have hall2 : ((List.map (fun _ => Value.type "tuple") vs).toArray.all fun x => x == Value.type "tuple") = true := by
        simp only [List.all_toArray, List.all_map, List.all_eq_true]
        intro _ _
        rfl
      have h3 : (List.map (fun _ => Value.type "tuple") vs).toArray[0]? = some (Value.type "tuple") := by
        match vs, h2 with
        | _ :: _, _ => rfl
      rw [h3]
      simp only [hall2, if_true]
      exact wpAny_pure (wpAny_pure h)
/-- values that read as tuples (some of them empty) can be sorted -/
theorem sorts_tup {vs : List Value} {ds : List PyData} (e : EachIs (fun v d => ∃ as, Reads s.heap v d as) vs ds) (hal : AllAlike ds) (ht : ∀ d ∈ ds, ∃ xs, d = .tuple xs) (hn : ds.all hasItem = false) (hu : ∀ d, d ∈ ds → A.units + d.depth < cLine) :
    SortsAt prog w A s (dataKind s.heap ds) vs := by
  have room : ∀ {d d' : PyData}, d ∈ ds → A.units + min d.depth d'.depth < cLine := fun {d d'} hd => Nat.lt_of_le_of_lt (Nat.add_le_add_left (Nat.min_le_left _ _) _) (hu d hd)
  refine ⟨fun v hv => ?_, if (ds.head?.map hasItem) = some true then general' else oneType', ?_, fun h2 E Q hq => kind_tup h2 e ht hn hq⟩
  · obtain ⟨d, hd, as, r⟩ := e.left v hv
    exact ⟨_, dataKind_some hal hd r⟩
  · intro E x y a b Q ha hb hq
    obtain ⟨d, as, hd, ra, rfl⟩ := dataKind_inv ha
    obtain ⟨d', as', hd', rb, rfl⟩ := dataKind_inv hb
    have hdd := hal d hd d' hd'
    have hroom := room (d' := d') hd
    obtain ⟨xs, rfl⟩ := ht d hd
    obtain ⟨ys, rfl⟩ := ht d' hd'
    have hx : alikeAll xs ys = true := by simpa [alike] using hdd
    have fin : ∀ f, wpAny (model prog w) A (oneLt' f x y) Q E s := fun f => one_tup ra rb hx hroom hq
    split
    · exact fin false
    · exact fin true
def CanSort (ds : List PyData) : Prop := Sortable ds ∨ ((∀ d ∈ ds, ∃ xs, d = .tuple xs) ∧ ds.all hasItem = false)
theorem sorts_any {vs : List Value} {ds : List PyData} (e : EachIs (fun v d => ∃ as, Reads s.heap v d as) vs ds) (hal : AllAlike ds) (hk : CanSort ds) (hu : ∀ d, d ∈ ds → A.units + d.depth < cLine) : SortsAt prog w A s (dataKind s.heap ds) vs := by
  rcases hk with hk | ⟨h1, h2⟩
  · exact SortsAt.data e hal hk hu
  · exact sorts_tup e hal h1 h2 hu
variable {β : Type} {vs : List Value} {bs : List β} {enc : β → PyData} {R : Value → β → Prop}
theorem sorted_any {l : Addr} {Q : Value → Shared → Prop} (hl : s.heap.IsList l vs.toArray) (e : EachIs R vs bs) (er : EachIs (fun v b => ∃ as, Reads s.heap v (enc b) as) vs bs) (hal : AllAlike (bs.map enc)) (hk : CanSort (bs.map enc)) (hL : bs.length ≤ sizeLine)
    (hu : ∀ b, b ∈ bs → A.units + 2 + (enc b).depth < cLine) (h : ∀ out, out.length = bs.length → EachIs R out (bs.mergeSort (dataLe false enc)) → Q (.ref (s.heap.objs.size + 1)) { s with heap := sortedAll s.heap vs (List.toArray out) }) :
    wpAny (model prog w) A (call (.builtin "sorted") [.ref l]) Q E s := by
  have er' : EachIs (fun v b => ∃ as, Reads (sortingHeap (copyHeap s.heap vs) (s.heap.objs.size + 1) vs) v (enc b) as) vs bs := er.mono fun _ _ ⟨as, r⟩ => ⟨as, PyProof.Rows.Reads.keeps (fun _ _ => sorting_copy_old) r⟩
  exact sorted_vals hl (sorts_any (s := { s with heap := sortingHeap (copyHeap s.heap vs) (s.heap.objs.size + 1) vs }) (each_map (R := fun v d => ∃ as, Reads (sortingHeap (copyHeap s.heap vs) (s.heap.objs.size + 1) vs) v d as) enc er') hal hk (bound_map hu)) (by rw [e.length]; exact hL)
    (h _ (by rw [sortVals_length false rfl]; exact e.length) (sortVals_data false e er' hal))
end
end DLS

set_option Elab.async false
set_option linter.all false
set_option maxRecDepth 100000
namespace DL
open PySem PySem.Spec PyProof.Rows L2

section
variable {X : Cx} {K : PySem.W.Frag} {c : Fx} {σ : Sg} {H H' : Hp} {ρ ρ' : En} {i j : Nat} {a p : Addr} {o : Ow} {d x y z : D} {v vx vy : V} {Q : VK} {ds : List D} {vs : List V} {Xx : AP}
/-! ### sorted -/
abbrev pk (q : D × V) : PyData := q.1.py
def leP (q r : D × V) : Bool := PySem.W.dataLe false pk q r
def leD (x y : D) : Bool := PySem.W.dataLe false D.py x y
def rSortD (K : PySem.W.Frag) : List V → Hp → VK → Prop := fun xs H Q => ∃ (a : Addr) (ps : List (D × V)), xs = [.ref a] ∧ (SqL K H a (ps.map (·.2))) ∧ (∀ q ∈ ps, Dp K H q.2 q.1.py) ∧ PySem.W.AllAlike (ps.map pk) ∧ DLS.CanSort (ps.map pk) ∧
  (∀ q ∈ ps, q.1.py.depth ≤ 60) ∧ ∀ l, H l = none → Q (.ref l) (upd H l (.lst ((ps.mergeSort leP).map (·.2))))
theorem each_vals : ∀ {ps : List (D × V)} {us : List Value}, Vals (ps.map (·.2)) us → PySem.W.EachIs (fun (u : Value) (q : D × V) => RelV q.2 u) us ps
  | [], us, r => by
    cases r
    exact .nil
  | q :: ps, us, r => by
    rw [List.map_cons] at r
    cases r with
    | cons r1 r2 => exact .cons r1 (each_vals r2)
theorem vals_each : ∀ {ps : List (D × V)} {us : List Value}, PySem.W.EachIs (fun (u : Value) (q : D × V) => RelV q.2 u) us ps → Vals (ps.map (·.2)) us
  | [], us, r => by
    cases r
    exact .nil
  | q :: ps, us, r => by
    cases r with
    | cons r1 r2 => exact .cons r1 (vals_each r2)
theorem each_reads {pins : List (Addr × Obj)} {s : Shared} (I : Inv X pins σ H s) : ∀ {ps : List (D × V)} {us : List Value}, Vals (ps.map (·.2)) us → (∀ q ∈ ps, Dp X.K H q.2 q.1.py) →
    PySem.W.EachIs (fun (u : Value) (q : D × V) => ∃ as, Reads s.heap u (pk q) as) us ps
  | [], us, r, _ => by
    cases r
    exact .nil
  | q :: ps, us, r, h => by
    rw [List.map_cons] at r
    cases r with
    | cons r1 r2 => exact .cons (Dp.reads I _ _ _ (h q List.mem_cons_self) r1) (each_reads I r2 fun q hq => h q (List.mem_cons_of_mem _ hq))
theorem cr_sortD (hu : X.A.units + 64 < cLine) : CallR X (.builtin "sorted") (rSortD X.K) := by
  intro pins s σ H xs us Q I r h
  obtain ⟨a, ps, rfl, hs, hd, hal, hk, hdep, q⟩ := h
  obtain ⟨its, rv, hl, hz⟩ := I.list hs
  rw [Vals.ref1 r]
  have hlen := rv.length
  rw [List.length_map] at hlen hz
  refine DLS.sorted_any (enc := pk) (R := fun (u : Value) (q : D × V) => RelV q.2 u) hl.isList (each_vals rv) (each_reads I rv hd) hal hk hz (fun q hq => by have := hdep q hq; show X.A.units + 2 + q.1.py.depth < cLine; omega) fun out ho eo => ?_
  obtain ⟨ep, he'⟩ := PyProof.Rows.sortedAll_at s.heap its out.toArray
  have hz2 : ((ps.mergeSort leP).map (·.2)).length ≤ sizeLine := by rw [List.length_map, List.length_mergeSort]; exact hz
  refine ⟨.ref _, upd H (s.heap.objs.size + 1) (.lst ((ps.mergeSort leP).map (·.2))), I.laid (t' := s.toks) (fun _ _ => PyProof.Rows.sortedAll_old) (Nat.le_succ _) ⟨hz2, out, ep, vals_each eo, he'⟩, rfl, q _ (I.hok.fresh (Nat.le_succ _))⟩

/-- what may be sorted, told by looking -/
def alikeB (ds : List D) : Bool := ds.all fun d => ds.all fun e => PySem.W.alike d.py e.py
def tupB : D → Bool
  | .tup _ => true
  | _ => false
def noTupB : D → Bool
  | .tup _ => false
  | .non => false
  | .dct _ _ => false
  | .scr _ => false
  | _ => true
def sortOk (ds : List D) : Bool := plL ds && alikeB ds && (ds.all fun d => decide (d.py.depth ≤ 60)) && (ds.all tupB || ds.all noTupB)
def dSorted : D → Option Ow
  | .lst ds => if sortOk ds then some (.lst (ds.mergeSort leD)) else none
  | _ => none
theorem zip_snd : ∀ {ds : List D} {vs : List V}, vs.length = ds.length → (ds.zip vs).map (·.2) = vs ∧ (ds.zip vs).map (·.1) = ds
  | [], [], _ => ⟨rfl, rfl⟩
  | d :: ds, v :: vs, h => by
    obtain ⟨h1, h2⟩ := zip_snd (ds := ds) (vs := vs) (by simpa using h)
    exact ⟨by rw [List.zip_cons_cons, List.map_cons, h1], by rw [List.zip_cons_cons, List.map_cons, h2]⟩
  | [], v :: vs, h => by cases h
  | d :: ds, [], h => by cases h
theorem zip_rp : ∀ {ds : List D} {vs : List V}, RpL K Xx H ds vs → ∀ q ∈ ds.zip vs, Rp K Xx H q.1 q.2
  | [], vs, h, q, hq => by simp at hq
  | d :: ds, vs, h, q, hq => by
    obtain ⟨v, ws, rfl, h1, h2⟩ := h.of_cons
    rw [List.zip_cons_cons] at hq
    rcases List.mem_cons.mp hq with e | hq
    · subst e
      exact h1
    · exact zip_rp h2 q hq
theorem rpL_of_pairs : ∀ {ps : List (D × V)}, (∀ q ∈ ps, Rp K Xx H q.1 q.2) → RpL K Xx H (ps.map (·.1)) (ps.map (·.2))
  | [], _ => .nil
  | q :: ps, h => .cons (h q List.mem_cons_self) (rpL_of_pairs fun r hr => h r (List.mem_cons_of_mem _ hr))
theorem plL_mem : ∀ {ds : List D}, plL ds = true → ∀ d ∈ ds, d.pl = true
  | [], _, d, hd => by cases hd
  | e :: ds, h, d, hd => by
    unfold plL at h
    rw [Bool.and_eq_true] at h
    rcases List.mem_cons.mp hd with q | hd
    · rw [q]
      exact h.1
    · exact plL_mem h.2 d hd
theorem canSort_of (h : (ds.all tupB || ds.all noTupB) = true) : DLS.CanSort (ds.map D.py) := by
  rw [Bool.or_eq_true] at h
  rcases h with h | h
  · have ht : ∀ e ∈ ds.map D.py, ∃ xs, e = .tuple xs := fun e he => by
      obtain ⟨d, hd, rfl⟩ := List.mem_map.mp he
      have q := List.all_eq_true.mp h d hd
      cases d with
      | tup xs => exact ⟨pyL xs, by unfold D.py; rfl⟩
      | _ => cases q
    by_cases hn : (ds.map D.py).all DLS.hasItem = true
    · refine .inl (.inl fun e he => ?_)
      obtain ⟨xs, rfl⟩ := ht e he
      have q := List.all_eq_true.mp hn _ he
      cases xs with
      | nil => cases q
      | cons x xs => exact ⟨x, xs, rfl⟩
    · exact .inr ⟨ht, by simpa using hn⟩
  · refine .inl (.inr fun e he => ?_)
    obtain ⟨d, hd, rfl⟩ := List.mem_map.mp he
    have q := List.all_eq_true.mp h d hd
    cases d <;> first | exact absurd q Bool.false_ne_true | (unfold D.py; exact ⟨(fun z => by cases z), fun _ z => by cases z⟩)
theorem leP_leD (q r : D × V) : leP q r = leD q.1 r.1 := rfl
theorem c_sorted (hu : X.A.units + 64 < cLine) : HasCO X (.builtin "sorted") dSorted := by
  refine ⟨_, cr_sortD hu, fun c σ H ρ x z vx Q E b e k => ?_⟩
  unfold dSorted at e
  split at e
  · split at e <;> cases e
    rename_i ds hs
    unfold sortOk at hs
    simp only [Bool.and_eq_true] at hs
    obtain ⟨⟨⟨h1, h2⟩, h3⟩, h4⟩ := hs
    obtain ⟨a, vs, rfl, t, l⟩ := b.lst
    obtain ⟨z1, z2⟩ := zip_snd l.length
    have zr := zip_rp l
    have ey : (ds.zip vs).map pk = ds.map D.py := by
      rw [← z2, List.map_map, z2]
      rfl
    refine ⟨a, ds.zip vs, rfl, ?_, fun q hq => ?_, ?_, ?_, fun q hq => ?_, fun p np => ?_⟩
    · rw [z1]
      exact .inl t
    · exact (zr q hq).dp (plL_mem h1 _ (by rw [← z2]; exact List.mem_map_of_mem hq))
    · rw [ey]
      intro d1 hd1 d2 hd2
      obtain ⟨x1, hx1, rfl⟩ := List.mem_map.mp hd1
      obtain ⟨x2, hx2, rfl⟩ := List.mem_map.mp hd2
      exact List.all_eq_true.mp (List.all_eq_true.mp h2 x1 hx1) x2 hx2
    · rw [ey]
      exact canSort_of h4
    · exact of_decide_eq_true (List.all_eq_true.mp h3 q.1 (by rw [← z2]; exact List.mem_map_of_mem hq))
    · have es : ((ds.zip vs).mergeSort leP).map (·.1) = ds.mergeSort leD := by
        rw [PySem.W.sort_maps (r := leP) (s := leD) (fun q : D × V => q.1) (fun _ _ _ _ => rfl), z2]
      have rs : RpL X.K (Xo c σ ρ) H (((ds.zip vs).mergeSort leP).map (·.1)) (((ds.zip vs).mergeSort leP).map (·.2)) :=
        rpL_of_pairs fun q hq => zr q (List.mem_mergeSort.mp hq)
      rw [es] at rs
      obtain ⟨g1, g2, g3, g4⟩ := E.newLst np rs
      exact k _ _ g1 g2 g3 g4
  · cases e

/-! ### dict(pairs) -/
theorem leD_total : PySem.W.TotalLe leD := PySem.W.sortLe_total (PyProof.Rows.listOrd PyProof.Rows.itemOrd) false fun d : D => PySem.W.keyToks d.py
theorem leD_str (a b : Str) : leD (.str a) (.str b) = !decide (b.cps.toList < a.cps.toList) := by
  show (!PyProof.Rows.lexLt PyProof.Rows.itemOrd (PySem.W.keyToks (D.str b).py) (PySem.W.keyToks (D.str a).py)) = _
  unfold D.py
  show (!(PyProof.Rows.itemOrd.blt (.inr b.cps.toList) (.inr a.cps.toList) || (!PyProof.Rows.itemOrd.blt (.inr a.cps.toList) (.inr b.cps.toList) && false))) = _
  rw [Bool.and_false, Bool.or_false]
  show (!PyProof.Rows.itemLt (.inr b.cps.toList) (.inr a.cps.toList)) = _
  unfold PyProof.Rows.itemLt
  rfl
theorem ltCps_dec : ∀ l m : List Nat, ltCps l m = decide (l < m)
  | [], [] => rfl
  | [], _ :: _ => by
    unfold ltCps
    exact (decide_eq_true (List.nil_lt_cons _ _)).symm
  | _ :: _, [] => by
    unfold ltCps
    exact (decide_eq_false (List.not_lt_nil _)).symm
  | a :: r, b :: t => by
    unfold ltCps
    rw [ltCps_dec r t, Bool.eq_iff_iff]
    simp only [Bool.or_eq_true, Bool.and_eq_true, decide_eq_true_eq, beq_iff_eq, List.cons_lt_cons_iff]
theorem leD_antisymm_str {a b : Str} (h1 : leD (.str a) (.str b) = true) (h2 : leD (.str b) (.str a) = true) : a = b := by
  rw [leD_str, Bool.not_eq_true', decide_eq_false_iff_not] at h1 h2
  have e := List.le_antisymm (List.not_lt.mp h1) (List.not_lt.mp h2)
  cases a
  cases b
  rw [Array.toList_inj] at e
  cases e
  rfl
theorem risingS_leD : ∀ {p : Str} {l : List Str}, risingS p l = true → (∀ x ∈ l, leD (.str p) (.str x) = true) ∧ l.Pairwise fun a b => leD (.str a) (.str b) = true
  | p, [], _ => ⟨(fun _ h => by cases h), .nil⟩
  | p, x :: r, h => by
    unfold risingS at h
    rw [Bool.and_eq_true, ltCps_dec] at h
    obtain ⟨h1, h2⟩ := h
    obtain ⟨g1, g2⟩ := risingS_leD h2
    have h0 : leD (.str p) (.str x) = true := by rw [leD_str]; exact h1
    refine ⟨fun y hy => ?_, .cons g1 g2⟩
    rcases List.mem_cons.mp hy with e | hy
    · rw [e]; exact h0
    · exact leD_total.trans _ _ _ h0 (g1 y hy)
theorem sortedS_leD {l : List Str} (h : sortedS l = true) : (l.map D.str).Pairwise fun a b => leD a b = true := by
  rw [List.pairwise_map]
  cases l with
  | nil => exact .nil
  | cons x r =>
    obtain ⟨g1, g2⟩ := risingS_leD (show risingS x r = true from h)
    exact .cons g1 g2
theorem sort_pw (ds : List D) : (ds.mergeSort leD).Pairwise fun a b => leD a b = true :=
  List.pairwise_mergeSort leD_total.trans (fun a b => by rw [Bool.or_eq_true]; exact leD_total.total a b) ds
theorem sort_strs {ys ks : List Str} (hp : ys.Perm ks) (hs : sortedS ys = true) : ys.map D.str = (ks.map D.str).mergeSort leD := by
  refine List.Perm.eq_of_pairwise (fun a b ha hb h1 h2 => ?_) (sortedS_leD hs) (sort_pw _) ((hp.map _).trans (List.mergeSort_perm _ _).symm)
  obtain ⟨x, _, rfl⟩ := List.mem_map.mp ha
  obtain ⟨y, _, rfl⟩ := List.mem_map.mp (List.mem_mergeSort.mp hb)
  rw [leD_antisymm_str h1 h2]
def strsOf : List Key → Option (List Str)
  | [] => some []
  | .inr x :: ks => (strsOf ks).map (x :: ·)
  | .inl _ :: _ => none
theorem strsOf_ok : ∀ {ks : List Key} {xs : List Str}, strsOf ks = some xs → ks = xs.map Sum.inr
  | [], xs, h => by cases h; rfl
  | .inr x :: ks, xs, h => by
    unfold strsOf at h
    obtain ⟨ys, h1, rfl⟩ := Option.map_eq_some_iff.mp h
    rw [strsOf_ok h1]
    rfl
  | .inl _ :: _, xs, h => by cases h
def dSortedK : D → Option Ow
  | .dct ks _ => (strsOf ks).bind fun xs => if xs.length < 64 then some (.lst ((xs.map D.str).mergeSort leD)) else none
  | _ => none
theorem rpL_strs : ∀ ys : List Str, RpL K Xx H (ys.map D.str) (ys.map V.str)
  | [] => .nil
  | y :: ys => .cons .str (rpL_strs ys)
theorem c_sortedK (hc : X.calm = true) : HasCO X (.builtin "sorted") dSortedK := by
  refine ⟨_, call_sortedD hc, fun c σ H ρ x z vx Q E b e k => ?_⟩
  unfold dSortedK at e
  split at e
  · obtain ⟨xs, e1, e2⟩ := Option.bind_eq_some_iff.mp e
    split at e2 <;> cases e2
    obtain ⟨a, kvs, rfl, t, e3, l⟩ := b.dct
    refine ⟨a, kvs, xs, rfl, t, by rw [e3, strsOf_ok e1], by assumption, fun ys p hp hs np => ?_⟩
    have r := rpL_strs (K := X.K) (Xx := Xo c σ ρ) (H := H) ys
    rw [sort_strs hp hs] at r
    obtain ⟨g1, g2, g3, g4⟩ := E.newLst np r
    exact k _ _ g1 g2 g3 g4
  · cases e
def dSort (x : D) : Option Ow := match x with
  | .lst ds => if sortOk ds then some (.lst (ds.mergeSort leD)) else none
  | .dct ks _ => (strsOf ks).bind fun xs => if xs.length < 64 then some (.lst ((xs.map D.str).mergeSort leD)) else none
  | _ => none
theorem c_sort (hc : X.calm = true) (hu : X.A.units + 64 < cLine) : HasCO X (.builtin "sorted") dSort := ((c_sorted hu).or (c_sortedK hc)).to fun x z h => by
  cases x with
  | lst ds =>
    have h : (if sortOk ds then some (Ow.lst (ds.mergeSort leD)) else none) = some z := h
    show Option.or (if sortOk ds then some (Ow.lst (ds.mergeSort leD)) else none) none = some z
    rw [h]
    rfl
  | dct ks ds => exact h
  | _ => cases h
def putKs (ks : List Key) (k : Key) : List Key := if hasK ks k then ks else ks ++ [k]
def putDs (ks : List Key) (ds : List D) (k : Key) (d : D) : List D := if hasK ks k then (ks.zip ds).map fun q => if q.1 = k then d else q.2 else ds ++ [d]
theorem put_ok {kvs : List (Key × V)} {k : Key} (l : RpL K Xx H ds (kvs.map (·.2))) (r : Rp K Xx H d v) : (putK kvs k v).map (·.1) = putKs (kvs.map (·.1)) k ∧ RpL K Xx H (putDs (kvs.map (·.1)) ds k d) ((putK kvs k v).map (·.2)) := by
  have e : (kvs.any fun kv => decide (kv.1 = k)) = hasK (kvs.map (·.1)) k := by
    unfold hasK
    rw [List.any_map]
    rfl
  unfold putK putKs putDs
  rw [e]
  cases hasK (kvs.map (·.1)) k with
  | true =>
    rw [if_pos rfl, if_pos rfl, if_pos rfl]
    constructor
    · rw [List.map_map]
      refine List.map_congr_left fun q _ => ?_
      show (if q.1 = k then (q.1, v) else q).1 = q.1
      by_cases h : q.1 = k
      · rw [if_pos h]
      · rw [if_neg h]
    · clear e
      induction kvs generalizing ds with
      | nil =>
        have q := l.length
        cases ds with
        | nil => exact .nil
        | cons _ _ => cases q
      | cons kv kvs ih =>
        cases ds with
        | nil => exact absurd l.length (by simp)
        | cons d0 ds =>
          obtain ⟨v0, ws, e1, h1, h2⟩ := l.of_cons
          obtain ⟨rfl, rfl⟩ := List.cons.inj e1
          refine .cons ?_ (ih h2)
          show Rp K Xx H (if kv.1 = k then d else d0) (if kv.1 = k then (kv.1, v) else kv).2
          by_cases h : kv.1 = k
          · rw [if_pos h, if_pos h]
            exact r
          · rw [if_neg h, if_neg h]
            exact h1
  | false =>
    rw [if_neg (by decide), if_neg (by decide), if_neg (by decide)]
    constructor
    · rw [List.map_append]
      rfl
    · rw [List.map_append]
      exact l.app (.cons r .nil)
/-- pairs of keys and things -/
def pairsOf : List D → Option (List (Key × D))
  | [] => some []
  | .tup [x, y] :: ds => (keyOf x).bind fun k => (pairsOf ds).map ((k, y) :: ·)
  | _ => none
def mergeD (ks : List Key) (ds : List D) : List (Key × D) → List Key × List D
  | [] => (ks, ds)
  | q :: qs => mergeD (putKs ks q.1) (putDs ks ds q.1 q.2) qs
def dDict : D → Option Ow
  | .tup ps => (pairsOf ps).map fun qs => .dct (mergeD [] [] qs).1 (mergeD [] [] qs).2
  | .lst ps => (pairsOf ps).map fun qs => .dct (mergeD [] [] qs).1 (mergeD [] [] qs).2
  | _ => none
theorem pairsOf_ok : ∀ {ds : List D} {vs : List V} {qs : List (Key × D)}, RpL K Xx H ds vs → pairsOf ds = some qs →
    ∃ (ps : List Addr) (kvs : List (Key × V)), vs = ps.map V.ref ∧ Paired (fun p kv => SqT K H p [kV kv.1, kv.2]) ps kvs ∧ kvs.map (·.1) = qs.map (·.1) ∧ RpL K Xx H (qs.map (·.2)) (kvs.map (·.2))
  | [], vs, qs, l, e => by
    cases e
    rw [l.of_nil]
    exact ⟨[], [], rfl, .nil, rfl, .nil⟩
  | d :: ds, vs, qs, l, e => by
    obtain ⟨v, ws, rfl, h1, h2⟩ := l.of_cons
    unfold pairsOf at e
    split at e
    · rename_i q
      cases q
    · rename_i q
      cases q
      obtain ⟨k, e1, e2⟩ := Option.bind_eq_some_iff.mp e
      obtain ⟨qs', e3, rfl⟩ := Option.map_eq_some_iff.mp e2
      obtain ⟨ps, kvs, rfl, p1, p2, p3⟩ := pairsOf_ok h2 e3
      unfold Rp at h1
      obtain ⟨a, us, rfl, t, l1⟩ := h1
      obtain ⟨u1, us1, rfl, r1, l2⟩ := l1.of_cons
      obtain ⟨u2, us2, rfl, r2, l3⟩ := l2.of_cons
      have e4 := l3.of_nil
      subst e4
      have e5 := Rp.key r1.bo e1
      subst e5
      exact ⟨a :: ps, (k, u2) :: kvs, rfl, .cons t.sq p1, by rw [List.map_cons, List.map_cons, p2], .cons r2 p3⟩
    · cases e
theorem merge_ok : ∀ {qs : List (Key × D)} {more kvs : List (Key × V)} {ds : List D}, more.map (·.1) = qs.map (·.1) → RpL K Xx H (qs.map (·.2)) (more.map (·.2)) → RpL K Xx H ds (kvs.map (·.2)) →
    (mergeK kvs more).map (·.1) = (mergeD (kvs.map (·.1)) ds qs).1 ∧ RpL K Xx H (mergeD (kvs.map (·.1)) ds qs).2 ((mergeK kvs more).map (·.2))
  | [], more, kvs, ds, e, l, l2 => by
    cases more with
    | nil => exact ⟨rfl, l2⟩
    | cons _ _ => cases e
  | q :: qs, more, kvs, ds, e, l, l2 => by
    cases more with
    | nil => cases e
    | cons kv more =>
      obtain ⟨e1, e2⟩ := List.cons.inj e
      obtain ⟨v, ws, e3, r, l3⟩ := l.of_cons
      obtain ⟨rfl, rfl⟩ := List.cons.inj e3
      obtain ⟨h1, h2⟩ := put_ok (k := kv.1) l2 r
      have q2 := merge_ok (kvs := putK kvs kv.1 kv.2) e2 l3 h2
      rw [h1] at q2
      have e1 : kv.1 = q.1 := e1
      unfold mergeD
      rw [← e1]
      exact q2
def rDictT (K : PySem.W.Frag) : List V → Hp → VK → Prop := fun xs H Q => ∃ (a : Addr) (ps : List Addr) (kvs : List (Key × V)), xs = [.ref a] ∧ (∃ Xx, TpAt K Xx H a (ps.map V.ref)) ∧ Paired (fun p kv => SqT K H p [kV kv.1, kv.2]) ps kvs ∧
    ∀ p, H p = none → Q (.ref p) (upd H p (.dK (mergeK [] kvs)))
theorem call_dictT (hcalm : X.calm = true) : CallR X (.type "dict") (rDictT X.K) := by
  intro pins s σ H xs us Q I r q
  obtain ⟨a, ps, kvs, ex, ⟨Xx, hq⟩, hp, q⟩ := q
  subst ex
  obtain ⟨u, eu, rx⟩ := vals1 r
  subst eu
  cases rx
  obtain ⟨its, rv, pl, hz⟩ := I.tuple hq.sq
  have ei := refs_at rv
  subst ei
  rw [List.length_map] at hz
  obtain ⟨prs, rel, hl, hpr⟩ := pairs_of I hp
  have plain : PlainSeq "tuple" s.heap a (ps.map Value.ref).toArray := by
    obtain ⟨o, ho, hc, n, hd⟩ := pl
    refine ⟨o, n, ho, hc, ?_, hd⟩
    rcases hq with ⟨ob, h1, h2, _⟩ | ⟨_, ob, h1, h2⟩
    · obtain ⟨h3, _⟩ := I.hok a _ h1
      rw [ho] at h3
      cases h3
      exact h2
    · have h3 := I.kIn a ob h1
      rw [ho] at h3
      cases h3
      exact h2
  have items : ∃ (us : List Value), us.length = prs.length ∧ PairItems s.heap (ps.map Value.ref).toArray (fun j => ps.getD j 0) (us.zip (prs.map (·.2))) ∧ ∀ (j : Nat) (u : Value), us[j]? = some u → ∃ q, prs[j]? = some q ∧ keyIs q.1 u = true := by
    have each : ∀ j : Nat, ∃ u : Value, ∀ q : Key × Value, prs[j]? = some q → ∃ b, ps[j]? = some b ∧ IsTup s.heap b #[u, q.2] ∧ keyIs q.1 u = true := fun j => by
      cases e : prs[j]? with
      | none => exact ⟨.none, fun q hq => by cases hq⟩
      | some q =>
        obtain ⟨b, u, h1, h2, h3⟩ := hpr j q e
        exact ⟨u, fun q' hq' => by cases hq'; exact ⟨b, h1, h2, h3⟩⟩
    refine ⟨(List.range prs.length).map fun j => (each j).choose, by simp, ⟨by simp [hl], fun j k v hj => ?_⟩, fun j u hu => ?_⟩
    · obtain ⟨e1, e2⟩ := List.getElem?_zip_eq_some.mp hj
      rw [List.getElem?_map] at e1 e2
      obtain ⟨j', e3, e4⟩ := Option.map_eq_some_iff.mp e1
      obtain ⟨q, e5, e6⟩ := Option.map_eq_some_iff.mp e2
      have e7 : j' = j := by
        rw [List.getElem?_range (List.getElem?_eq_some_iff.mp e5).1] at e3
        exact (Option.some.inj e3).symm
      subst e7
      obtain ⟨b, h1, h2, h3⟩ := (each j').choose_spec q e5
      refine ⟨by simp [h1], .inl ?_⟩
      have eb : ps.getD j' 0 = b := by simp [h1]
      show s.heap.IsTuple (ps.getD j' 0) #[k, v]
      have e8 : (each j').choose = k := e4
      have e9 : q.2 = v := e6
      rw [eb, ← e8, ← e9]
      exact h2
    · rw [List.getElem?_map] at hu
      obtain ⟨j', e3, e4⟩ := Option.map_eq_some_iff.mp hu
      have hlt : j < prs.length := by
        have := (List.getElem?_eq_some_iff.mp e3).1
        simpa using this
      have e7 : j' = j := by
        rw [List.getElem?_range hlt] at e3
        exact (Option.some.inj e3).symm
      subst e7
      obtain ⟨b, h1, h2, h3⟩ := (each j').choose_spec _ (List.getElem?_eq_getElem hlt)
      exact ⟨_, List.getElem?_eq_getElem hlt, by rw [← e4]; exact h3⟩
  obtain ⟨us, hus, hit, hkey⟩ := items
  have hzl : (us.zip (prs.map (·.2))).length = prs.length := by rw [List.length_zip, List.length_map, hus, Nat.min_self]
  refine PySem.call_dict_pairs (knd := mixKind X.prog X.w) (kvs := prs) (PairArg.tuple a (ps.map Value.ref).toArray (fun j => ps.getD j 0) (us.zip (prs.map (·.2)))) (I.ok.hd hcalm) ⟨plain, hit⟩ ⟨hzl.symm, fun j key v hj => ?_⟩ (by rw [hzl, hl]; exact hz) fun h' tk hd' kp => ?_
  · have hj : (us.zip (prs.map (·.2)))[j]? = some (key, v) := hj
    obtain ⟨e1, e2⟩ := List.getElem?_zip_eq_some.mp hj
    obtain ⟨q, e3, e4⟩ := hkey j key e1
    rw [List.getElem?_map, e3] at e2
    refine ⟨q.1, ?_, e4⟩
    have e5 : q.2 = v := Option.some.inj e2
    rw [e3, ← e5]
  · have hm : (s.heap.objs.size == sysModules) = false := beq_eq_false_iff_ne.mpr (Nat.ne_of_gt I.big)
    have hlen : (mergeK [] kvs).length ≤ sizeLine := by
      refine Nat.le_trans (length_mergeK kvs []) ?_
      rw [List.length_nil, Nat.zero_add, rel.length, hl]
      exact hz
    exact ⟨.ref s.heap.objs.size, upd H s.heap.objs.size (.dK (mergeK [] kvs)), I.laid (t' := tk) (fun b o e => kp b o (by simp) e) (Nat.le_refl _) (show ObjOk X.prog X.w _ _ _ (.dK (mergeK [] kvs)) from ⟨hlen, hm, merged [] prs, KV.merge rel .nil, hd'⟩), rfl, q _ (I.hok.fresh (Nat.le_refl _))⟩
theorem c_dict (hc : X.calm = true) : HasCO X (.type "dict") dDict := by
  refine ⟨_, (call_dictT hc).or (call_dictP hc), fun c σ H ρ x z vx Q E b e k => ?_⟩
  unfold dDict at e
  split at e
  · obtain ⟨qs, e1, rfl⟩ := Option.map_eq_some_iff.mp e
    obtain ⟨a, vs, rfl, t, l⟩ := b.tup
    obtain ⟨ps, kvs, rfl, p1, p2, p3⟩ := pairsOf_ok l e1
    obtain ⟨m1, m2⟩ := merge_ok (kvs := []) (ds := []) p2 p3 .nil
    refine .inl ⟨a, ps, kvs, rfl, ⟨_, t⟩, p1, fun p np => ?_⟩
    obtain ⟨g1, g2, g3, g4⟩ := E.newDct np m2
    rw [m1] at g2
    exact k _ _ g1 g2 g3 g4
  · obtain ⟨qs, e1, rfl⟩ := Option.map_eq_some_iff.mp e
    obtain ⟨a, vs, rfl, t, l⟩ := b.lst
    obtain ⟨ps, kvs, rfl, p1, p2, p3⟩ := pairsOf_ok l e1
    obtain ⟨m1, m2⟩ := merge_ok (kvs := []) (ds := []) p2 p3 .nil
    refine .inr ⟨a, ps, kvs, rfl, .inl t, p1, fun p np => ?_⟩
    obtain ⟨g1, g2, g3, g4⟩ := E.newDct np m2
    rw [m1] at g2
    exact k _ _ g1 g2 g3 g4
  · cases e
end
end DL

set_option Elab.async false
set_option linter.all false
set_option maxRecDepth 100000
namespace DL
open PySem PySem.Spec PyProof.Rows L2

section
variable {X : Cx} {K : PySem.W.Frag} {c : Fx} {σ : Sg} {H H' : Hp} {ρ ρ' : En} {i j : Nat} {a p : Addr} {o : Ow} {d x y z : D} {v vx vy : V} {Q : VK} {ds : List D} {vs : List V} {Xx : AP}
variable {e1 e2 e3 : Expr} {es : List Expr} {oa ob : Opd} {pos np : Pos} {nm : Str} {bid : String} {ma mb : Mm D} {ta tb : Mm Bool}
/-! ### isinstance -/
def tyN : D → String
  | .non => "NoneType"
  | .bl _ => "bool"
  | .int _ => "int"
  | .str _ => "str"
  | .tup _ => "tuple"
  | .lst _ => "list"
  | .dct _ _ => "dict"
  | .scr _ => "list"
def isiB (n : String) : D → Bool
  | .bl _ => n == "bool" || n == "int"
  | d => n == tyN d
theorem tyX_of (b : Bo K Xx H d v) : TyX K H v (.type (tyN d)) := by
  cases d with
  | non => have e := b.non; subst e; exact .base .non
  | bl _ => have e := b.bl; subst e; exact .base (.bl _)
  | int _ => have e := b.int; subst e; exact .base (.int _)
  | str _ => have e := b.str; subst e; exact .base (.str _)
  | tup _ =>
    obtain ⟨a, vs, rfl, t, _⟩ := b.tup
    rcases t with ⟨ob, h, _⟩ | ⟨(h | ⟨o, h⟩) | ⟨o, its, n, h1, h2, _⟩, _⟩
    · exact .fTuple h
    · cases h
    · cases h
    · exact .kTuple h1 h2
  | lst _ =>
    obtain ⟨a, vs, rfl, t, _⟩ := b.lst
    rcases t with h | ⟨o, h⟩
    · exact .base (.lst h)
    · exact .base (.frz h)
  | dct _ _ =>
    obtain ⟨a, vs, rfl, t, _⟩ := b.dct
    rcases t with h | ⟨o, h⟩
    · exact .base (.dK h)
    · exact .fDict h
  | scr _ =>
    obtain ⟨a, vs, rfl, t, _⟩ := b.scr
    rcases t with ⟨h | ⟨o, h⟩, _⟩ | (h | ⟨o, h⟩) | ⟨o, its, n, h1, h2, _⟩
    · exact .base (.lst h)
    · exact .base (.frz h)
    · cases h
    · cases h
    · exact .kList h1 h2
def isiAll (n : String) : Bool := decide (kitB "NoneType" n = some (n == "NoneType")) && decide (kitB "bool" n = some (n == "bool" || n == "int")) && decide (kitB "int" n = some (n == "int")) && decide (kitB "str" n = some (n == "str")) &&
  decide (kitB "tuple" n = some (n == "tuple")) && decide (kitB "list" n = some (n == "list")) && decide (kitB "dict" n = some (n == "dict"))
theorem isi_ok {n : String} (h : isiAll n = true) (d : D) : PySem.W.kitOne K (.type (tyN d)) (.type n) = some (isiB n d) := by
  unfold isiAll at h
  simp only [Bool.and_eq_true, decide_eq_true_eq] at h
  obtain ⟨⟨⟨⟨⟨⟨h1, h2⟩, h3⟩, h4⟩, h5⟩, h6⟩, h7⟩ := h
  cases d with
  | non => exact kit_ty h1
  | bl _ => exact kit_ty h2
  | int _ => exact kit_ty h3
  | str _ => exact kit_ty h4
  | tup _ => exact kit_ty h5
  | lst _ => exact kit_ty h6
  | dct _ _ => exact kit_ty h7
  | scr _ => exact kit_ty h6
theorem isi_int : isiAll "int" = true := by decide +kernel
theorem isi_bool : isiAll "bool" = true := by decide +kernel
theorem isi_str : isiAll "str" = true := by decide +kernel
theorem isi_tuple : isiAll "tuple" = true := by decide +kernel
theorem isi_list : isiAll "list" = true := by decide +kernel
theorem isi_dict : isiAll "dict" = true := by decide +kernel
def dIsi (n : String) (x : D) : Option D := some (.bl (isiB n x))
theorem ce_isi {n : String} {cn : Str} {cp : Pos} (hn : isiAll n = true) (ha : PD X e1 oa) (hg : Gl X "isinstance" := by rfl) (hm : X.mg "isinstance" = none) (hg2 : Gl X cn := by rfl) (hm2 : X.mg cn = none) (hv2 : bootBuiltins cn = some (.type n)) (hn2 : cn ≠ "__name__" := by decide) (hdb2 : (cn == ("__debug__" : Str)) = false := by decide)
    (hv : bootBuiltins "isinstance" = some (.builtin "isinstance")) (he : starEach (e1 :: [.Name cn cp]) X.env = (false, eval e1 X.env) :: starEach [.Name cn cp] X.env := by rfl) (he2 : starEach (.Name cn cp :: []) X.env = (false, eval (.Name cn cp) X.env) :: starEach [] X.env := by rfl)
    (hpl : (backTo pos (starEach [.Name cn cp] X.env)).any (·.1) = false := by rfl) : CE X (.Call (.Name "isinstance" np) [e1, .Name cn cp] [] pos) (m1 oa (dIsi n)) := by
  refine pe_imp (pe_callB call_isi hg hm hv (pa_cons ha (pa_cons (pe_bltn (v := .ty n) hg2 hm2 hv2 rfl hn2 hdb2) pa_nil he2) he) (by decide) (by decide) he hpl) fun σ H Q h => ?_
  obtain ⟨c, ρ, z, ρ', E, e, k⟩ := h
  refine op1 E e fun x vx H' E' b1 w => ?_
  cases w
  exact ⟨vx, .ty n, _, _, _, rfl, .ty n, tyX_of b1, isi_ok hn x, k _ _ E' .bl⟩
/-! ### slices -/
def tPm (K : PySem.W.Frag) (m : Mm (Option Int)) : TO := fun σ H Q => ∃ c ρ d ρ', ER K c σ H ρ ∧ m ρ = some (d, ρ') ∧ ∀ H', ER K c σ H' ρ' → Q d H'
def CP (X : Cx) (e : Option Expr) (m : Mm (Option Int)) : Prop := L2.PO X e (tPm X.K m)
theorem po_imp {X : Cx} {e : Option Expr} {t t' : TO} (h : L2.PO X e t) (w : ∀ σ H Q, t' σ H Q → t σ H Q) : L2.PO X e t' := ⟨fun pins s σ H Q I q => h.run pins s σ H Q I (w σ H Q q)⟩
def asI : D → Option (Option Int)
  | .int i => some (some i)
  | _ => none
def mPn : Mm (Option Int) := ret none
def mPs (m : Mm D) : Mm (Option Int) := bd m fun x => lf (asI x)
theorem cp_none : CP X none mPn := po_imp po_none fun σ H Q q => by
  obtain ⟨c, ρ, d, ρ', E, e, k⟩ := q
  cases e
  exact k H E
theorem cp_some (h : CE X e1 ma) : CP X (some e1) (mPs ma) := po_imp (po_some h) fun σ H Q q => by
  obtain ⟨c, ρ, d, ρ', E, e, k⟩ := q
  obtain ⟨x, ρ1, g1, f1⟩ := bd_some e
  obtain ⟨g2, rfl⟩ := lf_some f1
  unfold asI at g2
  split at g2 <;> cases g2
  exact ⟨c, ρ, _, ρ1, E, g1, fun v H' E' r => ⟨_, by unfold Rp at r; exact r, k H' E'⟩⟩
def mSl {α : Type} (a : Opd) (p1 p2 : Mm (Option Int)) (f : D → Option Int → Option Int → Option α) : Mm α := match a with
  | .e m => bd m fun x => bd p1 fun l => bd p2 fun u => lf (f x l u)
  | .n i => bd (mBor i) fun _ => bd p1 fun l => bd p2 fun u => bd (mBor i) fun x => lf (f x l u)
theorem op_sl {α : Type} {ma : Opd} {p1 p2 : Mm (Option Int)} {f : D → Option Int → Option Int → Option α} {z : α} {R : V → Option Int → Option Int → Hp → Prop} (E : ER K c σ H ρ) (e : mSl ma p1 p2 f ρ = some (z, ρ'))
    (h : ∀ x l u vx H', ER K c σ H' ρ' → Bo K (Xo c σ ρ') H' x vx → f x l u = some z → R vx l u H') :
    tOpd K ma σ H fun vx H1 => tPm K p1 σ H1 fun l H2 => tPm K p2 σ H2 fun u H3 => R vx l u H3 := by
  cases ma with
  | e m =>
    obtain ⟨x, ρ1, e1, f1⟩ := bd_some e
    obtain ⟨l, ρ2, e2, f2⟩ := bd_some f1
    obtain ⟨u, ρ3, e3, f3⟩ := bd_some f2
    obtain ⟨e4, e5⟩ := lf_some f3
    rw [← e5] at h
    exact ⟨c, ρ, x, ρ1, E, e1, fun vx H1 E1 r1 => ⟨c.push x vx, ρ1, l, ρ2, E1.push r1, e2, fun H2 E2 => ⟨c.push x vx, ρ2, u, ρ3, E2, e3, fun H3 E3 => h x l u vx H3 E3.pop.1 E3.pop.2.bo e4⟩⟩⟩
  | n i =>
    obtain ⟨x0, ρ0, e0, f0⟩ := bd_some e
    obtain ⟨l, ρ2, e2, f2⟩ := bd_some f0
    obtain ⟨u, ρ3, e3, f3⟩ := bd_some f2
    obtain ⟨x, ρ4, e4, f4⟩ := bd_some f3
    obtain ⟨e5, e6⟩ := lf_some f4
    obtain ⟨z0, vx, hx, _⟩ := E.bor e0
    rw [z0] at e2
    refine ⟨vx, hx, c, ρ, l, ρ2, E, e2, fun H2 E2 => ⟨c, ρ2, u, ρ3, E2, e3, fun H3 E3 => ?_⟩⟩
    obtain ⟨z1, vx', hx', b⟩ := E3.bor e4
    rw [hx] at hx'
    cases hx'
    rw [← e6, z1] at h
    exact h x l u vx H3 E3 b e5
def cutD (ds : List D) (lo hi : Option Int) : List D := (ds.drop (HT.sIx ds.length 0 lo)).take (HT.sIx ds.length ds.length hi - HT.sIx ds.length 0 lo)
theorem RpL.cut (l : RpL K Xx H ds vs) (lo hi : Option Int) : RpL K Xx H (cutD ds lo hi) (cutV vs lo hi) := by
  unfold cutD cutV
  rw [l.length]
  exact (l.drop _).take _
def dSlV (x : D) (lo hi : Option Int) : Option D := match x with
  | .tup ds => some (.tup (cutD ds lo hi))
  | .str z => if z.length ≤ 16777216 then some (.str (cutS z lo hi)) else none
  | _ => none
def dSlL (x : D) (lo hi : Option Int) : Option Ow := match x with
  | .lst ds => some (.lst (cutD ds lo hi))
  | .scr ds => some (.lst (cutD ds lo hi))
  | _ => none
theorem ce_slice {l u : Option Expr} {p1 p2 : Mm (Option Int)} {sp : Pos} (ha : PD X e1 oa) (hl : CP X l p1) (hu : CP X u p2) : CE X (.Subscript e1 (.Slice l u none sp) pos) (mSl oa p1 p2 dSlV) := by
  refine pe_imp (pe_slice (sl_tupF.or sl_str) ha hl hu) fun σ H Q h => ?_
  obtain ⟨c, ρ, z, ρ', E, e, k⟩ := h
  refine op_sl E e fun x l u vx H' E' b w => ?_
  unfold dSlV at w
  split at w
  · cases w
    obtain ⟨a, vs, rfl, t, l1⟩ := b.tup
    refine .inl ⟨a, vs, rfl, t.sq, fun hw => ?_, fun _ => E'.newT (l1.cut _ _) k⟩
    refine k _ _ E' ?_
    unfold cutD
    rw [l1.length] at hw
    rw [hw.1, hw.2, List.drop_zero, Nat.sub_zero, List.take_length]
    unfold Rp
    exact ⟨a, vs, rfl, t, l1⟩
  · split at w <;> cases w
    rw [b.str]
    exact .inr ⟨_, rfl, by rw [sizeLine_eq]; assumption, k _ _ E' .str⟩
  · cases w
theorem co_slice {l u : Option Expr} {p1 p2 : Mm (Option Int)} {sp : Pos} (ha : PD X e1 oa) (hl : CP X l p1) (hu : CP X u p2) : CO X (.Subscript e1 (.Slice l u none sp) pos) (mSl oa p1 p2 dSlL) := by
  refine pe_imp (pe_slice sl_list ha hl hu) fun σ H Q h => ?_
  obtain ⟨c, ρ, z, ρ', E, e, k⟩ := h
  refine op_sl E e fun x l u vx H' E' b w => ?_
  unfold dSlL at w
  split at w
  · cases w
    obtain ⟨a, vs, rfl, t, l1⟩ := b.lst
    refine ⟨a, vs, rfl, .inl t, fun p np => ?_⟩
    obtain ⟨g1, g2, g3, g4⟩ := E'.newLst np (l1.cut _ _)
    exact k _ _ g1 g2 g3 g4
  · cases w
    obtain ⟨a, vs, rfl, t, l1⟩ := b.scr
    refine ⟨a, vs, rfl, t.sq, fun p np => ?_⟩
    obtain ⟨g1, g2, g3, g4⟩ := E'.newLst np (l1.cut _ _)
    exact k _ _ g1 g2 g3 g4
  · cases w
/-! ### targets -/
inductive Tg where
  | nm (i : Nat)
  | tup (ts : List Tg)
def stV (i : Nat) (d : D) (ρ : En) : Option En := match ρ[i]? with
  | some (.io _) => none
  | some _ => some (ρ.set i (.va d))
  | none => none
mutual
def asg : Tg → D → En → Option En
  | .nm i, d, ρ => stV i d ρ
  | .tup ts, .tup ds, ρ => asgL ts ds ρ
  | .tup ts, .lst ds, ρ => asgL ts ds ρ
  | .tup _, _, _ => none
def asgL : List Tg → List D → En → Option En
  | [], [], ρ => some ρ
  | t :: ts, d :: ds, ρ => (asg t d ρ).bind fun ρ1 => asgL ts ds ρ1
  | _, _, _ => none
end
def Fx.pushL (c : Fx) (ds : List D) (vs : List V) : Fx := { c with tmp := ds.zip vs ++ c.tmp }
theorem ER.pushL (E : ER K c σ H ρ) (l : RpL K (Xo c σ ρ) H ds vs) : ER K (c.pushL ds vs) σ H ρ :=
  ⟨E.len, E.va, E.ow, E.io, E.inj, E.fr, E.fz, E.hd, E.iot, E.x0, fun q hq => by
    rcases List.mem_append.mp hq with hq | hq
    · exact zip_rp l q hq
    · exact E.tmp q hq, E.jj⟩
theorem ER.popL (hl : vs.length = ds.length) (E : ER K (c.pushL ds vs) σ H ρ) : ER K c σ H ρ ∧ RpL K (Xo c σ ρ) H ds vs := by
  refine ⟨⟨E.len, E.va, E.ow, E.io, E.inj, E.fr, E.fz, E.hd, E.iot, E.x0, fun q hq => E.tmp q (List.mem_append_right _ hq), E.jj⟩, ?_⟩
  obtain ⟨z1, z2⟩ := zip_snd hl
  have h := rpL_of_pairs (K := K) (H := H) (Xx := Xo c σ ρ) (ps := ds.zip vs) fun q hq => E.tmp q (List.mem_append_left _ hq)
  rw [z1, z2] at h
  exact h
/-- an item: a value; or a pair that the iterator lays anew -/
def IRp (pr : Bool) (K : PySem.W.Frag) (Xx : AP) (H : Hp) (d : D) (v : V) : Prop := match pr with
  | false => Rp K Xx H d v
  | true => ∃ a vs ds, v = .ref a ∧ d = .tup ds ∧ SqT K H a vs ∧ RpL K Xx H ds vs

mutual
def Tg.sl : Tg → List Nat
  | .nm i => [i]
  | .tup ts => Tg.sls ts
def Tg.sls : List Tg → List Nat
  | [] => []
  | t :: ts => t.sl ++ Tg.sls ts
end
def Same (l : List Nat) (σ σ' : Sg) : Prop := ∀ j, j ∉ l → σ'[j]? = σ[j]?
def tGm (K : PySem.W.Frag) (pr : Bool) (t : Tg) : TG := fun v σ H Q => ∃ c ρ d ρ', ER K c σ H ρ ∧ IRp pr K (Xo c σ ρ) H d v ∧ asg t d ρ = some ρ' ∧ ∀ σ' H', ER K c σ' H' ρ' → Same t.sl σ σ' → Q σ' H'
def tGsm (K : PySem.W.Frag) (ts : List Tg) : TGs := fun vs σ H Q => ∃ c ρ ds ρ', ER K c σ H ρ ∧ RpL K (Xo c σ ρ) H ds vs ∧ asgL ts ds ρ = some ρ' ∧ ∀ σ' H', ER K c σ' H' ρ' → Same (Tg.sls ts) σ σ' → Q σ' H'
def CG (X : Cx) (e : Expr) (pr : Bool) (t : Tg) : Prop := PG X e (tGm X.K pr t)
def CGs (X : Cx) (es : List Expr) (ts : List Tg) : Prop := PGs X es (tGsm X.K ts)
theorem pg_imp {e : Expr} {t t' : TG} (h : PG X e t) (w : ∀ v σ H Q, t' v σ H Q → t v σ H Q) : PG X e t' := ⟨fun pins s σ H v u Q I r q => h.run pins s σ H v u Q I r (w v σ H Q q)⟩
theorem pgs_imp {es : List Expr} {t t' : TGs} (h : PGs X es t) (w : ∀ vs σ H Q, t' vs σ H Q → t vs σ H Q) : PGs X es t' := ⟨fun pins s σ H v u Q I r q => h.run pins s σ H v u Q I r (w v σ H Q q)⟩
theorem stV_ok (E : ER K c σ H ρ) (r : Rp K (Xo c σ ρ) H d v) (e : stV i d ρ = some ρ') : ER K c (σ.set i (some v)) H ρ' := by
  unfold stV at e
  cases w : ρ[i]? with
  | none => rw [w] at e; cases e
  | some s =>
    have hi : i < ρ.length := (List.getElem?_eq_some_iff.mp w).1
    rw [w] at e
    cases s with
    | io _ => cases e
    | no => cases e; exact E.setVa r hi fun o z => by rw [w] at z; cases z
    | va _ => cases e; exact E.setVa r hi fun o z => by rw [w] at z; cases z
    | ow _ => cases e; exact E.setVa r hi fun o z => by rw [w] at z; cases z
theorem cg_name {nx : Str} (i : Nat) (hN : X.N.Nodup) (hi : X.N[i]? = some nx := by rfl) (hx : Loc X.env.scope nx := by first | exact .inl rfl | exact .inr rfl) (hf : X.fn nx = true ∨ X.env.scope.names.lookup nx = some .local := by first | exact .inl rfl | exact .inr rfl | assumption) : CG X (.Name nx pos) false (.nm i) := by
  refine pg_imp (pg_name hN hi hx hf) fun v σ H Q q => ?_
  obtain ⟨c, ρ, d, ρ', E, r, e, k⟩ := q
  exact k _ _ (stV_ok E r (by unfold asg at e; exact e)) fun j hj => get_set_ne fun z => hj (by unfold Tg.sl; rw [z]; exact List.mem_singleton_self _)
theorem cgs_nil : CGs X [] [] := pgs_imp pgs_nil fun vs σ H Q q => by
  obtain ⟨c, ρ, ds, ρ', E, r, e, k⟩ := q
  cases ds with
  | nil =>
    unfold asgL at e
    cases e
    exact ⟨r.of_nil, k _ _ E fun _ _ => rfl⟩
  | cons _ _ => unfold asgL at e; cases e
theorem cgs_cons {t : Tg} {ts : List Tg} (h : CG X e1 false t) (h2 : CGs X es ts) (hs : (assignEach (e1 :: es) X.env).map (·.2) = assign e1 X.env :: (assignEach es X.env).map (·.2) := by rfl) : CGs X (e1 :: es) (t :: ts) := by
  refine pgs_imp (pgs_cons h h2 hs) fun vs σ H Q q => ?_
  obtain ⟨c, ρ, ds, ρ', E, r, e, k⟩ := q
  cases ds with
  | nil => unfold asgL at e; cases e
  | cons d ds =>
    unfold asgL at e
    obtain ⟨ρ1, e1, e2⟩ := Option.bind_eq_some_iff.mp e
    obtain ⟨v, ws, rfl, h1, h2⟩ := r.of_cons
    refine ⟨v, ws, rfl, c.pushL ds ws, ρ, d, ρ1, E.pushL h2, h1, e1, fun σ1 H1 E1 s1 => ⟨c, ρ1, ds, ρ', (E1.popL h2.length).1, (E1.popL h2.length).2, e2, fun σ2 H2 E2 s2 => k _ _ E2 fun j hj => ?_⟩⟩
    unfold Tg.sls at hj
    exact (s2 j fun z => hj (List.mem_append_right _ z)).trans (s1 j fun z => hj (List.mem_append_left _ z))
theorem asgL_len : ∀ {ts : List Tg} {ds : List D} {ρ ρ' : En}, asgL ts ds ρ = some ρ' → ds.length = ts.length
  | [], [], _, _, _ => rfl
  | [], _ :: _, _, _, e => by unfold asgL at e; cases e
  | _ :: _, [], _, _, e => by unfold asgL at e; cases e
  | t :: ts, d :: ds, ρ, ρ', e => by
    unfold asgL at e
    obtain ⟨ρ1, e1, e2⟩ := Option.bind_eq_some_iff.mp e
    rw [List.length_cons, List.length_cons, asgL_len e2]
theorem cg_tup {ts : List Tg} {k : Nat} {pr : Bool} (hc : X.calm = true) (h : CGs X es ts) (hst : (assignEach es X.env).findIdx? (·.1) = none := by rfl) (hn : (assignEach es X.env).length = ts.length := by rfl) : CG X (.Tuple es k pos) pr (.tup ts) := by
  have both : PG X (.Tuple es k pos) fun v σ H Q => gTup X.K ts.length _ v σ H Q ∨ gLst X.K ts.length _ v σ H Q := ⟨fun pins s σ H v u Q I r hw => hw.elim (fun q => (pg_tup hc h hn hst).run pins s σ H v u Q I r q) fun q => (pg_lst hc h hn hst).run pins s σ H v u Q I r q⟩
  refine pg_imp both fun v σ H Q q => ?_
  obtain ⟨c, ρ, d, ρ', E, r, e, k⟩ := q
  cases d with
  | lst ds =>
    right
    unfold asg at e
    cases pr with
    | true =>
      obtain ⟨a, vs, ds', e, e2, t, l⟩ := r
      cases e2
    | false =>
      obtain ⟨a, vs, rfl, t, l⟩ := (show Rp X.K _ H (.lst ds) v from r).bo.lst
      refine ⟨a, vs, rfl, .inl t, ?_, c, ρ, ds, ρ', E, l, e, fun σ2 H2 E2 s2 => k _ _ E2 fun j hj => s2 j fun z => hj (by unfold Tg.sl; exact z)⟩
      rw [l.length, asgL_len e]
  | tup ds =>
    left
    unfold asg at e
    have hh : ∃ a vs, v = .ref a ∧ SqT X.K H a vs ∧ RpL X.K (Xo c σ ρ) H ds vs := by
      cases pr with
      | false =>
        obtain ⟨a, vs, e, t, l⟩ := (show Rp X.K _ H (.tup ds) v from r).bo.tup
        exact ⟨a, vs, e, t.sq, l⟩
      | true =>
        obtain ⟨a, vs, ds', e, e2, t, l⟩ := r
        cases e2
        exact ⟨a, vs, e, t, l⟩
    obtain ⟨a, vs, rfl, t, l⟩ := hh
    refine ⟨a, vs, rfl, t, ?_, c, ρ, ds, ρ', E, l, e, fun σ2 H2 E2 s2 => k _ _ E2 fun j hj => s2 j fun z => hj (by unfold Tg.sl; exact z)⟩
    rw [l.length, asgL_len e]
  | _ => unfold asg at e; cases e
end
end DL

set_option Elab.async false
set_option linter.all false
set_option maxRecDepth 100000
namespace DL
open PySem PySem.Spec PyProof.Rows L2

section
variable {X : Cx} {K : PySem.W.Frag} {c : Fx} {σ : Sg} {H H' : Hp} {ρ ρ' : En} {i j : Nat} {a p : Addr} {o : Ow} {d x y z : D} {v vx vy : V} {Q : VK} {ds : List D} {vs : List V} {Xx : AP} {Dn : Ends}
variable {e1 e2 e3 : Expr} {es : List Expr} {oa ob : Opd} {pos np : Pos} {nm : Str} {bid : String} {ma mb : Mm D} {ta tb : Mm Bool} {st st2 : Stmt} {sts sts2 : List Stmt} {sa sb : Ms}
/-! ### blocks -/
def mSkip : Ms := fun ρ => some (.nx, ρ)
def mSeq (a b : Ms) : Ms := fun ρ => match a ρ with
  | some (.nx, ρ1) => b ρ1
  | r => r
theorem css_nil : CSs X [] mSkip := pss_imp pss_nil fun Dn σ H q => by
  obtain ⟨c, ρ, f, ρ', E, e, k⟩ := q
  cases e
  exact k _ _ E
theorem mSeq_some {ρ ρ' : En} {f : Fl} (e : mSeq sa sb ρ = some (f, ρ')) : (∃ ρ1, sa ρ = some (.nx, ρ1) ∧ sb ρ1 = some (f, ρ')) ∨ (sa ρ = some (f, ρ') ∧ f ≠ .nx) := by
  unfold mSeq at e
  cases w : sa ρ with
  | none => rw [w] at e; cases e
  | some q =>
    obtain ⟨g, ρ1⟩ := q
    rw [w] at e
    cases g with
    | nx => exact .inl ⟨ρ1, rfl, e⟩
    | _ => cases e; exact .inr ⟨rfl, fun z => nomatch z⟩
theorem css_cons (h : CS X st sa) (h2 : CSs X sts sb) : CSs X (st :: sts) (mSeq sa sb) := by
  refine pss_imp (pss_cons h h2) fun Dn σ H q => ?_
  obtain ⟨c, ρ, f, ρ', E, e, k⟩ := q
  rcases mSeq_some e with ⟨ρ1, e1, e2⟩ | ⟨e1, ne⟩
  · exact ⟨c, ρ, .nx, ρ1, E, e1, fun σ' H' E' => ⟨c, ρ1, f, ρ', E', e2, k⟩⟩
  · refine ⟨c, ρ, f, ρ', E, e1, ?_⟩
    cases f with
    | nx => exact absurd rfl ne
    | _ => exact k
theorem css_one (h : CS X st sa) : CSs X [st] sa := pss_one h
theorem cs_pass : CS X (.Pass pos) mSkip := ps_imp ps_pass fun Dn σ H q => by
  obtain ⟨c, ρ, f, ρ', E, e, k⟩ := q
  cases e
  exact k _ _ E
theorem cs_doc {x j pos pos'} : CS X (.Expr (.Constant (.str x) j pos) pos') mSkip := ps_imp ps_doc fun Dn σ H q => by
  obtain ⟨c, ρ, f, ρ', E, e, k⟩ := q
  cases e
  exact k _ _ E
theorem cs_break : CS X (.Break pos) (fun ρ => some (.bk, ρ)) := ps_imp ps_break fun Dn σ H q => by
  obtain ⟨c, ρ, f, ρ', E, e, k⟩ := q
  cases e
  exact k _ _ E
theorem cs_continue : CS X (.Continue pos) (fun ρ => some (.ct, ρ)) := ps_imp ps_continue fun Dn σ H q => by
  obtain ⟨c, ρ, f, ρ', E, e, k⟩ := q
  cases e
  exact k _ _ E
def mExpr (m : Mm D) : Ms := fun ρ => match m ρ with
  | some (_, ρ1) => some (.nx, ρ1)
  | none => none
theorem cs_expr (h : CE X e1 ma) (hs : swapsWith e1 none pos.line X.env = pure false := by rfl) : CS X (.Expr e1 pos) (mExpr ma) := by
  refine ps_imp (ps_expr h hs) fun Dn σ H q => ?_
  obtain ⟨c, ρ, f, ρ', E, e, k⟩ := q
  unfold mExpr at e
  cases w : ma ρ with
  | none => rw [w] at e; cases e
  | some q =>
    obtain ⟨d, ρ1⟩ := q
    rw [w] at e
    cases e
    exact ⟨c, ρ, _, _, E, w, fun v H' E' _ => k _ _ E'⟩
def mRet (m : Mm D) : Ms := fun ρ => match m ρ with
  | some (d, ρ1) => some (.rv d, ρ1)
  | none => none
def mRetO (m : Mm Ow) : Ms := fun ρ => match m ρ with
  | some (o, ρ1) => some (.ro o, ρ1)
  | none => none
theorem cs_ret (h : CE X e1 ma) : CS X (.Return (some e1) pos) (mRet ma) := by
  refine ps_imp (ps_ret h) fun Dn σ H q => ?_
  obtain ⟨c, ρ, f, ρ', E, e, k⟩ := q
  unfold mRet at e
  cases w : ma ρ with
  | none => rw [w] at e; cases e
  | some q =>
    obtain ⟨d, ρ1⟩ := q
    rw [w] at e
    cases e
    exact ⟨c, ρ, _, _, E, w, fun v H' E' r => k σ H' v E' r⟩
theorem cs_retO {m : Mm Ow} (h : CO X e1 m) : CS X (.Return (some e1) pos) (mRetO m) := by
  refine ps_imp (ps_ret h) fun Dn σ H q => ?_
  obtain ⟨c, ρ, f, ρ', E, e, k⟩ := q
  unfold mRetO at e
  cases w : m ρ with
  | none => rw [w] at e; cases e
  | some q =>
    obtain ⟨d, ρ1⟩ := q
    rw [w] at e
    cases e
    exact ⟨c, ρ, _, _, E, w, fun p H' E' r n1 n2 => k σ H' p E' r n1 n2⟩
theorem cs_retN : CS X (.Return none pos) (fun ρ => some (.rv .non, ρ)) := ps_imp ps_retN fun Dn σ H q => by
  obtain ⟨c, ρ, f, ρ', E, e, k⟩ := q
  cases e
  exact k σ H .non E .non
def mIfS (t : Mm Bool) (a b : Ms) : Ms := fun ρ => match t ρ with
  | some (true, ρ1) => a ρ1
  | some (false, ρ1) => b ρ1
  | none => none
theorem cs_if (h : CT X e1 ta) (h1 : CSs X sts sa) (h2 : CSs X sts2 sb) : CS X (.If e1 sts sts2 pos) (mIfS ta sa sb) := by
  refine ps_imp (ps_if h h1 h2) fun Dn σ H q => ?_
  obtain ⟨c, ρ, f, ρ', E, e, k⟩ := q
  unfold mIfS at e
  cases w : ta ρ with
  | none => rw [w] at e; cases e
  | some q =>
    obtain ⟨b, ρ1⟩ := q
    rw [w] at e
    refine ⟨c, ρ, b, ρ1, E, w, fun H' E' => ?_⟩
    cases b with
    | true => exact iteT ⟨c, ρ1, f, ρ', E', e, k⟩
    | false => exact iteF ⟨c, ρ1, f, ρ', E', e, k⟩
/-! ### stores -/
def mAsg (m : Mm D) (t : Tg) : Ms := fun ρ => match m ρ with
  | some (d, ρ1) => (asg t d ρ1).map fun ρ2 => (.nx, ρ2)
  | none => none
theorem cs_asg {t : Tg} (h : CE X e1 ma) (hg : CG X e2 false t) (hs : swapsWithSole [e2] e1 pos.line X.env = pure false := by rfl) (hw : swappedStores [e2] e1 X.env = pure none := by rfl)
    (h1 : (assignEach [e2] X.env).map (·.2) = [assign e2 X.env] := by rfl) : CS X (.Assign [e2] e1 pos) (mAsg ma t) := by
  refine ps_imp (ps_asg h hg hs hw h1) fun Dn σ H q => ?_
  obtain ⟨c, ρ, f, ρ', E, e, k⟩ := q
  unfold mAsg at e
  cases w : ma ρ with
  | none => rw [w] at e; cases e
  | some q =>
    obtain ⟨d, ρ1⟩ := q
    rw [w] at e
    obtain ⟨ρ2, e1, e2⟩ := Option.map_eq_some_iff.mp e
    cases e2
    exact ⟨c, ρ, d, ρ1, E, w, fun v H' E' r => ⟨c, ρ1, d, ρ', E', r, e1, fun σ2 H2 E2 _ => k σ2 H2 E2⟩⟩
/-- a name gets a new own thing -/
def stO (i : Nat) (o : Ow) (ρ : En) : Option En := match ρ[i]? with
  | some (.io _) => none
  | some _ => some (ρ.set i (.ow o))
  | none => none
theorem stO_ok (E : ER K (c.ex p) σ H ρ) (r : OwAt K (Xo (c.ex p) σ ρ) H p o) (np : c.He p = none) (nx : ¬ c.X0 p) (e : stO i o ρ = some ρ') : ER K c (σ.set i (some (.ref p))) H ρ' := by
  unfold stO at e
  cases w : ρ[i]? with
  | none => rw [w] at e; cases e
  | some s =>
    have hi : i < ρ.length := (List.getElem?_eq_some_iff.mp w).1
    rw [w] at e
    cases s with
    | io _ => cases e
    | no => cases e; exact E.setOw r np nx hi
    | va _ => cases e; exact E.setOw r np nx hi
    | ow _ => cases e; exact E.setOw r np nx hi
def mSetO (m : Mm Ow) (i : Nat) : Ms := fun ρ => match m ρ with
  | some (o, ρ1) => (stO i o ρ1).map fun ρ2 => (.nx, ρ2)
  | none => none
theorem tset_o {m : Mm Ow} {t : TE} (w : ∀ Q, tO K m σ H Q → t σ H Q) (q : tSm K (mSetO m i) Dn σ H) : tAsg t (gName i) Dn σ H := by
  obtain ⟨c, ρ, f, ρ', E, e, k⟩ := q
  unfold mSetO at e
  cases w' : m ρ with
  | none => rw [w'] at e; cases e
  | some q =>
    obtain ⟨o, ρ1⟩ := q
    rw [w'] at e
    obtain ⟨ρ2, e1, e2⟩ := Option.map_eq_some_iff.mp e
    cases e2
    exact w _ ⟨c, ρ, o, ρ1, E, w', fun p H' E' r np nx => k _ _ (stO_ok E' r np nx e1)⟩
theorem cs_setO {m : Mm Ow} {nx : Str} {pos' : Pos} (i : Nat) (hN : X.N.Nodup) (h : CO X e1 m) (hi : X.N[i]? = some nx := by rfl) (hx : Loc X.env.scope nx := by first | exact .inl rfl | exact .inr rfl) (hs : swapsWith e1 (some (.Name nx pos')) pos.line X.env = pure false := by rfl)
    (hf : X.fn nx = true ∨ X.env.scope.names.lookup nx = some .local := by first | exact .inl rfl | exact .inr rfl | assumption) : CS X (.Assign [.Name nx pos'] e1 pos) (mSetO m i) :=
  ps_imp (ps_set hN hi hx h hs hf) fun Dn σ H q => tset_o (fun _ q => q) q
/-- x op= e, a value -/
def mAug (i : Nat) (m : Mm D) (f : D → D → Option D) : Ms := fun ρ => match ρ[i]? with
  | some (.va x) => match m ρ with
    | some (y, ρ1) => match f x y with
      | some z => (stV i z ρ1).map fun ρ2 => (.nx, ρ2)
      | none => none
    | none => none
  | _ => none
def HasP (X : Cx) (op : Operator) (g : D → D → Option D) : Prop := ∃ r : TIp, PIp X op r ∧ ∀ c σ H ρ x y z vx vy Q, ER X.K c σ H ρ → Bo X.K (Xo c σ ρ) H x vx → Bo X.K (Xo c σ ρ) H y vy → g x y = some z →
  (∀ v H', ER X.K c σ H' ρ → Rp X.K (Xo c σ ρ) H' z v → Q v H') → r vx vy H Q
theorem p_add : HasP X .Add gAddI := by
  refine ⟨_, ip_add, fun c σ H ρ x y z vx vy Q E b1 b2 e k => ?_⟩
  unfold gAddI at e
  split at e <;> cases e
  rw [b1.int, b2.int]
  exact ⟨_, _, rfl, rfl, k _ _ E .int⟩
theorem p_sub : HasP X .Sub dSub := by
  refine ⟨_, ip_sub, fun c σ H ρ x y z vx vy Q E b1 b2 e k => ?_⟩
  unfold dSub at e
  split at e <;> cases e
  rw [b1.int, b2.int]
  exact ⟨_, _, rfl, rfl, k _ _ E .int⟩
theorem cs_aug {nx : Str} {op : Operator} {g : D → D → Option D} {pos' : Pos} (i : Nat) (hN : X.N.Nodup) (h : CE X e1 ma) (hp : HasP X op g) (hi : X.N[i]? = some nx := by rfl) (hx : Loc X.env.scope nx := by first | exact .inl rfl | exact .inr rfl)
    (hf : X.fn nx = true ∨ X.env.scope.names.lookup nx = some .local := by first | exact .inl rfl | exact .inr rfl | assumption) : CS X (.AugAssign (.Name nx pos') op e1 pos) (mAug i ma g) := by
  obtain ⟨r, o, w⟩ := hp
  refine ps_imp (ps_aug hN hi hx h o hf) fun Dn σ H q => ?_
  obtain ⟨c, ρ, f, ρ', E, e, k⟩ := q
  unfold mAug at e
  cases z1 : ρ[i]? with
  | none => rw [z1] at e; cases e
  | some s =>
    rw [z1] at e
    cases s with
    | va x =>
      obtain ⟨vx, hvx, rx⟩ := E.va i x z1
      cases z2 : ma ρ with
      | none => rw [z2] at e; cases e
      | some q =>
        obtain ⟨y, ρ1⟩ := q
        rw [z2] at e
        dsimp only at e
        cases z3 : g x y with
        | none => rw [z3] at e; cases e
        | some z =>
          rw [z3] at e
          obtain ⟨ρ2, e1, e2⟩ := Option.map_eq_some_iff.mp e
          cases e2
          exact ⟨vx, hvx, c.push x vx, ρ, y, ρ1, E.push rx, z2, fun vy H1 E1 r1 => w c σ H1 ρ1 x y z vx vy _ E1.pop.1 E1.pop.2.bo r1.bo z3 fun v H2 E2 r2 => k _ _ (stV_ok E2 r2 e1)⟩
    | _ => cases e
/-! ### stores into an own thing -/
/-- the own thing of a slot -/
def getO (i : Nat) (ρ : En) : Option Ow := match ρ[i]? with
  | some (.ow o) => some o
  | some (.io o) => some o
  | _ => none
def putO (i : Nat) (o : Ow) (ρ : En) : En := ρ.set i ((ρ.getD i .no).put o)
theorem getO_own (E : ER K c σ H ρ) (h : getO i ρ = some o) : ∃ a, OwnAt σ ρ i a ∧ OwAt K (Xo c σ ρ) H a o := by
  unfold getO at h
  cases w : ρ[i]? with
  | none => rw [w] at h; cases h
  | some s =>
    rw [w] at h
    cases s with
    | ow o' =>
      cases h
      obtain ⟨a, e, r, _⟩ := E.ow i o w
      exact ⟨a, ⟨e, o, .inl w⟩, r⟩
    | io o' =>
      cases h
      obtain ⟨a, e, r, _⟩ := E.io i o w
      exact ⟨a, ⟨e, o, .inr w⟩, r⟩
    | _ => cases h
theorem RpL.past (h : RpL K (Xo c σ ρ) H ds vs) {u : HO} (own : OwnAt σ ρ i a) : RpL K (Xo c σ ρ) (upd H a u) ds vs := h.keep (fun _ z => z) ⟨fun b w _ q n => by
  have hb : b ≠ a := fun z => n (.inr ⟨i, by rw [z]; exact own⟩)
  rcases q with q | ⟨z, q⟩
  · exact .inl (by rw [upd_ne hb]; exact q)
  · exact .inr ⟨z, by rw [upd_ne hb]; exact q⟩, fun b ob ws q n => by
  have hb : b ≠ a := fun z => n (.inr ⟨i, by rw [z]; exact own⟩)
  rw [upd_ne hb]
  exact q⟩
theorem ER.putL (E : ER K c σ H ρ) (own : OwnAt σ ρ i a) (r : RpL K (Xo c σ ρ) H ds vs) : ER K c σ (upd H a (.lst vs)) (putO i (.lst ds) ρ) :=
  E.mut (u := .lst vs) own (fun b w hb q => by rw [upd_ne hb]; exact q) ⟨vs, upd_same, r.past own⟩
theorem ER.putD {kvs : List (Key × V)} {ks : List Key} (E : ER K c σ H ρ) (own : OwnAt σ ρ i a) (e : kvs.map (·.1) = ks) (r : RpL K (Xo c σ ρ) H ds (kvs.map (·.2))) : ER K c σ (upd H a (.dK kvs)) (putO i (.dct ks ds) ρ) :=
  E.mut (u := .dK kvs) own (fun b w hb q => by rw [upd_ne hb]; exact q) ⟨kvs, upd_same, e, r.past own⟩
theorem Xo_put (E : ER K c σ H ρ) (own : OwnAt σ ρ i a) : ∀ b, Xo c σ (putO i o ρ) b → Xo c σ ρ b := fun b h => by
  rcases h with h | ⟨j, e, o2, q⟩
  · exact .inl h
  · unfold putO at q
    by_cases hj : j = i
    · subst hj
      exact .inr ⟨j, e, own.2⟩
    · rw [get_set_ne hj] at q
      exact .inr ⟨j, e, o2, q⟩
/-- o[k] = d by the thing -/
def setO (o : Ow) (k d : D) : Option Ow := match o with
  | .lst ds => match k with
    | .int i => (ixN ds.length i).map fun j => .lst (ds.set j d)
    | _ => none
  | .dct ks ds => match keyOf k with
    | some key => if ks.length < 16777216 then some (.dct (putKs ks key) (putDs ks ds key d)) else none
    | none => none
theorem set_dict (hu : X.A.units + 1 < cLine) : PSet X (fun o i v H Q => ∃ a H1, o = .ref a ∧ DPut H a i v H1 ∧ Q H1) := by
  intro pins s σ H o i v ov iv u Q I ro ri rv h
  obtain ⟨a, H1, rfl, g, q⟩ := h
  obtain rfl : ov = Value.ref a := ro
  exact d_setItem hu I g ri rv fun s' I' => ⟨H1, I', q⟩
theorem set_or {t t' : TSet} (h : PSet X t) (h' : PSet X t') : PSet X (fun o i v H Q => t o i v H Q ∨ t' o i v H Q) := by
  intro pins s σ H o i v ov iv u Q I ro ri rv q
  rcases q with q | q
  · exact h pins s σ H o i v ov iv u Q I ro ri rv q
  · exact h' pins s σ H o i v ov iv u Q I ro ri rv q
theorem set_any (hu : X.A.units + 1 < cLine) : PSet X (fun o i v H Q => rSetL o i v H Q ∨ ∃ a H1, o = .ref a ∧ DPut H a i v H1 ∧ Q H1) := set_or set_list (set_dict hu)
theorem length_putK2 {kvs : List (Key × V)} (h : kvs.map (·.1) = ks) : kvs.length = ks.length := by rw [← h, List.length_map]
theorem setO_ok {o2 : Ow} {k : D} {vk : V} {Qh : Hp → Prop} (E : ER K c σ H ρ) (own : OwnAt σ ρ i a) (ho : OwAt K (Xo c σ ρ) H a o) (bk : Rp K (Xo c σ ρ) H k vk) (r : Rp K (Xo c σ ρ) H d v) (e : setO o k d = some o2)
    (q : ∀ H', ER K c σ H' (putO i o2 ρ) → Qh H') : rSetL (.ref a) vk v H Qh ∨ ∃ b H1, V.ref a = .ref b ∧ DPut H b vk v H1 ∧ Qh H1 := by
  cases o with
  | lst ds =>
    unfold setO at e
    dsimp only at e
    split at e
    · obtain ⟨j, e1, rfl⟩ := Option.map_eq_some_iff.mp e
      obtain ⟨vs, h1, l⟩ := ho
      rw [bk.bo.int]
      refine .inl ⟨a, vs, _, j, rfl, rfl, h1, by rw [l.length]; exact e1, q _ ?_⟩
      exact E.putL own (l.set r j)
    · cases e
  | dct ks ds =>
    unfold setO at e
    dsimp only at e
    split at e
    · rename_i key hk
      split at e
      · cases e
        rename_i hz
        obtain ⟨kvs, h1, h2, l⟩ := ho
        obtain ⟨p1, p2⟩ := put_ok (k := key) l r
        rw [h2] at p1 p2
        refine .inr ⟨a, _, rfl, .inl ⟨kvs, key, h1, Rp.key bk.bo hk, ?_, rfl⟩, q _ ?_⟩
        · rw [sizeLine_eq, length_putK2 h2]
          exact hz
        · exact E.putD own p1 p2
      · cases e
    · cases e
/-- name[k] = e: the value first, then the name, then the place -/
def mSetIx (m : Mm D) (i : Nat) (mk : Mm D) : Ms := fun ρ => match m ρ with
  | some (d, ρ1) => match getO i ρ1 with
    | some _ => match mk ρ1 with
      | some (k, ρ2) => match getO i ρ2 with
        | some o => match setO o k d with
          | some o2 => some (.nx, putO i o2 ρ2)
          | none => none
        | none => none
      | none => none
    | none => none
  | none => none
theorem mSetIx_some {m mk : Mm D} {f : Fl} (h : mSetIx m i mk ρ = some (f, ρ')) : ∃ d ρ1 o1 k ρ2 o o2, m ρ = some (d, ρ1) ∧ getO i ρ1 = some o1 ∧ mk ρ1 = some (k, ρ2) ∧ getO i ρ2 = some o ∧ setO o k d = some o2 ∧ f = .nx ∧ ρ' = putO i o2 ρ2 := by
  unfold mSetIx at h
  split at h
  · rename_i d ρ1 w1
    split at h
    · rename_i o1 w2
      split at h
      · rename_i k ρ2 w3
        split at h
        · rename_i o w4
          split at h
          · rename_i o2 w5
            cases h
            exact ⟨d, ρ1, o1, k, ρ2, o, o2, w1, w2, w3, w4, w5, rfl, rfl⟩
          · cases h
        · cases h
      · cases h
    · cases h
  · cases h
theorem cs_setIx {mk : Mm D} {nx : Str} {p1 p2 : Pos} (i : Nat) (hu : X.A.units + 1 < cLine) (h : CE X e1 ma) (hk : CE X e2 mk) (hN : X.N[i]? = some nx := by rfl) (hv : Vis X.env.scope nx := by first | exact Or.inl rfl | exact Or.inr (Or.inl rfl) | exact Or.inr (Or.inr rfl))
    (hd : (nx == ("__debug__" : Str)) = false := by decide) (hcd : (nx == ("__classdict__" : Str)) = false := by decide)
    (ha : ∀ v, assign (.Subscript (.Name nx p1) e2 p2) X.env v = (do
      let ov ← holding [v] (eval (.Name nx p1) X.env)
      let iv ← holding [v, ov] (eval e2 X.env)
      standAt p2
      holding [v, ov, iv] (setItem ov iv v)
      release [v, ov, iv] []) := by intro _; rfl)
    (hs : swapsWithSole [.Subscript (.Name nx p1) e2 p2] e1 pos.line X.env = pure false := by rfl) (hw : swappedStores [.Subscript (.Name nx p1) e2 p2] e1 X.env = pure none := by rfl)
    (h1 : (assignEach [.Subscript (.Name nx p1) e2 p2] X.env).map (·.2) = [assign (.Subscript (.Name nx p1) e2 p2) X.env] := by rfl) :
    CS X (.Assign [.Subscript (.Name nx p1) e2 p2] e1 pos) (mSetIx ma i mk) := by
  refine ps_imp (ps_asg h (pg_sub (pe_var (i := i) hN hv hd hcd) hk (set_any hu) ha) hs hw h1) fun Dn σ H q => ?_
  obtain ⟨c, ρ, f, ρ', E, e, k⟩ := q
  obtain ⟨d, ρ1, o1, kd, ρ2, o, o2, w1, w2, w3, w4, w5, rfl, rfl⟩ := mSetIx_some e
  refine ⟨c, ρ, d, ρ1, E, w1, fun v H1 E1 r1 => ?_⟩
  obtain ⟨a, own1, _⟩ := getO_own E1 w2
  refine ⟨.ref a, own1.1, c.push d v, ρ1, kd, ρ2, E1.push r1, w3, fun vk H2 E2 r2 => ?_⟩
  obtain ⟨E3, r3⟩ := E2.pop
  obtain ⟨a', own2, ho⟩ := getO_own E3 w4
  have ea : a' = a := by
    have q1 := own1.1
    have q2 := own2.1
    rw [q1] at q2
    cases q2
    rfl
  subst ea
  exact setO_ok E3 own2 ho r2 r3 w5 fun H' E' => k σ H' E'
end
end DL

set_option Elab.async false
set_option linter.all false
set_option maxRecDepth 100000
namespace DL
open PySem PySem.Spec PyProof.Rows L2

section
variable {X : Cx} {K : PySem.W.Frag} {c : Fx} {σ : Sg} {H H' : Hp} {ρ ρ' : En} {i j : Nat} {a p : Addr} {o : Ow} {d x y z : D} {v vx vy : V} {Q : VK} {ds : List D} {vs : List V} {Xx : AP} {Dn : Ends}
variable {e1 e2 e3 : Expr} {es : List Expr} {oa ob : Opd} {pos np apos cpos : Pos} {nm nx : Str} {bid : String} {ma mb : Mm D} {ta tb : Mm Bool} {st st2 : Stmt} {sts sts2 : List Stmt} {sa sb : Ms}
/-! ### lists by their methods -/
/-- the list of a slot -/
def getL (i : Nat) (ρ : En) : Option (List D) := match getO i ρ with
  | some (.lst ds) => some ds
  | _ => none
theorem getL_own (E : ER K c σ H ρ) (h : getL i ρ = some ds) : ∃ a vs, OwnAt σ ρ i a ∧ H a = some (.lst vs) ∧ RpL K (Xo c σ ρ) H ds vs := by
  unfold getL at h
  split at h
  · rename_i w
    cases h
    obtain ⟨a, own, vs, h1, l⟩ := getO_own E w
    exact ⟨a, vs, own, h1, l⟩
  · cases h
theorem own_eq {b : Addr} {ρ1 ρ2 : En} (h1 : OwnAt σ ρ1 i a) (h2 : OwnAt σ ρ2 i b) : b = a := by
  have q1 := h1.1
  have q2 := h2.1
  rw [q1] at q2
  cases q2
  rfl
/-- a method of the list at a name, one argument: f, from the list and the argument, gives the answer and the list behind it -/
def mM1 (i : Nat) (m : Mm D) (f : List D → D → Option (D × List D)) : Mm D := fun ρ => match getL i ρ with
  | some _ => match m ρ with
    | some (x, ρ1) => match getL i ρ1 with
      | some ds => match f ds x with
        | some (r, ds2) => some (r, putO i (.lst ds2) ρ1)
        | none => none
      | none => none
    | none => none
  | none => none
def mM0 (i : Nat) (f : List D → Option (D × List D)) : Mm D := fun ρ => match getL i ρ with
  | some ds => match f ds with
    | some (r, ds2) => some (r, putO i (.lst ds2) ρ)
    | none => none
  | none => none
theorem mM1_some {m : Mm D} {f : List D → D → Option (D × List D)} (h : mM1 i m f ρ = some (d, ρ')) : ∃ ds0 x ρ1 ds ds2, getL i ρ = some ds0 ∧ m ρ = some (x, ρ1) ∧ getL i ρ1 = some ds ∧ f ds x = some (d, ds2) ∧ ρ' = putO i (.lst ds2) ρ1 := by
  unfold mM1 at h
  split at h
  · rename_i ds0 w1
    split at h
    · rename_i x ρ1 w2
      split at h
      · rename_i ds w3
        split at h
        · rename_i r ds2 w4
          cases h
          exact ⟨ds0, x, ρ1, ds, ds2, w1, w2, w3, w4, rfl⟩
        · cases h
      · cases h
    · cases h
  · cases h
theorem mM0_some {f : List D → Option (D × List D)} (h : mM0 i f ρ = some (d, ρ')) : ∃ ds ds2, getL i ρ = some ds ∧ f ds = some (d, ds2) ∧ ρ' = putO i (.lst ds2) ρ := by
  unfold mM0 at h
  split at h
  · rename_i ds w1
    split at h
    · rename_i r ds2 w2
      cases h
      exact ⟨ds, ds2, w1, w2, rfl⟩
    · cases h
  · cases h
/-- what a list's method does -/
def HasM1 (X : Cx) (bid : String) (f : List D → D → Option (D × List D)) : Prop := ∃ r, MtR X bid r ∧ ∀ (Xx : AP) (H : Hp) (a : Addr) (vs : List V) (ds : List D) (x : D) (vx : V) (d : D) (ds2 : List D) (Q : VK), H a = some (.lst vs) → RpL X.K Xx H ds vs → Rp X.K Xx H x vx → f ds x = some (d, ds2) →
  (∀ v vs2, Rp X.K Xx H d v → RpL X.K Xx H ds2 vs2 → Q v (upd H a (.lst vs2))) → r (.ref a) [vx] H Q
def HasM0 (X : Cx) (bid : String) (f : List D → Option (D × List D)) : Prop := ∃ r, MtR X bid r ∧ ∀ (Xx : AP) (H : Hp) (a : Addr) (vs : List V) (ds : List D) (d : D) (ds2 : List D) (Q : VK), H a = some (.lst vs) → RpL X.K Xx H ds vs → f ds = some (d, ds2) →
  (∀ v vs2, Rp X.K Xx H d v → RpL X.K Xx H ds2 vs2 → Q v (upd H a (.lst vs2))) → r (.ref a) [] H Q
theorem Rp.past {u : HO} (h : Rp K (Xo c σ ρ) H d v) (own : OwnAt σ ρ i a) : Rp K (Xo c σ ρ) (upd H a u) d v := h.keep (fun _ z => z) ⟨fun b w _ q n => by
  have hb : b ≠ a := fun z => n (.inr ⟨i, by rw [z]; exact own⟩)
  rcases q with q | ⟨z, q⟩
  · exact .inl (by rw [upd_ne hb]; exact q)
  · exact .inr ⟨z, by rw [upd_ne hb]; exact q⟩, fun b ob ws q n => by
  have hb : b ≠ a := fun z => n (.inr ⟨i, by rw [z]; exact own⟩)
  rw [upd_ne hb]
  exact q⟩
theorem ce_m1 {f : List D → D → Option (D × List D)} {px : Pos} (i : Nat) (h : HasM1 X bid f) (slot : Slot "list" nm bid) (hty : typeOf (.builtin bid) = pure (.type "method_descriptor")) (ha : CE X e1 ma)
    (hN : X.N[i]? = some nx := by rfl) (hv : Vis X.env.scope nx := by first | exact Or.inl rfl | exact Or.inr (Or.inl rfl) | exact Or.inr (Or.inr rfl))
    (hd : (nx == ("__debug__" : Str)) = false := by decide) (hcd : (nx == ("__classdict__" : Str)) = false := by decide)
    (hbase : attributeBase (.Name nx px) nm X.env (eval (.Name nx px) X.env) = eval (.Name nx px) X.env := by rfl)
    (hfew : ((backTo cpos (starEach (e1 :: []) X.env)).all (fun x => !x.1) && (backToKw cpos (keywordEach [] X.env)).all (fun x => x.1.isSome)
      && decide ((e1 :: []).length + ([] : List Keyword).length + (if ([] : List Keyword).isEmpty then 0 else 1) < 30)) = true := by rfl)
    (hline : (apos.endLine == cpos.line) = true := by rfl) (hs : starEach (e1 :: []) X.env = (false, eval e1 X.env) :: starEach [] X.env := by rfl) (hplain : (backTo cpos (starEach [] X.env)).any (·.1) = false := by rfl) :
    CE X (.Call (.Attribute (.Name nx px) nm apos) (e1 :: []) [] cpos) (mM1 i ma f) := by
  obtain ⟨r, o, w⟩ := h
  refine pe_imp (pe_bm PySem.F.plainAttrs_list slot hty o (pe_var (i := i) hN hv hd hcd) (pa_cons ha pa_nil hs) hbase hfew hline hs hplain) fun σ H Q q => ?_
  obtain ⟨c, ρ, d, ρ', E, e, k⟩ := q
  obtain ⟨ds0, x, ρ1, ds, ds2, w1, w2, w3, w4, rfl⟩ := mM1_some e
  obtain ⟨a, vs0, own0, h0, l0⟩ := getL_own E w1
  refine ⟨.ref a, own0.1, .inl ⟨rfl, vs0, SqL.of h0⟩, c, ρ, x, ρ1, E, w2, fun vx H1 E1 r1 => ?_⟩
  obtain ⟨b, vs, own, h1, l⟩ := getL_own E1 w3
  have eb := own_eq own0 own
  subst eb
  refine w (Xo c σ ρ1) H1 b vs ds x vx d ds2 Q h1 l r1 w4 fun v vs2 r2 l2 => k _ _ (E1.putL own l2) ?_
  exact (r2.past own).keep (Xo_put E1 own) Kp.refl
theorem ce_m0 {f : List D → Option (D × List D)} {px : Pos} (i : Nat) (h : HasM0 X bid f) (slot : Slot "list" nm bid) (hty : typeOf (.builtin bid) = pure (.type "method_descriptor"))
    (hN : X.N[i]? = some nx := by rfl) (hv : Vis X.env.scope nx := by first | exact Or.inl rfl | exact Or.inr (Or.inl rfl) | exact Or.inr (Or.inr rfl))
    (hd : (nx == ("__debug__" : Str)) = false := by decide) (hcd : (nx == ("__classdict__" : Str)) = false := by decide)
    (hbase : attributeBase (.Name nx px) nm X.env (eval (.Name nx px) X.env) = eval (.Name nx px) X.env := by rfl) (hline : (apos.endLine == cpos.line) = true := by rfl) :
    CE X (.Call (.Attribute (.Name nx px) nm apos) [] [] cpos) (mM0 i f) := by
  obtain ⟨r, o, w⟩ := h
  refine pe_imp (pe_bm0 PySem.F.plainAttrs_list slot hty o (pe_var (i := i) hN hv hd hcd) hbase hline) fun σ H Q q => ?_
  obtain ⟨c, ρ, d, ρ', E, e, k⟩ := q
  obtain ⟨ds, ds2, w1, w4, rfl⟩ := mM0_some e
  obtain ⟨b, vs, own, h1, l⟩ := getL_own E w1
  refine ⟨.ref b, own.1, .inl ⟨rfl, vs, SqL.of h1⟩, w (Xo c σ ρ) H b vs ds d ds2 Q h1 l w4 fun v vs2 r2 l2 => k _ _ (E.putL own l2) ?_⟩
  exact (r2.past own).keep (Xo_put E own) Kp.refl
def fApp (ds : List D) (x : D) : Option (D × List D) := if ds.length < 16777216 then some (.non, ds ++ [x]) else none
theorem m_append : HasM1 X "list.append" fApp := by
  refine ⟨_, mt_append, fun Xx H a vs ds x vx d ds2 Q h l r e k => ?_⟩
  unfold fApp at e
  split at e <;> cases e
  exact ⟨a, vs, vx, rfl, rfl, h, by rw [sizeLine_eq, l.length]; assumption, k _ _ .non (l.app (.cons r .nil))⟩
def rExtR : V → List V → Hp → VK → Prop := fun x vs H Q => ∃ l b xs zs, x = .ref l ∧ vs = [.ref b] ∧ H l = some (.lst xs) ∧ Rd H b (.lst zs) ∧ xs.length + zs.length ≤ sizeLine ∧ Q .non (upd H l (.lst (xs ++ zs)))
theorem mt_extR : MtM X "list.extend" rExtR := by
  intro pins s σ H x vs v us Q I rx rv h
  obtain ⟨l, b, xs, zs, rfl, rfl, hH, hB, hz, q⟩ := h
  cases rx
  obtain ⟨u, rfl, ru⟩ := rv.one
  cases ru
  obtain ⟨z, its, n, r, hl, e⟩ := I.lstM hH
  obtain ⟨z2, its2, n2, r2, e2⟩ := hB.ok I.hok
  have hl2 := r2.length
  have hsz : its.toArray.size + its2.toArray.size ≤ sizeLine := by rw [List.size_toArray, List.size_toArray]; omega
  have hlong : ¬ (!its.toArray.isEmpty && Builtin.List.listTooLong (its.toArray.size + its2.toArray.size)) = true := by
    rw [notLongL hsz, Bool.and_false]
    exact Bool.false_ne_true
  refine call_meets F.slot_list_extend ⟨_, e, rfl⟩ F.entry_list_extend (F.args_list_extend_2 _ _)
    (AutoSeq1.list_extend_list_list_0 l its.toArray n b its2.toArray n2 hlong (by rw [List.size_toArray]; omega) (by omega)) ⟨e, e2, ?_⟩
  refine ⟨.non, _, I.lset (its' := its ++ its2) hH e (by simp) (r.append r2) ?_, rfl, q⟩
  rw [List.length_append]
  omega
def fExt (ds : List D) (x : D) : Option (D × List D) := match x with
  | .lst es => if ds.length + es.length ≤ 16777216 then some (.non, ds ++ es) else none
  | _ => none
theorem m_extend : HasM1 X "list.extend" fExt := by
  refine ⟨_, mt_extR, fun Xx H a vs ds x vx d ds2 Q h l r e k => ?_⟩
  unfold fExt at e
  split at e
  · split at e <;> cases e
    obtain ⟨b, ws, rfl, t, l2⟩ := r.bo.lst
    exact ⟨a, b, vs, ws, rfl, rfl, h, t, by rw [sizeLine_eq, l.length, l2.length]; assumption, k _ _ .non (l.app l2)⟩
  · cases e
def fPop (ds : List D) : Option (D × List D) := match ds.getLast? with
  | some d => some (d, ds.dropLast)
  | none => none
theorem RpL.dropLast (l : RpL K Xx H ds vs) : RpL K Xx H ds.dropLast vs.dropLast := by
  rw [List.dropLast_eq_take, List.dropLast_eq_take, l.length]
  exact l.take _
theorem m_pop : HasM0 X "list.pop" fPop := by
  refine ⟨_, mt_pop, fun Xx H a vs ds d ds2 Q h l e k => ?_⟩
  unfold fPop at e
  split at e
  · rename_i d' w
    cases e
    rw [List.getLast?_eq_getElem?] at w
    obtain ⟨v, h2, r⟩ := l.get w
    exact ⟨a, vs, v, rfl, rfl, h, by rw [l.length]; exact h2, k _ _ r l.dropLast⟩
  · cases e
def fPopAt (ds : List D) (x : D) : Option (D × List D) := match x with
  | .int i => if 0 ≤ i ∧ i < 4611686018427387904 then (match ds[i.toNat]? with
    | some d => some (d, ds.eraseIdx i.toNat)
    | none => none) else none
  | _ => none
theorem m_popAt : HasM1 X "list.pop" fPopAt := by
  refine ⟨_, mt_popAt, fun Xx H a vs ds x vx d ds2 Q h l r e k => ?_⟩
  unfold fPopAt at e
  split at e
  · rename_i i
    split at e
    · rename_i hi
      split at e
      · rename_i d' w
        cases e
        obtain ⟨v, h2, r2⟩ := l.get w
        have hlt := (List.getElem?_eq_some_iff.mp h2).1
        rw [r.bo.int]
        exact ⟨a, vs, i, i.toNat, v, rfl, rfl, h, by omega, by omega, seqIndex_of hi.1 (by omega), h2, k _ _ r2 (l.erase _)⟩
      · cases e
    · cases e
  · cases e
/-! ### while -/
def whF (t : Mm Bool) (b : Ms) : Nat → En → Option (Fl × En)
  | 0, _ => none
  | n + 1, ρ => match t ρ with
    | some (true, ρ1) => (match b ρ1 with
      | some (.nx, ρ2) => whF t b n ρ2
      | some (.ct, ρ2) => whF t b n ρ2
      | some (.bk, ρ2) => some (.nx, ρ2)
      | some (f, ρ2) => some (f, ρ2)
      | none => none)
    | some (false, ρ1) => some (.nx, ρ1)
    | none => none
open Classical in
noncomputable def mWhile (t : Mm Bool) (b : Ms) : Ms := fun ρ => if h : ∃ n r, whF t b n ρ = some r then some h.choose_spec.choose else none
theorem whF_more {t : Mm Bool} {b : Ms} {r : Fl × En} : ∀ {n m : Nat} {ρ : En}, n ≤ m → whF t b n ρ = some r → whF t b m ρ = some r
  | 0, m, ρ, _, h => by unfold whF at h; cases h
  | n + 1, 0, ρ, hl, _ => absurd hl (Nat.not_succ_le_zero n)
  | n + 1, m + 1, ρ, hl, h => by
    have hl : n ≤ m := Nat.le_of_succ_le_succ hl
    unfold whF at h ⊢
    split at h
    · rename_i ρ1 w1
      split at h
      · rename_i ρ2 w2
        exact whF_more hl h
      · rename_i ρ2 w2
        exact whF_more hl h
      · exact h
      · exact h
      · exact h
    · exact h
    · exact h
theorem mWhile_of {t : Mm Bool} {b : Ms} {r : Fl × En} {n : Nat} {ρ : En} (h : whF t b n ρ = some r) : mWhile t b ρ = some r := by
  have q : ∃ n r, whF t b n ρ = some r := ⟨n, r, h⟩
  unfold mWhile
  rw [dif_pos q]
  have s := q.choose_spec.choose_spec
  have m1 := whF_more (Nat.le_max_left q.choose n) s
  have m2 := whF_more (Nat.le_max_right q.choose n) h
  rw [m1] at m2
  exact m2
theorem mWhile_to {t : Mm Bool} {b : Ms} {r : Fl × En} {ρ : En} (h : mWhile t b ρ = some r) : ∃ n, whF t b n ρ = some r := by
  unfold mWhile at h
  split at h
  · rename_i q
    cases h
    exact ⟨_, q.choose_spec.choose_spec⟩
  · cases h
theorem cs_while (hp : PassesOwn (model X.prog X.w) X.A X.env X.xe) (h : CT X e1 ta) (hb : CSs X sts sb) : CS X (.While e1 sts [] pos) (mWhile ta sb) := by
  refine ps_imp (ps_while hp h hb) fun Dn σ H q => ?_
  obtain ⟨c, ρ, f, ρ', E, e, k⟩ := q
  obtain ⟨n, e⟩ := mWhile_to e
  refine ⟨fun m σ H => ∃ ρ, ER X.K c σ H ρ ∧ whF ta sb m ρ = some (f, ρ'), ⟨n, ρ, E, e⟩, ?_⟩
  rintro m σ1 H1 ⟨ρ1, E1, w⟩
  cases m with
  | zero => unfold whF at w; cases w
  | succ m =>
    unfold whF at w
    split at w
    · rename_i ρ2 w1
      refine ⟨c, ρ1, true, ρ2, E1, w1, fun H2 E2 => iteT ?_⟩
      refine ⟨fun σ' H' => ∃ ρ, ER X.K c σ' H' ρ ∧ whF ta sb m ρ = some (f, ρ'), fun σ' H' q => ⟨m, Nat.lt_succ_self m, q⟩, ?_⟩
      split at w
      · rename_i ρ3 w2
        exact ⟨c, ρ2, .nx, ρ3, E2, w2, fun σ' H' E' => ⟨ρ3, E', w⟩⟩
      · rename_i ρ3 w2
        exact ⟨c, ρ2, .ct, ρ3, E2, w2, fun σ' H' E' => ⟨ρ3, E', w⟩⟩
      · rename_i ρ3 w2
        cases w
        exact ⟨c, ρ2, .bk, _, E2, w2, k⟩
      · rename_i f2 ρ3 n1 n2 n3 w2
        cases w
        refine ⟨c, ρ2, f, _, E2, w2, ?_⟩
        cases f with
        | nx => exact (n1 rfl).elim
        | ct => exact (n2 rfl).elim
        | bk => exact (n3 rfl).elim
        | rv d => exact k
        | ro o => exact k
      · cases w
    · rename_i ρ2 w1
      cases w
      exact ⟨c, ρ1, false, _, E1, w1, fun H2 E2 => iteF (k _ _ E2)⟩
    · cases w
end
end DL

set_option Elab.async false
set_option linter.all false
set_option maxRecDepth 100000
namespace DL
open PySem PySem.Spec PyProof.Rows L2

section
variable {X : Cx} {K : PySem.W.Frag} {c c' : Fx} {σ : Sg} {H H' : Hp} {ρ ρ' : En} {i j : Nat} {a p : Addr} {o : Ow} {d x y z : D} {v vx vy : V} {Q : VK} {ds : List D} {vs : List V} {Xx : AP} {Dn : Ends}
variable {tg iter e1 e2 e3 : Expr} {es : List Expr} {oa ob : Opd} {pos np apos cpos p1 tpos : Pos} {nm nx : Str} {bid : String} {ma mb : Mm D} {ta tb : Mm Bool} {st st2 : Stmt} {sts sts2 : List Stmt} {sa sb : Ms} {pr : Bool} {t : Tg} {ts : List Tg} {mi : Mm (List D)}
/-! ### a dict that is to be walked is locked for good -/
def tFz (te : TE) : TE := fun σ H Q => te σ H fun v H1 => (∃ a kvs, v = .ref a ∧ H1 a = some (.dK kvs) ∧ ∀ ob, Q v (upd H1 a (.frz ob (.dK kvs)))) ∨ Q v H1
theorem pe_fz {te : TE} (h : PE X e1 te) : PE X e1 (tFz te) := by
  refine ⟨fun pins s σ H Q I hw => thn (h.run pins s σ H _ I hw) fun u s1 ⟨x, H1, I1, r1, q1⟩ => ?_⟩
  rcases q1 with ⟨a, kvs, rfl, hd, q⟩ | q
  · obtain ⟨ob, I2⟩ := I1.lock hd trivial
    exact ⟨_, _, I2, r1, q ob⟩
  · exact ⟨x, H1, I1, r1, q⟩
theorem pi_or {wi wi' : TI} (h : PI X tg iter wi) (h' : PI X tg iter wi') : PI X tg iter (fun σ H R => wi σ H R ∨ wi' σ H R) :=
  ⟨fun pins s σ H R I q => q.elim (h.run pins s σ H R I) (h'.run pins s σ H R I)⟩
/-- c knows more than c', and shuts out more -/
structure Wx (c c' : Fx) : Prop where
  x0 : ∀ a, c'.X0 a → c.X0 a
  tmp : ∀ p ∈ c'.tmp, p ∈ c.tmp
  fz : ∀ p ∈ c'.fz, p ∈ c.fz
theorem Wx.refl : Wx c c := ⟨fun _ z => z, fun _ z => z, fun _ z => z⟩
def D.ofK : Key → D
  | .inl i => .int i
  | .inr x => .str x
theorem Rp.ofK {k : Key} : Rp K Xx H (.ofK k) (kV k) := by
  cases k with
  | inl i => exact .int
  | inr x => exact .str
def ItOk (K : PySem.W.Frag) (c' : Fx) (J : It) (pr : Bool) (ds : List D) : Prop := ∀ c σ H ρ, Wx c c' → ER K c σ H ρ → ∀ i, (ds.length ≤ i → J.stop i H) ∧ ∀ d, ds[i]? = some d → J.go i H ∧ ∀ x H', J.yld i H x H' → ER K c σ H' ρ ∧ IRp pr K (Xo c σ ρ) H' d x
def CI (X : Cx) (tg iter : Expr) (pr : Bool) (m : Mm (List D)) : Prop := ∃ wi, PI X tg iter wi ∧ ∀ c σ H ρ ds ρ' R, ER X.K c σ H ρ → m ρ = some (ds, ρ') → (∀ J H1 c', Wk c' c → ER X.K c' σ H1 ρ' → ItOk X.K c' J pr ds → R J H1) → wi σ H R
/-! ### a value walked -/
def itemsOf : D → Option (List D)
  | .tup ds => some ds
  | .lst ds => some ds
  | .scr ds => some ds
  | .dct ks _ => some (ks.map .ofK)
  | .str x => some (x.cps.toList.map fun c => .str ⟨#[c]⟩)
  | _ => none
def mIt (m : Mm D) : Mm (List D) := bd m fun x => lf (itemsOf x)
theorem it_lst (r : Rp K (Xo c' σ ρ) H (.lst ds) v) (he : v = .ref a) : ItOk K (c'.push (.lst ds) v) (Itl K a) false ds := by
  intro c σ H ρ w E i
  have r := E.tmp (.lst ds, v) (w.tmp _ List.mem_cons_self)
  obtain ⟨a', vs, e, t, l⟩ := (show Rp K _ H (.lst ds) v from r).bo.lst
  rw [he] at e
  cases e
  refine ⟨fun q => ⟨vs, .inl t, by rw [l.length]; exact q⟩, fun d q => ?_⟩
  obtain ⟨u, h1, h2⟩ := l.get q
  refine ⟨⟨vs, u, .inl t, h1⟩, fun x H' q => ?_⟩
  obtain ⟨rfl, q⟩ := q
  have z := q vs (.inl t)
  rw [h1] at z
  cases z
  exact ⟨E, h2⟩
theorem it_scr (he : v = .ref a) : ItOk K (c'.push (.scr ds) v) (Itl K a) false ds := by
  intro c σ H ρ w E i
  have r := E.tmp (.scr ds, v) (w.tmp _ List.mem_cons_self)
  obtain ⟨a', vs, e, t, l⟩ := (show Rp K _ H (.scr ds) v from r).bo.scr
  rw [he] at e
  cases e
  refine ⟨fun q => ⟨vs, t.sq, by rw [l.length]; exact q⟩, fun d q => ?_⟩
  obtain ⟨u, h1, h2⟩ := l.get q
  refine ⟨⟨vs, u, t.sq, h1⟩, fun x H' q => ?_⟩
  obtain ⟨rfl, q⟩ := q
  have z := q vs t.sq
  rw [h1] at z
  cases z
  exact ⟨E, h2⟩
theorem it_tup (he : v = .ref a) : ItOk K (c'.push (.tup ds) v) (Itt K a) false ds := by
  intro c σ H ρ w E i
  have r := E.tmp (.tup ds, v) (w.tmp _ List.mem_cons_self)
  obtain ⟨a', vs, e, t, l⟩ := (show Rp K _ H (.tup ds) v from r).bo.tup
  rw [he] at e
  cases e
  refine ⟨fun q => ⟨vs, t.sq, by rw [l.length]; exact q⟩, fun d q => ?_⟩
  obtain ⟨u, h1, h2⟩ := l.get q
  refine ⟨⟨vs, u, t.sq, h1⟩, fun x H' q => ?_⟩
  obtain ⟨rfl, q⟩ := q
  have z := q vs t.sq
  rw [h1] at z
  cases z
  exact ⟨E, h2⟩
theorem it_str {x : Str} : ItOk K c' (Its x) false (x.cps.toList.map fun c => .str ⟨#[c]⟩) := by
  intro c σ H ρ w E i
  refine ⟨fun q => ?_, fun d q => ?_⟩
  · rw [List.length_map, Array.length_toList] at q
    exact q
  · rw [List.getElem?_map, Array.getElem?_toList] at q
    obtain ⟨ch, q1, rfl⟩ := Option.map_eq_some_iff.mp q
    refine ⟨(Array.getElem?_eq_some_iff.mp q1).1, fun x H' q => ?_⟩
    obtain ⟨rfl, c2, q2, rfl⟩ := q
    rw [q1] at q2
    cases q2
    exact ⟨E, show Rp K (Xo c σ ρ) _ _ _ from .str⟩
theorem it_keys {ob : Obj} {kvs : List (Key × V)} : ItOk K (c'.lock a ob kvs) (Itk a ob kvs) false ((kvs.map (·.1)).map .ofK) := by
  intro c σ H ρ w E i
  have h := E.fz (a, ob, kvs) (w.fz _ List.mem_cons_self)
  refine ⟨fun q => ⟨h, by simpa using q⟩, fun d q => ?_⟩
  rw [List.getElem?_map, List.getElem?_map] at q
  obtain ⟨k, q1, rfl⟩ := Option.map_eq_some_iff.mp q
  obtain ⟨kv, q2, rfl⟩ := Option.map_eq_some_iff.mp q1
  refine ⟨⟨h, (List.getElem?_eq_some_iff.mp q2).1⟩, fun x H' q => ?_⟩
  obtain ⟨rfl, k, v, q3, rfl⟩ := q
  rw [q2] at q3
  cases q3
  exact ⟨E, show Rp K (Xo c σ ρ) _ _ _ from .ofK⟩
theorem it_vals {ob : Obj} {kvs : List (Key × V)} {ks : List Key} (he : v = .ref a) : ItOk K ((c'.push (.dct ks ds) v).lock a ob kvs) (Itd a ob kvs) false ds := by
  intro c σ H ρ w E i
  have h := E.fz (a, ob, kvs) (w.fz _ List.mem_cons_self)
  have r := E.tmp (.dct ks ds, v) (w.tmp _ List.mem_cons_self)
  obtain ⟨a', kvs', e, t, _, l⟩ := (show Rp K _ H (.dct ks ds) v from r).bo.dct
  rw [he] at e
  cases e
  have ek : kvs' = kvs := by
    rcases t with t | ⟨ob', t⟩ <;> (rw [h] at t; cases t) <;> rfl
  subst ek
  have hl := l.length
  rw [List.length_map] at hl
  refine ⟨fun q => ⟨h, by omega⟩, fun d q => ?_⟩
  obtain ⟨u, h1, h2⟩ := l.get q
  rw [List.getElem?_map] at h1
  obtain ⟨kv, q2, rfl⟩ := Option.map_eq_some_iff.mp h1
  refine ⟨⟨h, (List.getElem?_eq_some_iff.mp q2).1⟩, fun x H' q => ?_⟩
  obtain ⟨rfl, k, q3⟩ := q
  rw [q2] at q3
  cases q3
  exact ⟨E, h2⟩
theorem ER.pair {u w : V} (E : ER K c σ H ρ) (n : H p = none) (r1 : Rp K (Xo c σ ρ) H x u) (r2 : Rp K (Xo c σ ρ) H y w) : ER K c σ (upd H p (.tup [u, w])) ρ ∧ IRp true K (Xo c σ ρ) (upd H p (.tup [u, w])) (.tup [x, y]) (.ref p) :=
  ⟨E.ext (upd_keep n), p, [u, w], [x, y], rfl, rfl, .inl (.inl upd_same), .cons (r1.kept (upd_keep n)) (.cons (r2.kept (upd_keep n)) .nil)⟩
theorem it_items {ob : Obj} {kvs : List (Key × V)} {ks : List Key} (hk : kvs.map (·.1) = ks) (he : v = .ref a) : ItOk K ((c'.push (.dct ks ds) v).lock a ob kvs) (Iti a ob kvs) true ((ks.zip ds).map fun q => .tup [.ofK q.1, q.2]) := by
  intro c σ H ρ w E i
  have h := E.fz (a, ob, kvs) (w.fz _ List.mem_cons_self)
  have r := E.tmp (.dct ks ds, v) (w.tmp _ List.mem_cons_self)
  obtain ⟨a', kvs', e, t, hk', l⟩ := (show Rp K _ H (.dct ks ds) v from r).bo.dct
  rw [he] at e
  cases e
  have ek : kvs' = kvs := by
    rcases t with t | ⟨ob', t⟩ <;> (rw [h] at t; cases t) <;> rfl
  subst ek
  have hl := l.length
  rw [List.length_map] at hl
  have hl2 : ks.length = kvs'.length := by rw [← hk, List.length_map]
  refine ⟨fun q => ⟨h, ?_⟩, fun d q => ?_⟩
  · rw [List.length_map, List.length_zip] at q
    omega
  · rw [List.getElem?_map] at q
    obtain ⟨⟨k, d2⟩, q1, rfl⟩ := Option.map_eq_some_iff.mp q
    obtain ⟨qk, qd⟩ := List.getElem?_zip_eq_some.mp q1
    obtain ⟨u, h1, h2⟩ := l.get qd
    rw [List.getElem?_map] at h1
    obtain ⟨kv, q2, rfl⟩ := Option.map_eq_some_iff.mp h1
    refine ⟨⟨h, (List.getElem?_eq_some_iff.mp q2).1⟩, fun x H' q => ?_⟩
    obtain ⟨T, k', v', q3, rfl, n, rfl⟩ := q
    rw [q2] at q3
    cases q3
    have e1 : k' = k := by
      rw [← hk, List.getElem?_map, q2] at qk
      cases qk
      rfl
    subst e1
    exact E.pair n .ofK h2
theorem ci_val (h : CE X iter ma) : CI X tg iter false (mIt ma) := by
  refine ⟨_, pi_or (pi_or (pi_list h) (pi_tup h)) (pi_or (pi_str h) (pi_keys (pe_fz h))), fun c σ H ρ ds ρ' R E e k => ?_⟩
  obtain ⟨d, ρ1, g1, f1⟩ := bd_some e
  obtain ⟨g2, rfl⟩ := lf_some f1
  cases d with
  | tup ds =>
    cases g2
    refine .inl (.inr ⟨c, ρ, _, ρ1, E, g1, fun v H1 E1 r => ?_⟩)
    obtain ⟨a, vs, rfl, t, l⟩ := r.bo.tup
    exact ⟨a, rfl, ⟨vs, t.sq⟩, k _ _ (c.push _ _) .push (E1.push r) (it_tup rfl)⟩
  | lst ds =>
    cases g2
    refine .inl (.inl ⟨c, ρ, _, ρ1, E, g1, fun v H1 E1 r => ?_⟩)
    obtain ⟨a, vs, rfl, t, l⟩ := r.bo.lst
    exact ⟨a, rfl, ⟨vs, .inl t⟩, k _ _ (c.push _ _) .push (E1.push r) (it_lst r rfl)⟩
  | scr ds =>
    cases g2
    refine .inl (.inl ⟨c, ρ, _, ρ1, E, g1, fun v H1 E1 r => ?_⟩)
    obtain ⟨a, vs, rfl, t, l⟩ := r.bo.scr
    exact ⟨a, rfl, ⟨vs, t.sq⟩, k _ _ (c.push _ _) .push (E1.push r) (it_scr rfl)⟩
  | str x =>
    cases g2
    refine .inr (.inl ⟨c, ρ, _, ρ1, E, g1, fun v H1 E1 r => ?_⟩)
    exact ⟨x, r.bo.str, k _ _ c .refl E1 it_str⟩
  | dct ks es =>
    cases g2
    refine .inr (.inr ⟨c, ρ, _, ρ1, E, g1, fun v H1 E1 r => ?_⟩)
    unfold Rp at r
    obtain ⟨a, kvs, rfl, t, rfl, l⟩ := r
    rcases t with ⟨t | ⟨ob, t⟩, no⟩
    · refine .inl ⟨a, kvs, rfl, t, fun ob => ⟨a, ob, rfl, .inl ⟨kvs, upd_same, k _ _ (c.lock a ob kvs) .lock (E1.freeze t no) it_keys⟩⟩⟩
    · exact .inr ⟨a, ob, rfl, .inl ⟨kvs, t, k _ _ (c.lock a ob kvs) .lock (E1.locked t) it_keys⟩⟩
  | _ => cases g2
/-! ### .items(), .values(), .keys() -/
def dctOf : D → Option (List Key × List D)
  | .dct ks ds => some (ks, ds)
  | _ => none
theorem dctOf_some {q : List Key × List D} (h : dctOf d = some q) : d = .dct q.1 q.2 := by
  cases d <;> cases h
  rfl
def mItems (m : Mm D) : Mm (List D) := bd m fun x => bd (lf (dctOf x)) fun q => ret ((q.1.zip q.2).map fun q => .tup [.ofK q.1, q.2])
def mVals (m : Mm D) : Mm (List D) := bd m fun x => bd (lf (dctOf x)) fun q => ret q.2
def mKeys (m : Mm D) : Mm (List D) := bd m fun x => bd (lf (dctOf x)) fun q => ret (q.1.map .ofK)
theorem dct_fz {ks : List Key} {R : Addr → Obj → List (Key × V) → Hp → Prop} {m : Mm D} (E : ER K c σ H ρ) (g : m ρ = some (.dct ks ds, ρ'))
    (k : ∀ a ob kvs H1, kvs.map (·.1) = ks → H1 a = some (.frz ob (.dK kvs)) → ER K ((c.push (.dct ks ds) (.ref a)).lock a ob kvs) σ H1 ρ' → R a ob kvs H1) :
    tFz (tE K m) σ H fun x H1 => ∃ d o kvs, x = .ref d ∧ H1 d = some (.frz o (.dK kvs)) ∧ R d o kvs H1 := by
  refine ⟨c, ρ, _, ρ', E, g, fun v H1 E1 r => ?_⟩
  have r0 := r
  unfold Rp at r
  obtain ⟨a, kvs, rfl, t, rfl, l⟩ := r
  rcases t with ⟨t | ⟨ob, t⟩, no⟩
  · exact .inl ⟨a, kvs, rfl, t, fun ob => ⟨a, ob, kvs, rfl, upd_same, k a ob kvs _ rfl upd_same ((E1.push r0).freeze t no)⟩⟩
  · exact .inr ⟨a, ob, kvs, rfl, t, k a ob kvs _ rfl t ((E1.push r0).locked t)⟩
theorem ci_items {elts : List Expr} {kk : Nat} (h : CE X e1 ma) (hbase : attributeBase e1 "items" X.env (eval e1 X.env) = eval e1 X.env := by rfl) (hline : (apos.endLine == cpos.line) = true := by rfl) : CI X (.Tuple elts kk tpos) (.Call (.Attribute e1 "items" apos) [] [] cpos) true (mItems ma) := by
  refine ⟨_, pi_items (pe_fz h) hbase hline, fun c σ H ρ ds ρ' R E e k => ?_⟩
  obtain ⟨d, ρ1, g1, f1⟩ := bd_some e
  obtain ⟨q, ρ2, f2, f3⟩ := bd_some f1
  obtain ⟨g2, rfl⟩ := lf_some f2
  cases dctOf_some g2
  cases f3
  exact dct_fz (R := fun a ob kvs H1 => R (Iti a ob kvs) H1) E g1 fun a ob kvs H1 hk _ E1 => k _ _ _ (.trans .lock .push) E1 (it_items hk rfl)
theorem ci_vals (h : CE X e1 ma) (hbase : attributeBase e1 "values" X.env (eval e1 X.env) = eval e1 X.env := by rfl) (hline : (apos.endLine == cpos.line) = true := by rfl) : CI X tg (.Call (.Attribute e1 "values" apos) [] [] cpos) false (mVals ma) := by
  refine ⟨_, pi_values (pe_fz h) hbase hline, fun c σ H ρ ds ρ' R E e k => ?_⟩
  obtain ⟨d, ρ1, g1, f1⟩ := bd_some e
  obtain ⟨q, ρ2, f2, f3⟩ := bd_some f1
  obtain ⟨g2, rfl⟩ := lf_some f2
  cases dctOf_some g2
  cases f3
  exact dct_fz (R := fun a ob kvs H1 => R (Itd a ob kvs) H1) E g1 fun a ob kvs H1 hk _ E1 => k _ _ _ (.trans .lock .push) E1 (it_vals rfl)
theorem ci_keys (h : CE X e1 ma) (hbase : attributeBase e1 "keys" X.env (eval e1 X.env) = eval e1 X.env := by rfl) (hline : (apos.endLine == cpos.line) = true := by rfl) : CI X tg (.Call (.Attribute e1 "keys" apos) [] [] cpos) false (mKeys ma) := by
  refine ⟨_, pi_keysM (pe_fz h) hbase hline, fun c σ H ρ ds ρ' R E e k => ?_⟩
  obtain ⟨d, ρ1, g1, f1⟩ := bd_some e
  obtain ⟨q, ρ2, f2, f3⟩ := bd_some f1
  obtain ⟨g2, rfl⟩ := lf_some f2
  cases dctOf_some g2
  cases f3
  refine dct_fz (R := fun a ob kvs H1 => R (Itk a ob kvs) H1) E g1 fun a ob kvs H1 hk _ E1 => k _ _ _ (.trans .lock .push) E1 ?_
  rw [← hk]
  exact it_keys
/-! ### range -/
def rngD (lo : Int) (n : Nat) : List D := (List.range n).map fun (i : Nat) => .int (lo + (i : Nat))
def rngC (lo c : Int) (n : Nat) : List D := (List.range n).map fun (i : Nat) => .int (lo + (i : Nat) * c)
def inR (k : Int) : Bool := decide (-(2 ^ 62) ≤ k) && decide (k < 2 ^ 62)
theorem inR_ok {k : Int} (h : inR k = true) : -(2 ^ 62) ≤ k ∧ k < 2 ^ 62 := by
  unfold inR at h
  simpa using h
def rng1 : List D → Option (List D)
  | [.int j] => if inR j then some (rngD 0 j.toNat) else none
  | _ => none
def rng2 : List D → Option (List D)
  | [.int i, .int j] => if inR i && inR j then some (rngD i (j - i).toNat) else none
  | _ => none
def rng3 : List D → Option (List D)
  | [.int i, .int j, .int (-1)] => if inR i && inR j then some (rngC i (-1) (i - j).toNat) else none
  | _ => none
def mRng (f : List D → Option (List D)) (m : Mm (List D)) : Mm (List D) := bd m fun xs => lf (f xs)
theorem it_rng {lo : Int} {n : Nat} : ItOk K c' (Itr lo n) false (rngD lo n) := by
  intro c σ H ρ w E i
  unfold rngD
  refine ⟨fun q => show n ≤ i by simpa using q, fun d q => ?_⟩
  rw [List.getElem?_map] at q
  obtain ⟨m, q1, rfl⟩ := Option.map_eq_some_iff.mp q
  obtain ⟨h1, h2⟩ := List.getElem?_eq_some_iff.mp q1
  rw [List.length_range] at h1
  rw [List.getElem_range] at h2
  subst h2
  refine ⟨h1, fun x H' q => ?_⟩
  obtain ⟨rfl, rfl⟩ := q
  exact ⟨E, show Rp K (Xo c σ ρ) _ _ _ from .int⟩
theorem it_rngC {lo s : Int} {n : Nat} : ItOk K c' (Itc lo s n) false (rngC lo s n) := by
  intro c σ H ρ w E i
  unfold rngC
  refine ⟨fun q => show n ≤ i by simpa using q, fun d q => ?_⟩
  rw [List.getElem?_map] at q
  obtain ⟨m, q1, rfl⟩ := Option.map_eq_some_iff.mp q
  obtain ⟨h1, h2⟩ := List.getElem?_eq_some_iff.mp q1
  rw [List.length_range] at h1
  rw [List.getElem_range] at h2
  subst h2
  refine ⟨h1, fun x H' q => ?_⟩
  obtain ⟨rfl, rfl⟩ := q
  exact ⟨E, show Rp K (Xo c σ ρ) _ _ _ from .int⟩
theorem RpL.one (l : RpL K Xx H [d] vs) : ∃ v, vs = [v] ∧ Rp K Xx H d v := by
  obtain ⟨v, ws, rfl, r, l⟩ := l.of_cons
  rw [l.of_nil]
  exact ⟨v, rfl, r⟩
theorem ci_rng1 (hg : Gl X "range") (hm : X.mg "range" = none) (ha : CA X [e1] mi) (hs : starEach [e1] X.env = [(false, eval e1 X.env)] := by rfl) : CI X tg (.Call (.Name "range" np) [e1] [] pos) false (mRng rng1 mi) := by
  refine ⟨_, pi_range1 hg hm ha hs, fun c σ H ρ ds ρ' R E e k => ?_⟩
  obtain ⟨xs, ρ1, g1, f1⟩ := bd_some e
  obtain ⟨g2, rfl⟩ := lf_some f1
  refine ⟨c, ρ, xs, ρ1, E, g1, fun vs H1 E1 l => ?_⟩
  unfold rng1 at g2
  split at g2
  · split at g2 <;> cases g2
    rename_i hr
    obtain ⟨v, rfl, r⟩ := l.one
    rw [r.bo.int]
    exact ⟨_, rfl, (inR_ok hr).1, (inR_ok hr).2, k _ _ c .refl E1 it_rng⟩
  · cases g2
theorem ci_rng2 (hg : Gl X "range") (hm : X.mg "range" = none) (ha : CA X [e1, e2] mi) (hs : starEach [e1, e2] X.env = [(false, eval e1 X.env), (false, eval e2 X.env)] := by rfl) (hs2 : starEach [e2] X.env = [(false, eval e2 X.env)] := by rfl) : CI X tg (.Call (.Name "range" np) [e1, e2] [] pos) false (mRng rng2 mi) := by
  refine ⟨_, pi_range2 hg hm ha hs hs2, fun c σ H ρ ds ρ' R E e k => ?_⟩
  obtain ⟨xs, ρ1, g1, f1⟩ := bd_some e
  obtain ⟨g2, rfl⟩ := lf_some f1
  refine ⟨c, ρ, xs, ρ1, E, g1, fun vs H1 E1 l => ?_⟩
  unfold rng2 at g2
  split at g2
  · split at g2 <;> cases g2
    rename_i hr
    rw [Bool.and_eq_true] at hr
    obtain ⟨v, ws, rfl, r, l⟩ := l.of_cons
    obtain ⟨w, rfl, r2⟩ := l.one
    rw [r.bo.int, r2.bo.int]
    exact ⟨_, _, rfl, ⟨(inR_ok hr.1).1, (inR_ok hr.1).2, inR_ok hr.2⟩, k _ _ c .refl E1 it_rng⟩
  · cases g2
theorem ci_rng3 (hg : Gl X "range") (hm : X.mg "range" = none) (ha : CA X [e1, e2, e3] mi) (hs : starEach [e1, e2, e3] X.env = (false, eval e1 X.env) :: starEach [e2, e3] X.env := by rfl) (hpl : (backTo pos (starEach [e2, e3] X.env)).any (·.1) = false := by rfl) : CI X tg (.Call (.Name "range" np) [e1, e2, e3] [] pos) false (mRng rng3 mi) := by
  refine ⟨_, pi_range3 hg hm ha hs hpl, fun c σ H ρ ds ρ' R E e k => ?_⟩
  obtain ⟨xs, ρ1, g1, f1⟩ := bd_some e
  obtain ⟨g2, rfl⟩ := lf_some f1
  refine ⟨c, ρ, xs, ρ1, E, g1, fun vs H1 E1 l => ?_⟩
  unfold rng3 at g2
  split at g2
  · split at g2 <;> cases g2
    rename_i hr
    rw [Bool.and_eq_true] at hr
    obtain ⟨v, ws, rfl, r, l⟩ := l.of_cons
    obtain ⟨w, us, rfl, r2, l⟩ := l.of_cons
    obtain ⟨u, rfl, r3⟩ := l.one
    rw [r.bo.int, r2.bo.int, r3.bo.int]
    exact ⟨_, _, _, _, rfl, .neg (inR_ok hr.1).1 (inR_ok hr.1).2 (inR_ok hr.2).1 (inR_ok hr.2).2, k _ _ c .refl E1 it_rngC⟩
  · cases g2
/-! ### enumerate, zip, reversed -/
def enumD (k : Nat) : List D → List D
  | [] => []
  | d :: ds => .tup [.int k, d] :: enumD (k + 1) ds
theorem enumD_get : ∀ {ds : List D} {k i : Nat}, (enumD k ds)[i]? = (ds[i]?).map fun d => .tup [.int (k + i : Nat), d]
  | [], _, _ => rfl
  | d :: ds, k, 0 => rfl
  | d :: ds, k, i + 1 => by
    unfold enumD
    rw [List.getElem?_cons_succ, List.getElem?_cons_succ, enumD_get]
    have e : k + 1 + i = k + (i + 1) := by omega
    rw [e]
theorem enumD_len : ∀ {ds : List D} {k : Nat}, (enumD k ds).length = ds.length
  | [], _ => rfl
  | d :: ds, k => by unfold enumD; rw [List.length_cons, List.length_cons, enumD_len]
def lstOf : D → Option (List D)
  | .lst ds => some ds
  | .scr ds => some ds
  | _ => none
theorem lstOf_sq (r : Rp K Xx H d v) (h : lstOf d = some ds) : ∃ a vs, v = .ref a ∧ SqL K H a vs ∧ RpL K Xx H ds vs := by
  cases d with
  | lst es =>
    cases h
    obtain ⟨a, vs, e, t, l⟩ := r.bo.lst
    exact ⟨a, vs, e, .inl t, l⟩
  | scr es =>
    cases h
    obtain ⟨a, vs, e, t, l⟩ := r.bo.scr
    exact ⟨a, vs, e, t.sq, l⟩
  | _ => cases h
def mEnum (m : Mm (List D)) : Mm (List D) := bd m fun xs => match xs with
  | [x] => bd (lf (lstOf x)) fun ds => ret (enumD 0 ds)
  | _ => fun _ => none
theorem it_enum (h : lstOf d = some ds) (he : v = .ref a) : ItOk K (c'.push d v) (Ite K a) true (enumD 0 ds) := by
  intro c σ H ρ w E i
  obtain ⟨a', vs, e, t, l⟩ := lstOf_sq (E.tmp (d, v) (w.tmp _ List.mem_cons_self)) h
  rw [he] at e
  cases e
  refine ⟨fun q => ⟨vs, t, by rw [enumD_len] at q; rw [l.length]; exact q⟩, fun d q => ?_⟩
  rw [enumD_get] at q
  obtain ⟨d2, q1, rfl⟩ := Option.map_eq_some_iff.mp q
  obtain ⟨u, h1, h2⟩ := l.get q1
  refine ⟨⟨vs, u, t, h1⟩, fun x H' q => ?_⟩
  obtain ⟨T, u', rfl, n, rfl, q⟩ := q
  have z := q vs t
  rw [h1] at z
  cases z
  rw [Nat.zero_add]
  exact E.pair n .int h2
theorem ci_enum {elts : List Expr} {kk : Nat} (hg : Gl X "enumerate") (hm : X.mg "enumerate" = none) (ha : CA X [e1] mi) (hs : starEach [e1] X.env = [(false, eval e1 X.env)] := by rfl) : CI X (.Tuple elts kk tpos) (.Call (.Name "enumerate" np) [e1] [] pos) true (mEnum mi) := by
  refine ⟨_, pi_enum hg hm ha hs, fun c σ H ρ ds ρ' R E e k => ?_⟩
  obtain ⟨xs, ρ1, g1, f1⟩ := bd_some e
  split at f1
  · obtain ⟨es, ρ2, f2, f3⟩ := bd_some f1
    obtain ⟨g2, rfl⟩ := lf_some f2
    cases f3
    refine ⟨c, ρ, _, _, E, g1, fun vs H1 E1 l => ?_⟩
    obtain ⟨v, rfl, r⟩ := l.one
    obtain ⟨a, vs, rfl, t, l2⟩ := lstOf_sq r g2
    exact ⟨a, vs, rfl, t, k _ _ (c.push _ _) .push (E1.push r) (it_enum g2 rfl)⟩
  · cases f1
def zipD (ds es : List D) : List D := (ds.zip es).map fun q => .tup [q.1, q.2]
def mZip (m : Mm (List D)) : Mm (List D) := bd m fun xs => match xs with
  | [.tup ds, .tup es] => ret (zipD ds es)
  | [x, y] => bd (lf (lstOf x)) fun ds => bd (lf (lstOf y)) fun es => ret (zipD ds es)
  | _ => fun _ => none
theorem zipD_get {ds es : List D} {d : D} (h : (zipD ds es)[i]? = some d) : ∃ x y, ds[i]? = some x ∧ es[i]? = some y ∧ d = .tup [x, y] := by
  unfold zipD at h
  rw [List.getElem?_map] at h
  obtain ⟨⟨x, y⟩, q1, rfl⟩ := Option.map_eq_some_iff.mp h
  obtain ⟨h1, h2⟩ := List.getElem?_zip_eq_some.mp q1
  exact ⟨x, y, h1, h2, rfl⟩
theorem it_zip {b : Addr} {es : List D} {d' : D} {v' : V} (h : lstOf d = some ds) (h' : lstOf d' = some es) (he : v = .ref a) (he' : v' = .ref b) : ItOk K ((c'.push d v).push d' v') (Itz K a b) true (zipD ds es) := by
  intro c σ H ρ w E i
  obtain ⟨a', vs, e, t, l⟩ := lstOf_sq (E.tmp (d, v) (w.tmp _ (List.mem_cons_of_mem _ List.mem_cons_self))) h
  obtain ⟨b', us, e', t', l'⟩ := lstOf_sq (E.tmp (d', v') (w.tmp _ List.mem_cons_self)) h'
  rw [he] at e
  cases e
  rw [he'] at e'
  cases e'
  refine ⟨fun q => ⟨vs, us, t, t', ?_⟩, fun d q => ?_⟩
  · unfold zipD at q
    rw [List.length_map, List.length_zip] at q
    rw [l.length, l'.length]
    omega
  · obtain ⟨x, y, q1, q2, rfl⟩ := zipD_get q
    obtain ⟨u, h1, h2⟩ := l.get q1
    obtain ⟨u', h3, h4⟩ := l'.get q2
    refine ⟨⟨vs, us, u, u', t, t', h1, h3⟩, fun x H' q => ?_⟩
    obtain ⟨T, w1, w2, rfl, n, rfl, z1, z2⟩ := q
    have z1 := z1 vs t
    rw [h1] at z1
    cases z1
    have z2 := z2 us t'
    rw [h3] at z2
    cases z2
    exact E.pair n h2 h4
theorem it_zipT {b : Addr} {es : List D} {v' : V} (he : v = .ref a) (he' : v' = .ref b) : ItOk K ((c'.push (.tup ds) v).push (.tup es) v') (RZ.ItzT K a b) true (zipD ds es) := by
  intro c σ H ρ w E i
  obtain ⟨a', vs, e, t, l⟩ := (show Rp K _ H (.tup ds) v from E.tmp (_, v) (w.tmp _ (List.mem_cons_of_mem _ List.mem_cons_self))).bo.tup
  obtain ⟨b', us, e', t', l'⟩ := (show Rp K _ H (.tup es) v' from E.tmp (_, v') (w.tmp _ List.mem_cons_self)).bo.tup
  rw [he] at e
  cases e
  rw [he'] at e'
  cases e'
  refine ⟨fun q => ⟨vs, us, t.sq, t'.sq, ?_⟩, fun d q => ?_⟩
  · unfold zipD at q
    rw [List.length_map, List.length_zip] at q
    rw [l.length, l'.length]
    omega
  · obtain ⟨x, y, q1, q2, rfl⟩ := zipD_get q
    obtain ⟨u, h1, h2⟩ := l.get q1
    obtain ⟨u', h3, h4⟩ := l'.get q2
    refine ⟨⟨vs, us, u, u', t.sq, t'.sq, h1, h3⟩, fun x H' q => ?_⟩
    obtain ⟨T, w1, w2, rfl, n, rfl, z1, z2⟩ := q
    have z1 := z1 vs t.sq
    rw [h1] at z1
    cases z1
    have z2 := z2 us t'.sq
    rw [h3] at z2
    cases z2
    exact E.pair n h2 h4
theorem ci_zip {elts : List Expr} {kk : Nat} (hg : Gl X "zip") (hm : X.mg "zip" = none) (ha : CA X [e1, e2] mi) (hs : starEach [e1, e2] X.env = (false, eval e1 X.env) :: starEach [e2] X.env := by rfl) (hpl : (backTo pos (starEach [e2] X.env)).any (·.1) = false := by rfl) : CI X (.Tuple elts kk tpos) (.Call (.Name "zip" np) [e1, e2] [] pos) true (mZip mi) := by
  refine ⟨_, RZ.pi_zipA hg hm ha hs hpl, fun c σ H ρ ds ρ' R E e k => ?_⟩
  obtain ⟨xs, ρ1, g1, f1⟩ := bd_some e
  refine ⟨c, ρ, _, ρ1, E, g1, fun vs H1 E1 l => ?_⟩
  split at f1
  · cases f1
    obtain ⟨v, ws, rfl, r, l⟩ := l.of_cons
    obtain ⟨w, rfl, r2⟩ := l.one
    obtain ⟨a, vs, rfl, t, l2⟩ := r.bo.tup
    obtain ⟨b, us, rfl, t', l2'⟩ := r2.bo.tup
    exact ⟨a, b, vs, us, rfl, .inr ⟨t.sq, t'.sq, k _ _ _ (.trans .push .push) ((E1.push r).push r2) (it_zipT rfl rfl)⟩⟩
  · obtain ⟨es, ρ2, f2, f3⟩ := bd_some f1
    obtain ⟨g2, rfl⟩ := lf_some f2
    obtain ⟨es2, ρ3, f4, f5⟩ := bd_some f3
    obtain ⟨g3, rfl⟩ := lf_some f4
    cases f5
    obtain ⟨v, ws, rfl, r, l⟩ := l.of_cons
    obtain ⟨w, rfl, r2⟩ := l.one
    obtain ⟨a, vs, rfl, t, l2⟩ := lstOf_sq r g2
    obtain ⟨b, us, rfl, t', l2'⟩ := lstOf_sq r2 g3
    exact ⟨a, b, vs, us, rfl, .inl ⟨t, t', k _ _ _ (.trans .push .push) ((E1.push r).push r2) (it_zip g2 g3 rfl rfl)⟩⟩
  · cases f1
def mRev (m : Mm D) : Mm (List D) := bd m fun x => match x with
  | .tup ds => ret ds.reverse
  | .lst ds => ret ds.reverse
  | .scr ds => ret ds.reverse
  | _ => fun _ => none
theorem it_rev (h : lstOf d = some ds) (he : v = .ref a) : ItOk K (c'.push d v) (Itv K a ds.length) false ds.reverse := by
  intro c σ H ρ w E i
  obtain ⟨a', vs, e, t, l⟩ := lstOf_sq (E.tmp (d, v) (w.tmp _ List.mem_cons_self)) h
  rw [he] at e
  cases e
  refine ⟨fun q => by rw [List.length_reverse] at q; exact q, fun d q => ?_⟩
  have hi : i < ds.length := by
    have := (List.getElem?_eq_some_iff.mp q).1
    rw [List.length_reverse] at this
    exact this
  rw [List.getElem?_reverse hi] at q
  obtain ⟨u, h1, h2⟩ := l.get q
  refine ⟨⟨hi, vs, u, t, h1⟩, fun x H' q => ?_⟩
  obtain ⟨rfl, q⟩ := q
  have z := q vs t
  rw [h1] at z
  cases z
  exact ⟨E, h2⟩
theorem it_revT (he : v = .ref a) : ItOk K (c'.push (.tup ds) v) (RT.ItvT K a ds.length) false ds.reverse := by
  intro c σ H ρ w E i
  obtain ⟨a', vs, e, t, l⟩ := (show Rp K _ H (.tup ds) v from E.tmp (_, v) (w.tmp _ List.mem_cons_self)).bo.tup
  rw [he] at e
  cases e
  refine ⟨fun q => by rw [List.length_reverse] at q; exact q, fun d q => ?_⟩
  have hi : i < ds.length := by
    have := (List.getElem?_eq_some_iff.mp q).1
    rw [List.length_reverse] at this
    exact this
  rw [List.getElem?_reverse hi] at q
  obtain ⟨u, h1, h2⟩ := l.get q
  refine ⟨⟨hi, vs, u, t.sq, h1⟩, fun x H' q => ?_⟩
  obtain ⟨rfl, q⟩ := q
  have z := q vs t.sq
  rw [h1] at z
  cases z
  exact ⟨E, h2⟩
theorem ci_rev (hg : Gl X "reversed") (hm : X.mg "reversed" = none) (h : CE X e1 ma) (hs : starEach [e1] X.env = (false, eval e1 X.env) :: starEach [] X.env := by rfl) : CI X tg (.Call (.Name "reversed" np) [e1] [] pos) false (mRev ma) := by
  refine ⟨_, RT.pi_revA hg hm h hs, fun c σ H ρ ds ρ' R E e k => ?_⟩
  obtain ⟨xs, ρ1, g1, f1⟩ := bd_some e
  refine ⟨c, ρ, _, ρ1, E, g1, fun v H1 E1 r => ?_⟩
  split at f1
  · cases f1
    obtain ⟨a, vs, rfl, t, l2⟩ := r.bo.tup
    refine ⟨a, vs, rfl, .inr ⟨t.sq, ?_⟩⟩
    rw [l2.length]
    exact k _ _ _ .push (E1.push r) (it_revT rfl)
  · cases f1
    obtain ⟨a, vs, rfl, t, l2⟩ := lstOf_sq r rfl
    refine ⟨a, vs, rfl, .inl ⟨t, ?_⟩⟩
    rw [l2.length]
    exact k _ _ _ .push (E1.push r) (it_rev rfl rfl)
  · cases f1
    obtain ⟨a, vs, rfl, t, l2⟩ := lstOf_sq r rfl
    refine ⟨a, vs, rfl, .inl ⟨t, ?_⟩⟩
    rw [l2.length]
    exact k _ _ _ .push (E1.push r) (it_rev rfl rfl)
  · cases f1
end
end DL

set_option Elab.async false
set_option linter.all false
set_option maxRecDepth 100000
namespace DL
open PySem PySem.Spec PyProof.Rows L2

section
variable {X : Cx} {K : PySem.W.Frag} {c c' : Fx} {σ σ2 : Sg} {H H' : Hp} {ρ ρ' ρ3 : En} {i j : Nat} {a p : Addr} {o : Ow} {d x y z : D} {v vx vy : V} {Q : VK} {ds : List D} {vs us : List V} {Xx : AP} {Dn : Ends} {ix : List Nat}
variable {tg iter e1 e2 e3 : Expr} {es : List Expr} {oa ob : Opd} {pos np apos cpos p1 tpos : Pos} {nm nx : Str} {bid : String} {ma mb : Mm D} {ta tb : Mm Bool} {st st2 : Stmt} {sts sts2 : List Stmt} {sa sb : Ms} {pr : Bool} {t : Tg} {ts : List Tg} {mi : Mm (List D)}
theorem EK.wk {f : Fl} (w : Wk c' c) (k : EK K c ρ' Dn f) : EK K c' ρ' Dn f := by
  cases f with
  | nx => exact fun σ' H' E => k σ' H' (E.wk w)
  | bk => exact fun σ' H' E => k σ' H' (E.wk w)
  | ct => exact fun σ' H' E => k σ' H' (E.wk w)
  | rv d => exact fun σ' H' v E r => k σ' H' v (E.wk w) (by rw [← w.xo]; exact r)
  | ro o => exact fun σ' H' p E r h1 h2 => k σ' H' p (E.wk w.ex) (by rw [← w.ex.xo]; exact r) (by rw [← w.he]; exact h1) (by rw [← w.x0]; exact h2)
/-! ### for -/
def forF (t : Tg) (b : Ms) : List D → En → Option (Fl × En)
  | [], ρ => some (.nx, ρ)
  | d :: ds, ρ => match asg t d ρ with
    | none => none
    | some ρ1 => match b ρ1 with
      | some (.nx, ρ2) => forF t b ds ρ2
      | some (.ct, ρ2) => forF t b ds ρ2
      | some (.bk, ρ2) => some (.nx, ρ2)
      | some (f, ρ2) => some (f, ρ2)
      | none => none
def mFor (it : Mm (List D)) (t : Tg) (b : Ms) : Ms := fun ρ => match it ρ with
  | some (ds, ρ1) => forF t b ds ρ1
  | none => none
theorem drop_get {α : Type} {l : List α} {i : Nat} {x : α} (h : l[i]? = some x) : l.drop i = x :: l.drop (i + 1) := by
  obtain ⟨h1, rfl⟩ := List.getElem?_eq_some_iff.mp h
  exact List.drop_eq_getElem_cons h1
theorem cs_for (hp : PassesOwn (model X.prog X.w) X.A X.env X.xe) (hc : X.calm = true) (hi : CI X tg iter pr mi) (hg : CG X tg pr t) (hb : CSs X sts sb) (hs : ∀ x, foldedSetIterable iter X.env x = pure x := by intro _; rfl) : CS X (.For tg iter sts [] pos) (mFor mi t sb) := by
  obtain ⟨wi, hpi, hw⟩ := hi
  refine ps_imp (ps_for hp hc hpi hg hb hs) fun Dn σ H q => ?_
  obtain ⟨c, ρ, f, ρ', E, e, k⟩ := q
  unfold mFor at e
  split at e
  · rename_i ds ρ1 w1
    refine hw c σ H ρ ds ρ1 _ E w1 fun J H1 c' wk E1 io => ?_
    refine ⟨fun i m σ H => m = ds.length - i ∧ ∃ ρ, ER X.K c' σ H ρ ∧ forF t sb (ds.drop i) ρ = some (f, ρ'), ⟨ds.length, rfl, ρ1, E1, by rw [List.drop_zero]; exact e⟩, ?_⟩
    rintro i m σ2 H2 ⟨rfl, ρ2, E2, w⟩
    obtain ⟨hst, hgo⟩ := io c' σ2 H2 ρ2 .refl E2 i
    cases hd : ds[i]? with
    | none =>
      have hi := List.getElem?_eq_none_iff.mp hd
      rw [List.drop_eq_nil_of_le hi] at w
      unfold forF at w
      cases w
      exact .inl ⟨hst hi, k _ _ (E2.wk wk)⟩
    | some d =>
      have hi := (List.getElem?_eq_some_iff.mp hd).1
      rw [drop_get hd] at w
      unfold forF at w
      obtain ⟨go, hy⟩ := hgo d hd
      split at w
      · cases w
      · rename_i ρ4 w4
        refine .inr ⟨go, fun σ' H' => ∃ ρ, ER X.K c' σ' H' ρ ∧ forF t sb (ds.drop (i + 1)) ρ = some (f, ρ'), fun σ' H' q => ⟨ds.length - (i + 1), by omega, rfl, q⟩, fun x H3 y => ?_⟩
        obtain ⟨E3, r3⟩ := hy x H3 y
        refine ⟨c', ρ2, d, ρ4, E3, r3, w4, fun σ5 H5 E5 _ => ?_⟩
        split at w
        · rename_i ρ6 w6
          exact ⟨c', ρ4, .nx, ρ6, E5, w6, fun σ' H' E' => ⟨ρ6, E', w⟩⟩
        · rename_i ρ6 w6
          exact ⟨c', ρ4, .ct, ρ6, E5, w6, fun σ' H' E' => ⟨ρ6, E', w⟩⟩
        · rename_i ρ6 w6
          cases w
          exact ⟨c', ρ4, .bk, _, E5, w6, fun σ' H' E' => k _ _ (E'.wk wk)⟩
        · rename_i f2 ρ6 n1 n2 n3 w6
          cases w
          refine ⟨c', ρ4, f, _, E5, w6, ?_⟩
          cases f with
          | nx => exact (n1 rfl).elim
          | ct => exact (n2 rfl).elim
          | bk => exact (n3 rfl).elim
          | rv d => exact EK.wk wk k
          | ro o => exact EK.wk wk k
        · cases w
  · cases e
/-! ### a comprehension's own slots -/
def clr (ix : List Nat) (ρ : En) : En := ρ.zipIdx.map fun q => if q.2 ∈ ix then .no else q.1
theorem clr_len : (clr ix ρ).length = ρ.length := by
  unfold clr
  rw [List.length_map, List.length_zipIdx]
theorem clr_get {s : Sl} : (clr ix ρ)[i]? = some s → s ≠ .no → i ∉ ix ∧ ρ[i]? = some s := by
  intro h hs
  unfold clr at h
  rw [List.getElem?_map, List.getElem?_zipIdx] at h
  cases e : ρ[i]? with
  | none => rw [e] at h; cases h
  | some s' =>
    rw [e] at h
    simp only [Option.map_some, Nat.zero_add, Option.some.injEq] at h
    by_cases hi : i ∈ ix
    · rw [if_pos hi] at h
      exact absurd h.symm hs
    · rw [if_neg hi] at h
      exact ⟨hi, by rw [h]⟩
def dem : List Nat → En → En
  | [], ρ => ρ
  | i :: ix, ρ => match ρ[i]? with
    | some (.ow o) => dem ix (ρ.set i (.va o.d))
    | _ => dem ix ρ
theorem ER.dem (E : ER K c σ H ρ) : ER K c σ H (dem ix ρ) := by
  induction ix generalizing ρ with
  | nil => exact E
  | cons i ix ih =>
    unfold DL.dem
    split
    · rename_i o w
      obtain ⟨a, _, E1, _⟩ := E.demote w
      exact ih E1
    · exact ih E
theorem wipe_get : ∀ {ix : List Nat} {i : Nat}, (wipe σ ix)[i]? = if i ∈ ix then (σ[i]?).map (fun _ => none) else σ[i]?
  | [], i => by unfold wipe; rw [if_neg (by simp)]
  | v :: ix, i => by
    unfold wipe
    by_cases hi : i = v
    · subst hi
      rw [if_pos List.mem_cons_self]
      by_cases hl : i < (wipe σ ix).length
      · rw [List.getElem?_set_self hl]
        rw [wipe_length] at hl
        rw [List.getElem?_eq_getElem hl]
        rfl
      · rw [List.getElem?_eq_none (by simpa using hl)]
        rw [wipe_length] at hl
        rw [List.getElem?_eq_none (by omega)]
        rfl
    · rw [List.getElem?_set_ne (Ne.symm hi), wipe_get]
      by_cases h : i ∈ ix
      · rw [if_pos h, if_pos (List.mem_cons_of_mem _ h)]
      · rw [if_neg h, if_neg (by simp [hi, h])]
theorem wipe_out (h : i ∉ ix) : (wipe σ ix)[i]? = σ[i]? := by rw [wipe_get, if_neg h]
theorem wipe_same {l : List Nat} (h : Same l (wipe σ ix) σ2) (hl : ∀ i ∈ l, i ∈ ix) (hn : σ2.length = σ.length) : wipe σ2 ix = wipe σ ix := by
  apply List.ext_getElem?
  intro i
  rw [wipe_get, wipe_get]
  by_cases hi : i ∈ ix
  · rw [if_pos hi, if_pos hi]
    by_cases hlt : i < σ.length
    · rw [List.getElem?_eq_getElem hlt, List.getElem?_eq_getElem (by omega)]
      rfl
    · rw [List.getElem?_eq_none (by omega), List.getElem?_eq_none (by omega)]
  · rw [if_neg hi, if_neg hi, h i fun z => hi (hl i z), wipe_out hi]
/-- the slots' values kept through -/
def Fx.more (c : Fx) (l : List (D × V)) : Fx := { c with tmp := l ++ c.tmp }
theorem ER.more {l : List (D × V)} (E : ER K c σ H ρ) (h : ∀ q ∈ l, Rp K (Xo c σ ρ) H q.1 q.2) : ER K (c.more l) σ H ρ :=
  ⟨E.len, E.va, E.ow, E.io, E.inj, E.fr, E.fz, E.hd, E.iot, E.x0, fun q hq => by
    rcases List.mem_append.mp hq with hq | hq
    · exact h q hq
    · exact E.tmp q hq, E.jj⟩
theorem ER.saved (E : ER K c σ H ρ) : ∀ ix : List Nat, ∃ l : List (D × V), (∀ i ∈ ix, ∀ d, ρ[i]? = some (.va d) → ∃ v, σ[i]? = some (some v) ∧ (d, v) ∈ l) ∧ ∀ q ∈ l, Rp K (Xo c σ ρ) H q.1 q.2
  | [] => ⟨[], (fun i h => by cases h), (fun q h => by cases h)⟩
  | i :: ix => by
    obtain ⟨l, h1, h2⟩ := ER.saved E ix
    by_cases hv : ∃ d, ρ[i]? = some (.va d)
    · obtain ⟨d, hd⟩ := hv
      obtain ⟨v, e, r⟩ := E.va i d hd
      refine ⟨(d, v) :: l, fun j hj d' hd' => ?_, fun q hq => ?_⟩
      · rcases List.mem_cons.mp hj with z | hj
        · subst z
          rw [hd] at hd'
          cases hd'
          exact ⟨v, e, List.mem_cons_self⟩
        · obtain ⟨v', e', m⟩ := h1 j hj d' hd'
          exact ⟨v', e', List.mem_cons_of_mem _ m⟩
      · rcases List.mem_cons.mp hq with z | hq
        · subst z
          exact r
        · exact h2 q hq
    · refine ⟨l, fun j hj d' hd' => ?_, h2⟩
      rcases List.mem_cons.mp hj with z | hj
      · subst z
        exact absurd ⟨d', hd'⟩ hv
      · exact h1 j hj d' hd'
/-- ρ with the slots ix as they were in ρ0 -/
def svd : Option Sl → Sl
  | some (.va d) => .va d
  | _ => .no
def rst (ix : List Nat) (ρ0 ρ : En) : En := ρ.zipIdx.map fun q => if q.2 ∈ ix then svd ρ0[q.2]? else q.1
theorem rst_len {ρ0 : En} : (rst ix ρ0 ρ).length = ρ.length := by
  unfold rst
  rw [List.length_map, List.length_zipIdx]
theorem rst_get {ρ0 : En} {s : Sl} (h : (rst ix ρ0 ρ)[i]? = some s) (hs : s ≠ .no) : (i ∈ ix ∧ ∃ d, s = .va d ∧ ρ0[i]? = some (.va d)) ∨ (i ∉ ix ∧ ρ[i]? = some s) := by
  unfold rst at h
  rw [List.getElem?_map, List.getElem?_zipIdx] at h
  cases e : ρ[i]? with
  | none => rw [e] at h; cases h
  | some s' =>
    rw [e] at h
    simp only [Option.map_some, Nat.zero_add, Option.some.injEq] at h
    by_cases hi : i ∈ ix
    · rw [if_pos hi] at h
      refine .inl ⟨hi, ?_⟩
      unfold svd at h
      split at h
      · rename_i d w
        exact ⟨d, h.symm, w⟩
      · exact absurd h.symm hs
    · rw [if_neg hi] at h
      exact .inr ⟨hi, by rw [h]⟩
theorem ER.unwipe {ρ0 : En} (E : ER K c (wipe σ ix) H ρ) (hv : ∀ i ∈ ix, ∀ d, ρ0[i]? = some (.va d) → ∃ v, σ[i]? = some (some v) ∧ (d, v) ∈ c.tmp) : ER K c σ H (rst ix ρ0 ρ) ∧ ∀ a, Xo c σ (rst ix ρ0 ρ) a → Xo c (wipe σ ix) ρ a := by
  have ow : ∀ j a, OwnAt σ (rst ix ρ0 ρ) j a → OwnAt (wipe σ ix) ρ j a := fun j a q => by
    obtain ⟨e, o, q⟩ := q
    rcases q with q | q
    · rcases rst_get q (by simp) with ⟨_, d, z, _⟩ | ⟨h1, h2⟩
      · cases z
      · exact ⟨by rw [wipe_out h1]; exact e, o, .inl h2⟩
    · rcases rst_get q (by simp) with ⟨_, d, z, _⟩ | ⟨h1, h2⟩
      · cases z
      · exact ⟨by rw [wipe_out h1]; exact e, o, .inr h2⟩
  have xx : ∀ a, Xo c σ (rst ix ρ0 ρ) a → Xo c (wipe σ ix) ρ a := fun a h => by
    rcases h with h | ⟨j, h⟩
    · exact .inl h
    · exact .inr ⟨j, ow j a h⟩
  refine ⟨⟨by rw [rst_len, ← E.len, wipe_length], fun j d q => ?_, fun j o q => ?_, fun j o q => ?_, fun j k a h1 h2 => E.inj j k a (ow j a h1) (ow k a h2), E.fr, E.fz, E.hd, E.iot, E.x0, fun q hq => (E.tmp q hq).keep xx Kp.refl, E.jj⟩, xx⟩
  · rcases rst_get q (by simp) with ⟨h1, d, z, h2⟩ | ⟨h1, h2⟩
    · cases z
      obtain ⟨v, e, m⟩ := hv j h1 _ h2
      exact ⟨v, e, (E.tmp _ m).keep xx Kp.refl⟩
    · obtain ⟨v, e, r⟩ := E.va j d h2
      rw [wipe_out h1] at e
      exact ⟨v, e, r.keep xx Kp.refl⟩
  · rcases rst_get q (by simp) with ⟨h1, d, z, h2⟩ | ⟨h1, h2⟩
    · cases z
    · obtain ⟨v, e, r, n⟩ := E.ow j o h2
      rw [wipe_out h1] at e
      exact ⟨v, e, r.keep xx Kp.refl fun _ z => z, n⟩
  · rcases rst_get q (by simp) with ⟨h1, d, z, h2⟩ | ⟨h1, h2⟩
    · cases z
    · obtain ⟨v, e, r, n⟩ := E.io j o h2
      rw [wipe_out h1] at e
      exact ⟨v, e, r.keep xx Kp.refl fun _ z => z, n⟩
/-- into the block -/
theorem ER.inBlk (E : ER K c σ H ρ) : ER K c (wipe σ ix) H (clr ix ρ) := E.forget (by rw [wipe_length, clr_len, E.len]) fun i s h hs => by
  obtain ⟨h1, h2⟩ := clr_get h hs
  exact ⟨h2, wipe_out h1⟩
theorem ER.toBlk (E : ER K c σ2 H ρ) (h : wipe σ2 ix = wipe σ ix) : ER K c (wipe σ ix) H (clr ix ρ) := by
  rw [← h]
  exact E.inBlk
/-! ### the new thing at p, held -/
theorem ER.reput {u u' : HO} {h : c.X0 p} (E : ER K (c.hold p u h) σ H ρ) (he : c.He p = none) (hu : (∃ vs, u = .lst vs) ∨ ∃ kvs, u = .dK kvs) (hh : ∀ l ∈ c.hd, l.1 ≠ p) : ER K (c.hold p u' h) σ (upd H p u') ρ := by
  have hp : H p = some u := E.hd (p, u) List.mem_cons_self (fun ps z => by rcases hu with ⟨vs, q⟩ | ⟨vs, q⟩ <;> (rw [show (p, u).2 = u from rfl, q] at z; cases z))
  have kr : Kp (Xo (c.hold p u h) σ ρ) H (upd H p u') := ⟨fun b w _ q n => by
    have hb : b ≠ p := fun z => n (.inl (by rw [z]; exact h))
    rcases q with q | ⟨z, q⟩
    · exact .inl (by rw [upd_ne hb]; exact q)
    · exact .inr ⟨z, by rw [upd_ne hb]; exact q⟩, fun b ob vs q n => by
    have hb : b ≠ p := fun z => n (.inl (by rw [z]; exact h))
    rw [upd_ne hb]
    exact q⟩
  have kn : ∀ b, H b ≠ none → upd H p u' b ≠ none := fun b q z => by
    by_cases hb : b = p
    · subst hb
      rw [upd_same] at z
      cases z
    · rw [upd_ne hb] at z
      exact q z
  refine ⟨E.len, fun i d h => ?_, fun i o q => ?_, fun i o q => ?_, E.inj, fun b w h1 h2 => ?_, fun l hl => ?_, fun l hl nt => ?_, fun b q => kn _ (E.iot b q), fun b q => kn _ (E.x0 b q), fun q hq => (E.tmp q hq).keep (fun _ z => z) kr, E.jj.keep fun b w e n1 n2 => by
    rw [upd_ne]
    · exact e
    · intro z
      rw [z, hp] at e
      rcases hu with ⟨vs, q⟩ | ⟨vs, q⟩
      · exact n1 vs (by rw [← Option.some.inj e, q])
      · exact n2 vs (by rw [← Option.some.inj e, q])⟩
  · obtain ⟨v, e, r⟩ := E.va i d h
    exact ⟨v, e, r.keep (fun _ z => z) kr⟩
  · obtain ⟨b, e, r, n, n2⟩ := E.ow i o q
    exact ⟨b, e, r.keep (fun _ z => z) kr fun w hw => by rw [upd_ne fun z => n (by rw [z]; exact h)]; exact hw, n, n2⟩
  · obtain ⟨b, e, r, n, n2⟩ := E.io i o q
    exact ⟨b, e, r.keep (fun _ z => z) kr fun w hw => by rw [upd_ne fun z => n (by rw [z]; exact h)]; exact hw, n, n2⟩
  · have hb : b ≠ p := fun z => by
      rw [z] at h1
      rw [show (c.hold p u' h).He p = c.He p from rfl, he] at h1
      cases h1
    exact (E.fr b w h1 h2).to (fun z => z) fun u q => by rw [upd_ne hb]; exact q
  · have q := E.fz l hl
    rw [upd_ne]
    · exact q
    · intro z
      rw [z, hp] at q
      rcases hu with ⟨vs, z2⟩ | ⟨vs, z2⟩ <;> (rw [z2] at q; cases q)
  · rcases List.mem_cons.mp hl with z | hl
    · rw [z]
      exact upd_same
    · rw [upd_ne (hh l hl)]
      exact E.hd l (List.mem_cons_of_mem _ hl) nt
theorem ER.acc {u u' : HO} {h : c.X0 p} (E : ER K ((c.hold p u h).pushL ds vs) σ H ρ) (hl : vs.length = ds.length) (he : c.He p = none) (hu : (∃ vs, u = .lst vs) ∨ ∃ kvs, u = .dK kvs) (hh : ∀ l ∈ c.hd, l.1 ≠ p) {es : List D}
    (r : RpL K (Xo c σ ρ) H es us) : ER K ((c.hold p u' h).pushL es us) σ (upd H p u') ρ := by
  obtain ⟨E1, _⟩ := E.popL hl
  have E2 := E1.reput (u' := u') he hu hh
  refine E2.pushL (r.keep (fun _ z => z) ⟨fun b w _ q n => ?_, fun b ob vs q n => ?_⟩)
  · have hb : b ≠ p := fun z => n (.inl (by rw [z]; exact h))
    rcases q with q | ⟨z, q⟩
    · exact .inl (by rw [upd_ne hb]; exact q)
    · exact .inr ⟨z, by rw [upd_ne hb]; exact q⟩
  · have hb : b ≠ p := fun z => n (.inl (by rw [z]; exact h))
    rw [upd_ne hb]
    exact q
/-! ### list comprehensions -/
def CTs (X : Cx) (ifs : List Expr) (m : Mm Bool) : Prop := PTs X ifs (tTm X.K m)
theorem pts_imp {ifs : List Expr} {t t' : TT} (h : PTs X ifs t) (w : ∀ σ H Q, t' σ H Q → t σ H Q) : PTs X ifs t' := ⟨fun pins s σ H Q I q => h.run pins s σ H Q I (w σ H Q q)⟩
theorem cts_nil : CTs X [] (ret true) := pts_imp pts_nil fun σ H Q q => by
  obtain ⟨c, ρ, b, ρ', E, e, k⟩ := q
  cases e
  exact k H E
theorem cts_one (h : CT X e1 ta) : CTs X [e1] ta := pts_one h
mutual
theorem asg_len : ∀ {t : Tg} {d : D} {ρ ρ' : En}, asg t d ρ = some ρ' → ρ'.length = ρ.length
  | .nm i, d, ρ, ρ', h => by
    unfold asg stV at h
    split at h
    · cases h
    · cases h
      rw [List.length_set]
    · cases h
  | .tup ts, .tup ds, ρ, ρ', h => by
    unfold asg at h
    exact asgL_lenE h
  | .tup _, .non, _, _, h => by unfold asg at h; cases h
  | .tup _, .bl _, _, _, h => by unfold asg at h; cases h
  | .tup _, .int _, _, _, h => by unfold asg at h; cases h
  | .tup _, .str _, _, _, h => by unfold asg at h; cases h
  | .tup ts, .lst ds, ρ, ρ', h => by
    unfold asg at h
    exact asgL_lenE h
  | .tup _, .dct _ _, _, _, h => by unfold asg at h; cases h
  | .tup _, .scr _, _, _, h => by unfold asg at h; cases h
theorem asgL_lenE : ∀ {ts : List Tg} {ds : List D} {ρ ρ' : En}, asgL ts ds ρ = some ρ' → ρ'.length = ρ.length
  | [], [], _, _, h => by unfold asgL at h; cases h; rfl
  | [], _ :: _, _, _, h => by unfold asgL at h; cases h
  | _ :: _, [], _, _, h => by unfold asgL at h; cases h
  | t :: ts, d :: ds, ρ, ρ', h => by
    unfold asgL at h
    obtain ⟨ρ1, e1, e2⟩ := Option.bind_eq_some_iff.mp h
    rw [asgL_lenE e2, asg_len e1]
end
def lcF (ix : List Nat) (t : Tg) (tt : Mm Bool) (el : Mm D) : List D → List D → En → Option (List D × En)
  | [], acc, ρ => some (acc, ρ)
  | d :: ds, acc, ρ => match asg t d ρ with
    | none => none
    | some ρ1 => match tt ρ1 with
      | some (true, ρ2) => (match el ρ2 with
        | some (y, ρ3) => if acc.length < 16777216 then lcF ix t tt el ds (acc ++ [y]) (clr ix ρ3) else none
        | none => none)
      | some (false, ρ2) => lcF ix t tt el ds acc (clr ix ρ2)
      | none => none
def mLc (it : Mm (List D)) (ix : List Nat) (t : Tg) (tt : Mm Bool) (el : Mm D) : Mm Ow := fun ρ => match it ρ with
  | some (ds, ρ1) => (match lcF ix t tt el ds [] (clr ix (dem ix ρ1)) with
    | some (acc, ρ2) => some (.lst acc, rst ix (dem ix ρ1) ρ2)
    | none => none)
  | none => none
theorem te_lc {wi : TI} (hw : ∀ c σ H ρ ds ρ' R, ER K c σ H ρ → mi ρ = some (ds, ρ') → (∀ J H1 c', Wk c' c → ER K c' σ H1 ρ' → ItOk K c' J pr ds → R J H1) → wi σ H R) (hl : ∀ i ∈ t.sl, i ∈ ix)
    (q : tO K (mLc mi ix t ta ma) σ H Q) : tLc wi (tGm K pr t) (tTm K ta) (tE K ma) ix σ H Q := by
  obtain ⟨c, ρ, o, ρ', E, e, k⟩ := q
  unfold mLc at e
  split at e
  · rename_i ds ρ1 w1
    split at e
    · rename_i acc ρ2 w2
      cases e
      refine hw c σ H ρ ds ρ1 _ E w1 fun J H1 c' wk E1 io p hp => ?_
      have E2 := E1.dem (ix := ix)
      obtain ⟨l, hsv, hrp⟩ := E2.saved ix
      have nx0 := E2.nx0 hp
      have hen := E2.he_none hp
      have E3 := (E2.more hrp).alloc (u := .lst []) hp
      have h0 : ((c'.more l).ex p).X0 p := .inr rfl
      have E4 := (E3.held (u := .lst []) (h := h0) upd_same).pushL (ds := []) (vs := []) .nil
      have hh : ∀ l2 ∈ ((c'.more l).ex p).hd, l2.1 ≠ p := fun l2 h z => nx0 (by rw [← z]; exact c'.hx l2 h)
      have hwx : ∀ u ad av, Wx ((((c'.more l).ex p).hold p u h0).pushL ad av) c' := fun u ad av => ⟨fun _ z => .inl z, fun q z => List.mem_append_right _ (List.mem_append_right _ z), fun q z => z⟩
      refine ⟨fun i m H => m = ds.length - i ∧ ∃ ad av ρ, av.length = ad.length ∧ ER K ((((c'.more l).ex p).hold p (.lst av) h0).pushL ad av) (wipe σ ix) H ρ ∧ lcF ix t ta ma (ds.drop i) ad ρ = some (acc, ρ2),
        ⟨ds.length, rfl, [], [], _, rfl, E4.inBlk (ix := ix), by rw [List.drop_zero]; exact w2⟩, ?_⟩
      rintro i m H5 ⟨rfl, ad, av, ρ5, hlen, E5, w5⟩
      obtain ⟨hst, hgo⟩ := io _ _ H5 ρ5 (hwx _ ad av) E5 i
      cases hd : ds[i]? with
      | none =>
        have hi := List.getElem?_eq_none_iff.mp hd
        rw [List.drop_eq_nil_of_le hi] at w5
        unfold lcF at w5
        cases w5
        refine .inl ⟨hst hi, ?_⟩
        obtain ⟨E6, l6⟩ := E5.popL hlen
        obtain ⟨E7, xx⟩ := E6.unwipe (ρ0 := dem ix ρ1) fun i hi d h => by
          obtain ⟨v, h1, h2⟩ := hsv i hi d h
          exact ⟨v, h1, List.mem_append_left _ h2⟩
        have hD := E6.hd (p, .lst av) List.mem_cons_self (fun _ z => nomatch z)
        have wk2 : Wk (((c'.more l).ex p).hold p (.lst av) h0) (c.ex p) := .trans .hold (Wk.ex ⟨wk.x0, wk.he, wk.ioa, fun q z => List.mem_append_right _ (wk.tmp q z), wk.fz, wk.hd⟩)
        refine k p H5 (E7.wk wk2) ⟨av, hD, ?_⟩ (by rw [← wk.he]; exact hen) (by rw [← wk.x0]; exact nx0)
        rw [← wk2.xo]
        exact l6.keep xx Kp.refl
      | some d =>
        have hi := (List.getElem?_eq_some_iff.mp hd).1
        rw [drop_get hd] at w5
        unfold lcF at w5
        obtain ⟨go, hy⟩ := hgo d hd
        split at w5
        · cases w5
        · rename_i ρ6 w6
          refine .inr ⟨go, fun H => ∃ ad av ρ, av.length = ad.length ∧ ER K ((((c'.more l).ex p).hold p (.lst av) h0).pushL ad av) (wipe σ ix) H ρ ∧ lcF ix t ta ma (ds.drop (i + 1)) ad ρ = some (acc, ρ2), fun H' q => ⟨ds.length - (i + 1), by omega, rfl, q⟩, fun x H6 y => ?_⟩
          obtain ⟨E6, r6⟩ := hy x H6 y
          refine ⟨_, ρ5, d, ρ6, E6, r6, w6, fun σ7 H7 E7 sm => ?_⟩
          have hw7 : wipe σ7 ix = wipe σ ix := wipe_same sm hl (by rw [E7.len, asg_len w6, ← E6.len, wipe_length])
          refine ⟨hw7, ?_⟩
          split at w5
          · rename_i ρ8 w8
            split at w5
            · rename_i y ρ9 w9
              split at w5
              · rename_i hsz
                refine ⟨_, ρ6, true, ρ8, E7, w8, fun H8 E8 => ?_⟩
                refine iteT ?_
                refine ⟨_, ρ8, y, ρ9, E8, w9, fun vy H9 E9 r9 => ⟨av, ?_, ?_, ad ++ [y], av ++ [vy], clr ix ρ9, ?_, ?_, w5⟩⟩
                · exact (E9.popL hlen).1.hd (p, .lst av) List.mem_cons_self (fun _ z => nomatch z)
                · rw [sizeLine_eq, hlen]
                  exact hsz
                · rw [List.length_append, List.length_append, hlen]
                  rfl
                · exact (E9.acc hlen hen (.inl ⟨_, rfl⟩) hh ((E9.popL hlen).2.app (.cons r9 .nil))).toBlk hw7
              · cases w5
            · cases w5
          · rename_i ρ8 w8
            refine ⟨_, ρ6, false, ρ8, E7, w8, fun H8 E8 => ?_⟩
            refine iteF ?_
            exact ⟨ad, av, clr ix ρ8, hlen, E8.toBlk hw7, w5⟩
          · cases w5
    · cases e
  · cases e
end
end DL

set_option Elab.async false
set_option linter.all false
set_option maxRecDepth 100000
namespace DL
open PySem PySem.Spec PyProof.Rows L2

section
variable {X : Cx} {K : PySem.W.Frag} {c c' : Fx} {σ σ2 : Sg} {H H' : Hp} {ρ ρ' ρ3 : En} {i j : Nat} {a p : Addr} {o : Ow} {d x y z : D} {v vx vy : V} {Q : VK} {ds : List D} {vs us : List V} {Xx : AP} {Dn : Ends} {ix : List Nat}
variable {tg iter e1 e2 e3 : Expr} {es : List Expr} {oa ob : Opd} {pos np apos cpos p1 p2 tpos spos py : Pos} {nm nx ny : Str} {bid : String} {ma mb mk : Mm D} {ta tb : Mm Bool} {st st2 : Stmt} {sts sts2 : List Stmt} {sa sb : Ms} {pr : Bool} {t : Tg} {ts : List Tg} {mi : Mm (List D)}
variable {elt kx : Expr} {ifs : List Expr} {scope : Scope} {own : List (Str × Nat)}
/-- the slots of the target are the block's own -/
def slIn (t : Tg) (ix : List Nat) : Bool := t.sl.all fun i => ix.contains i
theorem slIn_ok (h : slIn t ix = true) : ∀ i ∈ t.sl, i ∈ ix := fun i hi => by
  unfold slIn at h
  rw [List.all_eq_true] at h
  exact List.contains_iff_mem.mp (h i hi)
theorem co_lc (hc : X.calm = true) (hN : X.N.Nodup) (hi : CI X tg iter pr mi) (ok : BlkOk X.N X.env.scope scope own)
    (hg : ∀ (s : Shared) (H : Hp) (C : Addr) (cl : List (Str × Addr)) (fp : List Addr), CG (X.blk s H scope (compEnvC scope cl C X.env) fp) tg pr t) (ht : ∀ (s : Shared) (H : Hp) (C : Addr) (cl : List (Str × Addr)) (fp : List Addr), CTs (X.blk s H scope (compEnvC scope cl C X.env) fp) ifs ta)
    (he : ∀ (s : Shared) (H : Hp) (C : Addr) (cl : List (Str × Addr)) (fp : List Addr), CE (X.blk s H scope (compEnvC scope cl C X.env) fp) elt ma) (hl : slIn t ix = true := by rfl) (hix : own.map (·.2) = ix := by rfl) (hs : ∀ x, foldedSetIterable iter X.env x = pure x := by intro _; rfl) :
    CO X (.ListComp elt [⟨tg, iter, ifs, 0⟩] scope pos) (mLc mi ix t ta ma) := by
  subst hix
  obtain ⟨wi, hpi, hw⟩ := hi
  exact pe_imp (pe_lc (g := tGm X.K pr t) (tt := tTm X.K ta) (te := tE X.K ma) hc hN hpi ok hg ht he hs) fun σ H Q q => te_lc hw (slIn_ok hl) q
theorem cs_setLc {y : Str} (i : Nat) (hc : X.calm = true) (hN : X.N.Nodup) (hi : CI X tg iter pr mi) (ok : BlkOk X.N X.env.scope scope own)
    (hg : ∀ (s : Shared) (H : Hp) (C : Addr) (cl : List (Str × Addr)) (fp : List Addr), CG (X.blk s H scope (compEnvC scope cl C X.env) fp) tg pr t) (ht : ∀ (s : Shared) (H : Hp) (C : Addr) (cl : List (Str × Addr)) (fp : List Addr), CTs (X.blk s H scope (compEnvC scope cl C X.env) fp) ifs ta)
    (he : ∀ (s : Shared) (H : Hp) (C : Addr) (cl : List (Str × Addr)) (fp : List Addr), CE (X.blk s H scope (compEnvC scope cl C X.env) fp) elt ma) (hl : slIn t ix = true := by rfl) (hix : own.map (·.2) = ix := by rfl)
    (hy : X.N[i]? = some y := by rfl) (hyl : X.env.scope.names.lookup y = some .local := by rfl) (hsw : swapsWith (.ListComp elt [⟨tg, iter, ifs, 0⟩] scope pos) (some (.Name y py)) spos.line X.env = pure true := by exact sw_true rfl rfl rfl rfl) (hs : ∀ x, foldedSetIterable iter X.env x = pure x := by intro _; rfl) :
    CS X (.Assign [.Name y py] (.ListComp elt [⟨tg, iter, ifs, 0⟩] scope pos) spos) (mSetO (mLc mi ix t ta ma) i) := by
  subst hix
  obtain ⟨wi, hpi, hw⟩ := hi
  exact ps_imp (ps_setLc (g := tGm X.K pr t) (tt := tTm X.K ta) (te := tE X.K ma) hc hN hy hyl hsw hpi ok hg ht he hs) fun Dn σ H q => tset_o (fun Q q => te_lc hw (slIn_ok hl) q) q
/-! ### dict comprehensions -/
def dcF (ix : List Nat) (t : Tg) (tt : Mm Bool) (mk el : Mm D) : List D → List Key → List D → En → Option ((List Key × List D) × En)
  | [], ks, acc, ρ => some ((ks, acc), ρ)
  | d :: ds, ks, acc, ρ => match asg t d ρ with
    | none => none
    | some ρ1 => match tt ρ1 with
      | some (true, ρ2) => (match mk ρ2 with
        | some (x, ρ3) => (match el ρ3 with
          | some (y, ρ4) => (match keyOf x with
            | some k => if ks.length < 16777216 then dcF ix t tt mk el ds (putKs ks k) (putDs ks acc k y) (clr ix ρ4) else none
            | none => none)
          | none => none)
        | none => none)
      | some (false, ρ2) => dcF ix t tt mk el ds ks acc (clr ix ρ2)
      | none => none
def mDc (it : Mm (List D)) (ix : List Nat) (t : Tg) (tt : Mm Bool) (mk el : Mm D) : Mm Ow := fun ρ => match it ρ with
  | some (ds, ρ1) => (match dcF ix t tt mk el ds [] [] (clr ix (dem ix ρ1)) with
    | some (q, ρ2) => some (.dct q.1 q.2, rst ix (dem ix ρ1) ρ2)
    | none => none)
  | none => none
theorem te_dc {wi : TI} (hw : ∀ c σ H ρ ds ρ' R, ER K c σ H ρ → mi ρ = some (ds, ρ') → (∀ J H1 c', Wk c' c → ER K c' σ H1 ρ' → ItOk K c' J pr ds → R J H1) → wi σ H R) (hl : ∀ i ∈ t.sl, i ∈ ix)
    (q : tO K (mDc mi ix t ta mk ma) σ H Q) : tDc wi (tGm K pr t) (tTm K ta) (tE K mk) (tE K ma) ix σ H Q := by
  obtain ⟨c, ρ, o, ρ', E, e, k⟩ := q
  unfold mDc at e
  split at e
  · rename_i ds ρ1 w1
    split at e
    · rename_i acc ρ2 w2
      cases e
      refine hw c σ H ρ ds ρ1 _ E w1 fun J H1 c' wk E1 io p hp => ?_
      have E2 := E1.dem (ix := ix)
      obtain ⟨l, hsv, hrp⟩ := E2.saved ix
      have nx0 := E2.nx0 hp
      have hen := E2.he_none hp
      have E3 := (E2.more hrp).alloc (u := .dK []) hp
      have h0 : ((c'.more l).ex p).X0 p := .inr rfl
      have E4 := (E3.held (u := .dK []) (h := h0) upd_same).pushL (ds := []) (vs := []) .nil
      have hh : ∀ l2 ∈ ((c'.more l).ex p).hd, l2.1 ≠ p := fun l2 h z => nx0 (by rw [← z]; exact c'.hx l2 h)
      have hwx : ∀ u ad av, Wx ((((c'.more l).ex p).hold p u h0).pushL ad av) c' := fun u ad av => ⟨fun _ z => .inl z, fun q z => List.mem_append_right _ (List.mem_append_right _ z), fun q z => z⟩
      refine ⟨fun i m H => m = ds.length - i ∧ ∃ ks ad kvs ρ, kvs.map (·.1) = ks ∧ (kvs.map (·.2)).length = ad.length ∧ ER K ((((c'.more l).ex p).hold p (.dK kvs) h0).pushL ad (kvs.map (·.2))) (wipe σ ix) H ρ ∧ dcF ix t ta mk ma (ds.drop i) ks ad ρ = some (acc, ρ2),
        ⟨ds.length, rfl, [], [], [], _, rfl, rfl, E4.inBlk (ix := ix), by rw [List.drop_zero]; exact w2⟩, ?_⟩
      rintro i m H5 ⟨rfl, ks, ad, kvs, ρ5, hks, hlen, E5, w5⟩
      obtain ⟨hst, hgo⟩ := io _ _ H5 ρ5 (hwx _ ad _) E5 i
      cases hd : ds[i]? with
      | none =>
        have hi := List.getElem?_eq_none_iff.mp hd
        rw [List.drop_eq_nil_of_le hi] at w5
        unfold dcF at w5
        cases w5
        refine .inl ⟨hst hi, ?_⟩
        obtain ⟨E6, l6⟩ := E5.popL hlen
        obtain ⟨E7, xx⟩ := E6.unwipe (ρ0 := dem ix ρ1) fun i hi d h => by
          obtain ⟨v, h1, h2⟩ := hsv i hi d h
          exact ⟨v, h1, List.mem_append_left _ h2⟩
        have hD := E6.hd (p, .dK kvs) List.mem_cons_self (fun _ z => nomatch z)
        have wk2 : Wk (((c'.more l).ex p).hold p (.dK kvs) h0) (c.ex p) := .trans .hold (Wk.ex ⟨wk.x0, wk.he, wk.ioa, fun q z => List.mem_append_right _ (wk.tmp q z), wk.fz, wk.hd⟩)
        refine k p H5 (E7.wk wk2) ⟨kvs, hD, hks, ?_⟩ (by rw [← wk.he]; exact hen) (by rw [← wk.x0]; exact nx0)
        rw [← wk2.xo]
        exact l6.keep xx Kp.refl
      | some d =>
        have hi := (List.getElem?_eq_some_iff.mp hd).1
        rw [drop_get hd] at w5
        unfold dcF at w5
        obtain ⟨go, hy⟩ := hgo d hd
        split at w5
        · cases w5
        · rename_i ρ6 w6
          refine .inr ⟨go, fun H => ∃ ks ad kvs ρ, kvs.map (·.1) = ks ∧ (kvs.map (·.2)).length = ad.length ∧ ER K ((((c'.more l).ex p).hold p (.dK kvs) h0).pushL ad (kvs.map (·.2))) (wipe σ ix) H ρ ∧ dcF ix t ta mk ma (ds.drop (i + 1)) ks ad ρ = some (acc, ρ2), fun H' q => ⟨ds.length - (i + 1), by omega, rfl, q⟩, fun x H6 y => ?_⟩
          obtain ⟨E6, r6⟩ := hy x H6 y
          refine ⟨_, ρ5, d, ρ6, E6, r6, w6, fun σ7 H7 E7 sm => ?_⟩
          have hw7 : wipe σ7 ix = wipe σ ix := wipe_same sm hl (by rw [E7.len, asg_len w6, ← E6.len, wipe_length])
          refine ⟨hw7, ?_⟩
          split at w5
          · rename_i ρ8 w8
            split at w5
            · rename_i xk ρ9 w9
              split at w5
              · rename_i y ρ10 w10
                split at w5
                · rename_i key hkey
                  split at w5
                  · rename_i hsz
                    refine ⟨_, ρ6, true, ρ8, E7, w8, fun H8 E8 => iteT ?_⟩
                    refine ⟨_, ρ8, xk, ρ9, E8, w9, fun vk H9 E9 r9 => ⟨_, ρ9, y, ρ10, E9.push r9, w10, fun vy H10 E10 r10 => ?_⟩⟩
                    obtain ⟨E11, r11⟩ := E10.pop
                    obtain ⟨E12, l12⟩ := E11.popL hlen
                    obtain ⟨pk, pd⟩ := put_ok (k := key) l12 r10
                    refine ⟨kvs, key, Rp.key r11.bo hkey, E12.hd (p, .dK kvs) List.mem_cons_self (fun _ z => nomatch z), ?_, _, _, putK kvs key vy, clr ix ρ10, pk, pd.length, ?_, ?_⟩
                    · rw [sizeLine_eq, length_putK2 hks]
                      exact hsz
                    · exact (E11.acc hlen hen (.inr ⟨_, rfl⟩) hh pd).toBlk hw7
                    · rw [hks]
                      exact w5
                  · cases w5
                · cases w5
              · cases w5
            · cases w5
          · rename_i ρ8 w8
            refine ⟨_, ρ6, false, ρ8, E7, w8, fun H8 E8 => ?_⟩
            refine iteF ?_
            exact ⟨ks, ad, kvs, clr ix ρ8, hks, hlen, E8.toBlk hw7, w5⟩
          · cases w5
    · cases e
  · cases e
theorem co_dc (hc : X.calm = true) (hN : X.N.Nodup) (hi : CI X tg iter pr mi) (ok : BlkOk X.N X.env.scope scope own)
    (hg : ∀ (s : Shared) (H : Hp) (C : Addr) (cl : List (Str × Addr)) (fp : List Addr), CG (X.blk s H scope (compEnvC scope cl C X.env) fp) tg pr t) (ht : ∀ (s : Shared) (H : Hp) (C : Addr) (cl : List (Str × Addr)) (fp : List Addr), CTs (X.blk s H scope (compEnvC scope cl C X.env) fp) ifs ta)
    (hk : ∀ (s : Shared) (H : Hp) (C : Addr) (cl : List (Str × Addr)) (fp : List Addr), CE (X.blk s H scope (compEnvC scope cl C X.env) fp) kx mk)
    (he : ∀ (s : Shared) (H : Hp) (C : Addr) (cl : List (Str × Addr)) (fp : List Addr), CE (X.blk s H scope (compEnvC scope cl C X.env) fp) elt ma) (hl : slIn t ix = true := by rfl) (hix : own.map (·.2) = ix := by rfl) (hs : ∀ x, foldedSetIterable iter X.env x = pure x := by intro _; rfl) :
    CO X (.DictComp kx elt [⟨tg, iter, ifs, 0⟩] scope pos) (mDc mi ix t ta mk ma) := by
  subst hix
  obtain ⟨wi, hpi, hw⟩ := hi
  exact pe_imp (pe_dc (g := tGm X.K pr t) (tt := tTm X.K ta) (tk := tE X.K mk) (tv := tE X.K ma) hc hN hpi ok hg ht hk he hs) fun σ H Q q => te_dc hw (slIn_ok hl) q
theorem sw_trueD {elt kx : Expr} {gs : List Comprehension} {scope : Scope} {pos py : Pos} {y : Str} {l : Nat} {env : Env} (hk : env.scope.kind = .function) (hy : env.scope.names.lookup y = some .local) (hl : (py.line == pos.line) = true)
    (ha : (scope.names.any fun (n, k) => n == y && (k == .local || k == .cell)) = false) : swapsWith (.DictComp kx elt gs scope pos) (some (.Name y py)) l env = pure true := by
  have ky : env.kindOf y = some .local := hy
  have hb : env.blockKind = .function := by unfold Env.blockKind; rw [hk]; rfl
  unfold swapsWith
  simp only [hb, ky, ha, Expr.pos, hl]
  rfl
theorem cs_setDc {y : Str} (i : Nat) (hc : X.calm = true) (hN : X.N.Nodup) (hi : CI X tg iter pr mi) (ok : BlkOk X.N X.env.scope scope own)
    (hg : ∀ (s : Shared) (H : Hp) (C : Addr) (cl : List (Str × Addr)) (fp : List Addr), CG (X.blk s H scope (compEnvC scope cl C X.env) fp) tg pr t) (ht : ∀ (s : Shared) (H : Hp) (C : Addr) (cl : List (Str × Addr)) (fp : List Addr), CTs (X.blk s H scope (compEnvC scope cl C X.env) fp) ifs ta)
    (hk : ∀ (s : Shared) (H : Hp) (C : Addr) (cl : List (Str × Addr)) (fp : List Addr), CE (X.blk s H scope (compEnvC scope cl C X.env) fp) kx mk)
    (he : ∀ (s : Shared) (H : Hp) (C : Addr) (cl : List (Str × Addr)) (fp : List Addr), CE (X.blk s H scope (compEnvC scope cl C X.env) fp) elt ma) (hl : slIn t ix = true := by rfl) (hix : own.map (·.2) = ix := by rfl)
    (hy : X.N[i]? = some y := by rfl) (hyl : X.env.scope.names.lookup y = some .local := by rfl) (hsw : swapsWith (.DictComp kx elt [⟨tg, iter, ifs, 0⟩] scope pos) (some (.Name y py)) spos.line X.env = pure true := by exact sw_trueD rfl rfl rfl rfl) (hs : ∀ x, foldedSetIterable iter X.env x = pure x := by intro _; rfl) :
    CS X (.Assign [.Name y py] (.DictComp kx elt [⟨tg, iter, ifs, 0⟩] scope pos) spos) (mSetO (mDc mi ix t ta mk ma) i) := by
  subst hix
  obtain ⟨wi, hpi, hw⟩ := hi
  refine ps_imp (t := tAsg (tDc wi (tGm X.K pr t) (tTm X.K ta) (tE X.K mk) (tE X.K ma) (own.map (·.2))) (gName i)) ?_ fun Dn σ H q => tset_o (fun Q q => te_dc hw (slIn_ok hl) q) q
  refine ⟨fun pins s σ H D I h => ?_⟩
  rw [exec_Assign_Name_used _ _ _ _ hsw]
  refine wpAny_bind (wpAny_standAt (wpAny_bind ?_))
  show wpAny _ X.A (do let _ ← comprehension (.DictComp kx elt [⟨tg, iter, ifs, 0⟩] scope pos) scope X.env (firstIterPos [⟨tg, iter, ifs, 0⟩] pos) newDict false (eval iter X.env) (some (assign (.Name y py) X.env))) _ _ s
  have h : tDc wi (tGm X.K pr t) (tTm X.K ta) (tE X.K mk) (tE X.K ma) (own.map (·.2)) σ H (fun x H1 => gName i x σ H1 D.nx) := h
  refine wpAny_bind (thn (dc_core (g := tGm X.K pr t) (tt := tTm X.K ta) (tk := tE X.K mk) (tv := tE X.K ma) (Qf := fun _ s' => SP X pins D .next s') hc hN I hpi ok hg ht hk he hs h fun L C s' m H' I' q hn f => ?_) fun _ s' hq => wpAny_pure (wpAny_pure hq))
  show wpAny _ _ (assign (.Name y py) X.env (.ref L)) _ _ _
  refine wpAny_assign_Name (store_ok2 (v := V.ref L) I' hN hy (.inl hyl) rfl (fun s2 I2 ⟨a, sb, ha⟩ => ?_) (.inr hyl))
  obtain ⟨f0, f1, f2, f3, f4, f5⟩ := f
  have haC : C ≠ a := by
    rcases ha with z | z
    · rw [z]; exact f1
    · exact fun e => f4 y a z e.symm
  refine ⟨m, hn.sameBut sb haC, fun h3 sb3 => ?_⟩
  exact ⟨_, H', I2.turned (t' := s2.toks) (fun b o hb e => (sb3.2 b hb).trans e) f0 f1 f3 f4 f5, q⟩
/-! ### name[k] op= e -/
theorem get_list : PGet X (fun x y H Q => ∃ a xs i v, x = .ref a ∧ y = .int i ∧ SqL X.K H a xs ∧ atI xs i = some v ∧ Q v H) := by
  intro pins s σ H x y v u Q I rx ry h
  obtain ⟨p, xs, i, z, rfl, rfl, hq, he, q⟩ := h
  cases rx
  obtain ⟨t, rfl⟩ := ry
  obtain ⟨its, r, pl, hz⟩ := I.list hq
  obtain ⟨j, h1, h2, h3, h4, h5⟩ := atI_get he
  obtain ⟨w, ew, rw'⟩ := r.get h2
  have hl := r.length
  have hn := line63
  have fin : EP X pins σ Q w s := ⟨z, H, I, rw', q⟩
  by_cases h0 : 0 ≤ i
  · have hj : i.toNat = j := by
      rw [seqIndex_of h0 h5] at h1
      exact Option.some.inj h1
    exact wpAny_getItem_list pl.isList h0 (by omega) (by rw [hj]; simpa using ew) fin
  · have hj : (i + (its.toArray.size : Int)).toNat = j := by
      rw [seqIndex_neg (by omega) h4] at h1
      rw [List.size_toArray, ← hl]
      exact Option.some.inj h1
    exact wpAny_getItem_list_neg pl.isList (by omega) (by rw [List.size_toArray] <;> omega) (by omega) (by rw [hj]; simpa using ew) fin
theorem get_dict (hu : X.A.units + 1 < cLine) : PGet X (fun x y H Q => ∃ a v, x = .ref a ∧ DGet H a y (some v) ∧ Q v H) := by
  intro pins s σ H x y v u Q I rx ry h
  obtain ⟨a, w, rfl, g, q⟩ := h
  obtain rfl : v = Value.ref a := rx
  exact d_getItem hu I g ry fun w' s3 I3 rw' => ⟨w, H, I3, rw', q⟩
theorem get_any (hu : X.A.units + 1 < cLine) : PGet X (fun x y H Q => (∃ a xs i v, x = .ref a ∧ y = .int i ∧ SqL X.K H a xs ∧ atI xs i = some v ∧ Q v H) ∨ ∃ a v, x = .ref a ∧ DGet H a y (some v) ∧ Q v H) := by
  intro pins s σ H x y v u Q I rx ry h
  exact h.elim (get_list pins s σ H x y v u Q I rx ry) (get_dict hu pins s σ H x y v u Q I rx ry)
theorem own_get {QQ : V → Prop} (ho : OwAt K Xx H a o) (rk : Rp K Xx H y vy) (h : dIx o.d y = some z) (q : ∀ v, Rp K Xx H z v → QQ v) :
    (∃ p xs i v, V.ref a = .ref p ∧ vy = .int i ∧ SqL K H p xs ∧ atI xs i = some v ∧ QQ v) ∨ ∃ b v, V.ref a = .ref b ∧ DGet H b vy (some v) ∧ QQ v := by
  cases o with
  | lst ds =>
    obtain ⟨vs, h1, l⟩ := ho
    cases y with
    | int i =>
      obtain ⟨v, e, r⟩ := l.at_ (show dAt ds i = some z from h)
      rw [rk.bo.int]
      exact .inl ⟨a, vs, i, v, rfl, rfl, .inl (.inl h1), e, q v r⟩
    | _ => cases h
  | dct ks ds =>
    obtain ⟨kvs, h1, e3, l⟩ := ho
    have h : (keyOf y).bind (fun k => lk ks ds k) = some z := by
      cases y <;> exact h
    obtain ⟨k, e1, e2⟩ := Option.bind_eq_some_iff.mp h
    rw [← e3] at e2
    obtain ⟨v, e4, r⟩ := lk_val l e2
    exact .inr ⟨a, v, rfl, .inl ⟨kvs, k, .inl h1, Rp.key rk.bo e1, e4.symm⟩, q v r⟩
/-- the name, the place, what stands there, e, the store -/
def mAugIx (i : Nat) (mk : Mm D) (m : Mm D) (f : D → D → Option D) : Ms := fun ρ => match getO i ρ with
  | some _ => match mk ρ with
    | some (k, ρ1) => match getO i ρ1 with
      | some o1 => match dIx o1.d k with
        | some x => match m ρ1 with
          | some (y, ρ2) => match f x y with
            | some z => match getO i ρ2 with
              | some o => match setO o k z with
                | some o2 => some (.nx, putO i o2 ρ2)
                | none => none
              | none => none
            | none => none
          | none => none
        | none => none
      | none => none
    | none => none
  | none => none
theorem cs_augIx {op : Operator} {g : D → D → Option D} (i : Nat) (hu : X.A.units + 1 < cLine) (hk : CE X e2 mk) (h : CE X e1 ma) (hp : HasP X op g) (hN : X.N[i]? = some nx := by rfl) (hv : Vis X.env.scope nx := by first | exact Or.inl rfl | exact Or.inr (Or.inl rfl) | exact Or.inr (Or.inr rfl))
    (hd : (nx == ("__debug__" : Str)) = false := by decide) (hcd : (nx == ("__classdict__" : Str)) = false := by decide)
    (ha : ∀ ov iv new, augStore e2 ov iv new = (do holding [new, ov, iv] (setItem ov iv new); release [new, ov, iv] []; pure .next) := by intros; rfl) :
    CS X (.AugAssign (.Subscript (.Name nx p1) e2 p2) op e1 pos) (mAugIx i mk ma g) := by
  obtain ⟨r, po, w⟩ := hp
  refine ps_imp (ps_augS (pe_var (i := i) hN hv hd hcd) hk (get_any hu) h po (set_any hu) ha) fun Dn σ H q => ?_
  obtain ⟨c, ρ, f, ρ', E, e, k⟩ := q
  unfold mAugIx at e
  split at e
  · rename_i o0 w0
    split at e
    · rename_i kd ρ1 w1
      split at e
      · rename_i o1 w2
        split at e
        · rename_i x w3
          split at e
          · rename_i y ρ2 w4
            split at e
            · rename_i z w5
              split at e
              · rename_i o w6
                split at e
                · rename_i o2 w7
                  cases e
                  obtain ⟨a, own0, _⟩ := getO_own E w0
                  refine ⟨.ref a, own0.1, c, ρ, kd, ρ1, E, w1, fun vk H1 E1 rk => ?_⟩
                  obtain ⟨a1, own1, ho1⟩ := getO_own E1 w2
                  have ea := own_eq own0 own1
                  subst ea
                  have fin : ∀ vx, Rp X.K (Xo c σ ρ1) H1 x vx → tE X.K ma σ H1 fun y H4 => r vx y H4 fun z H5 => rSetL (.ref a1) vk z H5 (fun H6 => Dn.nx σ H6) ∨ ∃ b H6, V.ref a1 = .ref b ∧ DPut H5 b vk z H6 ∧ Dn.nx σ H6 := fun vx rx =>
                    ⟨(c.push kd vk).push x vx, ρ1, y, ρ2, (E1.push rk).push rx, w4, fun vy H4 E4 ry => w (c.push kd vk) σ H4 ρ2 x y z vx vy _ E4.pop.1 E4.pop.2.bo ry.bo w5 fun vz H5 E5 rz => by
                      obtain ⟨E6, rk6⟩ := E5.pop
                      obtain ⟨a2, own2, ho2⟩ := getO_own E6 w6
                      have ea := own_eq own0 own2
                      subst ea
                      exact setO_ok E6 own2 ho2 rk6 rz w7 fun H' E' => k σ H' E'⟩
                  exact own_get ho1 rk w3 fin
                · cases e
              · cases e
            · cases e
          · cases e
        · cases e
      · cases e
    · cases e
  · cases e
end
end DL

set_option Elab.async false
set_option linter.all false
set_option maxRecDepth 100000
namespace DL
open PySem PySem.Spec PyProof.Rows L2

section
variable {X : Cx} {K : PySem.W.Frag} {c c' : Fx} {σ σ2 : Sg} {H H' : Hp} {ρ ρ' ρ3 : En} {i j : Nat} {a p : Addr} {o : Ow} {d x y z : D} {v vx vy : V} {Q : VK} {ds : List D} {vs us : List V} {Xx : AP} {Dn : Ends} {ix : List Nat}
variable {tg iter e1 e2 e3 : Expr} {es : List Expr} {oa ob : Opd} {pos np apos cpos p1 p2 tpos spos py kpos : Pos} {nm nx ny : Str} {bid : String} {ma mb mk : Mm D} {ta tb : Mm Bool} {st st2 : Stmt} {sts sts2 : List Stmt} {sa sb : Ms} {pr : Bool} {t : Tg} {ts : List Tg} {mi : Mm (List D)}
/-! ### the slots behind a change of the heap -/
theorem ER.move (E : ER K c σ H ρ) (hl : ρ'.length = ρ.length) (hv : ∀ (j : Nat) (d : D), ρ'[j]? = some (.va d) → ρ[j]? = some (.va d))
    (how : ∀ (j : Nat) (o : Ow), ρ'[j]? = some (.ow o) → (∃ o0, ρ[j]? = some (.ow o0)) ∧ ∀ a, σ[j]? = some (some (.ref a)) → OwAt K (Xo c σ ρ) H' a o)
    (hio : ∀ (j : Nat) (o : Ow), ρ'[j]? = some (.io o) → (∃ o0, ρ[j]? = some (.io o0)) ∧ ∀ a, σ[j]? = some (some (.ref a)) → OwAt K (Xo c σ ρ) H' a o)
    (kr : Kp (Xo c σ ρ) H H') (fr : ∀ b o, c.He b = some o → c.ioa ≠ some b → Still c.X0 b o H') (fz : ∀ l ∈ c.fz, H' l.1 = some (.frz l.2.1 (.dK l.2.2))) (hd : ∀ l ∈ c.hd, (∀ ps, l.2 ≠ .tbl ps) → H' l.1 = some l.2)
    (kn : ∀ b, H b ≠ none → H' b ≠ none) (jj : JK K H') : ER K c σ H' ρ' := by
  have ow : ∀ j a, OwnAt σ ρ' j a → OwnAt σ ρ j a := fun j a q => by
    obtain ⟨e, o, q⟩ := q
    rcases q with q | q
    · obtain ⟨⟨o0, h⟩, _⟩ := how j o q
      exact ⟨e, o0, .inl h⟩
    · obtain ⟨⟨o0, h⟩, _⟩ := hio j o q
      exact ⟨e, o0, .inr h⟩
  have xx : ∀ a, Xo c σ ρ' a → Xo c σ ρ a := fun a h => by
    rcases h with h | ⟨j, h⟩
    · exact .inl h
    · exact .inr ⟨j, ow j a h⟩
  refine ⟨by rw [hl]; exact E.len, fun j d q => ?_, fun j o q => ?_, fun j o q => ?_, fun j k a h1 h2 => E.inj j k a (ow j a h1) (ow k a h2), fr, fz, hd, fun b h => kn _ (E.iot b h), fun b h => kn _ (E.x0 b h), fun q hq => (E.tmp q hq).keep xx kr, jj⟩
  · obtain ⟨v, e, r⟩ := E.va j d (hv j d q)
    exact ⟨v, e, r.keep xx kr⟩
  · obtain ⟨⟨o0, h⟩, g⟩ := how j o q
    obtain ⟨a, e, _, n⟩ := E.ow j o0 h
    exact ⟨a, e, (g a e).keep xx Kp.refl (fun _ z => z), n⟩
  · obtain ⟨⟨o0, h⟩, g⟩ := hio j o q
    obtain ⟨a, e, _, n⟩ := E.io j o0 h
    exact ⟨a, e, (g a e).keep xx Kp.refl (fun _ z => z), n⟩
/-- what a callee leaves: all that stood, but the in-out thing; what the caller shuts out to the letter -/
def Aft (Xx : AP) (ioa : Option Addr) (H H' : Hp) : Prop := ∀ b o, H b = some o → ioa ≠ some b → Still (fun a => Xx a ∧ ioa ≠ some a) b o H'
theorem OwAt.notbl {o : Ow} {u : HO} (h : OwAt K Xx H a o) (e : H a = some u) : ∀ ps, u ≠ .tbl ps := fun ps z => by
  subst z
  cases o with
  | lst ds => obtain ⟨_, e2, _⟩ := h; rw [e] at e2; cases e2
  | dct ks ds => obtain ⟨_, e2, _⟩ := h; rw [e] at e2; cases e2
theorem Aft.exact {ioa : Option Addr} (f : Aft Xx ioa H H') {b : Addr} {u : HO} (h : H b = some u) (x : Xx b) (n : ioa ≠ some b) (nt : ∀ ps, u ≠ .tbl ps) : H' b = some u := by
  rcases f b u h n with q | ⟨q, _⟩ | ⟨ps, _, q, _⟩
  · exact q
  · exact absurd ⟨x, n⟩ q
  · exact absurd q (nt ps)
theorem Aft.kp {ioa : Option Addr} (f : Aft Xx ioa H H') (hx : ∀ a, ioa = some a → Xx a) : Kp Xx H H' := by
  refine ⟨fun b u pl q n => ?_, fun b ob vs q n => ?_⟩
  · have hn : ioa ≠ some b := fun z => n (hx b z)
    rcases q with q | ⟨w, q⟩
    · rcases f b u q hn with q2 | ⟨_, ob, kvs, e, q2⟩ | ⟨ps, _, e, _⟩
      · exact .inl q2
      · subst e
        exact .inr ⟨ob, q2⟩
      · exact absurd e (pl.2 ps)
    · rcases f b _ q hn with q | ⟨_, ob, kvs, e, _⟩ | ⟨ps, _, e, _⟩
      · exact .inr ⟨w, q⟩
      · cases e
      · cases e
  · rcases f b _ q (fun z => n (hx b z)) with q | ⟨_, ob, kvs, e, _⟩ | ⟨ps, _, e, _⟩
    · exact q
    · cases e
    · cases e
theorem Aft.there {ioa : Option Addr} (f : Aft Xx ioa H H') (hi : ∀ a, ioa = some a → H' a ≠ none) : ∀ b, H b ≠ none → H' b ≠ none := fun b h => by
  by_cases hb : ioa = some b
  · exact hi b hb
  · cases e : H b with
    | none => exact absurd e h
    | some u => exact (f b u e hb).there
/-- nothing handed to be changed -/
theorem ER.aft (E : ER K c σ H ρ) (f : Aft (Xo c σ ρ) none H H') (jj : JK K H') : ER K c σ H' ρ := by
  have hx : ∀ a, none = some a → Xo c σ ρ a := fun a z => by cases z
  have kr := f.kp hx
  refine E.move rfl (fun j d h => h) (fun j o h => ⟨⟨o, h⟩, fun a ha => ?_⟩) (fun j o h => ⟨⟨o, h⟩, fun a ha => ?_⟩) kr (fun b o h1 h2 => ?_) (fun l hl => ?_) (fun l hl nt => f.exact (E.hd l hl nt) (.inl (c.hx l hl)) (by simp) nt) (f.there fun a z => by cases z) jj
  · obtain ⟨b, e, r, _⟩ := E.ow j o h
    rw [ha] at e
    cases e
    exact r.keep (fun _ z => z) kr fun u hu => f.exact hu (.inr ⟨j, ha, o, .inl h⟩) (by simp) (r.notbl hu)
  · obtain ⟨b, e, r, _⟩ := E.io j o h
    rw [ha] at e
    cases e
    exact r.keep (fun _ z => z) kr fun u hu => f.exact hu (.inr ⟨j, ha, o, .inr h⟩) (by simp) (r.notbl hu)
  · rcases E.fr b o h1 h2 with q | ⟨n, ob, kvs, e, q⟩ | ⟨ps, ps', e, q⟩
    · exact (f b o q (by simp)).to (fun z => ⟨.inl z, (by simp)⟩) fun _ z => z
    · rcases f b _ q (by simp) with q | ⟨_, ob', kvs', z, _⟩ | ⟨_, _, z, _⟩
      · exact .inr (.inl ⟨n, ob, kvs, e, q⟩)
      · cases z
      · cases z
    · rcases f b _ q (by simp) with q | ⟨_, ob', kvs', z, _⟩ | ⟨_, ps2, _, q2⟩
      · exact .inr (.inr ⟨ps, _, e, q⟩)
      · cases z
      · exact .inr (.inr ⟨ps, _, e, q2⟩)
  · rcases f l.1 _ (E.fz l hl) (by simp) with q | ⟨_, ob', kvs', z, _⟩ | ⟨_, _, z, _⟩
    · exact q
    · cases z
    · cases z
/-- the thing of slot i handed to be changed -/
theorem ER.aftIo (E : ER K c σ H ρ) (own : OwnAt σ ρ i a) (f : Aft (Xo c σ ρ) (some a) H H') (ho : OwAt K (Xo c σ ρ) H' a o) (jj : JK K H') : ER K c σ H' (putO i o ρ) := by
  have hx : ∀ b, some a = some b → Xo c σ ρ b := fun b z => by cases z; exact .inr ⟨i, own⟩
  have kr := f.kp hx
  have nx : ¬ c.X0 a := (E.own own).choose_spec.2.2
  have hne : ∀ j o2 b, (ρ[j]? = some (.ow o2) ∨ ρ[j]? = some (.io o2)) → σ[j]? = some (some (.ref b)) → j ≠ i → some a ≠ some b := fun j o2 b h hs hj z => by
    cases z
    exact hj (E.inj j i a ⟨hs, o2, h⟩ own)
  have hi : i < ρ.length := by
    obtain ⟨_, o2, h | h⟩ := own <;> exact (List.getElem?_eq_some_iff.mp h).1
  have hdich : ((ρ.getD i .no).put o = .ow o ∧ ∃ o0, ρ[i]? = some (.ow o0)) ∨ ((ρ.getD i .no).put o = .io o ∧ ∃ o0, ρ[i]? = some (.io o0)) := by
    rw [List.getD_eq_getElem?_getD]
    obtain ⟨_, o2, h | h⟩ := own
    · exact .inl ⟨by rw [h]; rfl, o2, h⟩
    · exact .inr ⟨by rw [h]; rfl, o2, h⟩
  unfold putO
  refine E.move (by rw [List.length_set]) (fun j d h => ?_) (fun j o2 h => ?_) (fun j o2 h => ?_) kr (fun b o h1 h2 => ?_) (fun l hl => ?_) (fun l hl nt => f.exact (E.hd l hl nt) (.inl (c.hx l hl)) (fun z => nx (by cases z; exact c.hx l hl)) nt) (f.there fun b z => by cases z; exact ho.there) jj
  · by_cases hj : j = i
    · subst hj
      rw [get_set_eq hi] at h
      rcases hdich with ⟨z, _⟩ | ⟨z, _⟩ <;> (rw [z] at h; cases h)
    · rw [get_set_ne hj] at h
      exact h
  · by_cases hj : j = i
    · subst hj
      rw [get_set_eq hi] at h
      rcases hdich with ⟨z, z2⟩ | ⟨z, z2⟩
      · rw [z] at h
        cases h
        refine ⟨z2, fun b hb => ?_⟩
        rw [own.1] at hb
        cases hb
        exact ho
      · rw [z] at h
        cases h
    · rw [get_set_ne hj] at h
      refine ⟨⟨o2, h⟩, fun b hb => ?_⟩
      obtain ⟨b', e, r, _⟩ := E.ow j o2 h
      rw [hb] at e
      cases e
      exact r.keep (fun _ z => z) kr fun u hu => f.exact hu (.inr ⟨j, hb, o2, .inl h⟩) (hne j o2 b (.inl h) hb hj) (r.notbl hu)
  · by_cases hj : j = i
    · subst hj
      rw [get_set_eq hi] at h
      rcases hdich with ⟨z, z2⟩ | ⟨z, z2⟩
      · rw [z] at h
        cases h
      · rw [z] at h
        cases h
        refine ⟨z2, fun b hb => ?_⟩
        rw [own.1] at hb
        cases hb
        exact ho
    · rw [get_set_ne hj] at h
      refine ⟨⟨o2, h⟩, fun b hb => ?_⟩
      obtain ⟨b', e, r, _⟩ := E.io j o2 h
      rw [hb] at e
      cases e
      exact r.keep (fun _ z => z) kr fun u hu => f.exact hu (.inr ⟨j, hb, o2, .inr h⟩) (hne j o2 b (.inr h) hb hj) (r.notbl hu)
  · have hb : some a ≠ some b := fun z => by
      cases z
      obtain ⟨e, o2, h | h⟩ := own
      · obtain ⟨b', e', _, _, n2⟩ := E.ow i o2 h
        rw [e] at e'
        cases e'
        rw [n2] at h1
        cases h1
      · obtain ⟨b', e', _, _, n2⟩ := E.io i o2 h
        rw [e] at e'
        cases e'
        exact h2 n2
    rcases E.fr b o h1 h2 with q | ⟨n, ob, kvs, e, q⟩ | ⟨ps, ps', e, q⟩
    · exact (f b o q hb).to (fun z => ⟨.inl z, hb⟩) fun _ z => z
    · rcases f b _ q hb with q | ⟨_, ob', kvs', z, _⟩ | ⟨_, _, z, _⟩
      · exact .inr (.inl ⟨n, ob, kvs, e, q⟩)
      · cases z
      · cases z
    · rcases f b _ q hb with q | ⟨_, ob', kvs', z, _⟩ | ⟨_, ps2, _, q2⟩
      · exact .inr (.inr ⟨ps, _, e, q⟩)
      · cases z
      · exact .inr (.inr ⟨ps, _, e, q2⟩)
  · have hb : some a ≠ some l.1 := fun z => by
      cases z
      obtain ⟨o2, _, r, _⟩ := E.own own
      have q := E.fz l hl
      cases o2 with
      | lst ds => obtain ⟨_, e, _⟩ := r; rw [q] at e; cases e
      | dct ks ds => obtain ⟨_, e, _⟩ := r; rw [q] at e; cases e
    rcases f l.1 _ (E.fz l hl) hb with q | ⟨_, ob', kvs', z, _⟩ | ⟨_, _, z, _⟩
    · exact q
    · cases z
    · cases z
/-! ### what a def promises -/
inductive Rs where
  | va (d : D)
  | ow (o : Ow)
abbrev Fm := List Sl → Option (Rs × Option Ow)
def Sh (X0 : AP) (ioa : Option Addr) : AP := fun b => X0 b ∨ ioa = some b
structure PRep (K : PySem.W.Frag) (X0 : AP) (ioa : Option Addr) (H : Hp) (ps : List Sl) (vs : List V) : Prop where
  len : vs.length = ps.length
  va : ∀ (i : Nat) (d : D), ps[i]? = some (.va d) → ∃ v, vs[i]? = some v ∧ Rp K (Sh X0 ioa) H d v
  io : ∀ (i : Nat) (o : Ow), ps[i]? = some (.io o) → ∃ a, vs[i]? = some (.ref a) ∧ ioa = some a ∧ OwAt K (Sh X0 ioa) H a o ∧ ¬ X0 a
  ow : ∀ (i : Nat) (o : Ow), ps[i]? ≠ some (.ow o)
  one : ∀ (i j : Nat) (o o' : Ow), ps[i]? = some (.io o) → ps[j]? = some (.io o') → i = j
  ioa : ∀ a, ioa = some a → ∃ (i : Nat) (o : Ow), ps[i]? = some (.io o)
def Post (K : PySem.W.Frag) (X0 : AP) (ioa : Option Addr) (H : Hp) (oo : Option Ow) (Q : VK) : Rs → Prop
  | .va d => ∀ H' v, (∀ b o, H b = some o → ioa ≠ some b → Still X0 b o H') → (∀ a, ioa = some a → ∃ o', oo = some o' ∧ OwAt K (Sh X0 ioa) H' a o') → Rp K (Sh X0 ioa) H' d v → JK K H' → Q v H'
  | .ow o => ∀ H' p, (∀ b o, H b = some o → ioa ≠ some b → Still X0 b o H') → (∀ a, ioa = some a → ∃ o', oo = some o' ∧ OwAt K (fun b => Sh X0 ioa b ∨ b = p) H' a o') → H p = none → OwAt K (fun b => Sh X0 ioa b ∨ b = p) H' p o → JK K H' → Q (.ref p) H'
def spM (K : PySem.W.Frag) (n : Nat) (fm : Fm) : Sp := fun vs H Q _ => vs.length = n ∧ ∃ X0 ioa ps r oo, PRep K X0 ioa H ps vs ∧ (∀ a, X0 a → H a ≠ none) ∧ JK K H ∧ fm ps = some (r, oo) ∧ Post K X0 ioa H oo Q r
def ioIx : List Sl → Option Nat
  | [] => none
  | .io _ :: _ => some 0
  | _ :: ps => (ioIx ps).map (· + 1)
theorem ioIx_some : ∀ {ps : List Sl} {i : Nat}, ioIx ps = some i → ∃ o, ps[i]? = some (.io o)
  | [], _, h => by cases h
  | .io o :: _, _, h => by cases h; exact ⟨o, rfl⟩
  | .no :: ps, i, h => by
    unfold ioIx at h
    obtain ⟨j, h1, rfl⟩ := Option.map_eq_some_iff.mp h
    obtain ⟨o, h2⟩ := ioIx_some h1
    exact ⟨o, by simpa using h2⟩
  | .va _ :: ps, i, h => by
    unfold ioIx at h
    obtain ⟨j, h1, rfl⟩ := Option.map_eq_some_iff.mp h
    obtain ⟨o, h2⟩ := ioIx_some h1
    exact ⟨o, by simpa using h2⟩
  | .ow _ :: ps, i, h => by
    unfold ioIx at h
    obtain ⟨j, h1, rfl⟩ := Option.map_eq_some_iff.mp h
    obtain ⟨o, h2⟩ := ioIx_some h1
    exact ⟨o, by simpa using h2⟩
theorem ioIx_none : ∀ {ps : List Sl}, ioIx ps = none → ∀ (i : Nat) (o : Ow), ps[i]? ≠ some (.io o)
  | [], _, i, o, z => by simp at z
  | .io _ :: _, h, _, _, _ => by cases h
  | .no :: ps, h, i, o, z => by
    unfold ioIx at h
    have h := Option.map_eq_none_iff.mp h
    cases i with
    | zero => simp at z
    | succ i => exact ioIx_none h i o (by simpa using z)
  | .va _ :: ps, h, i, o, z => by
    unfold ioIx at h
    have h := Option.map_eq_none_iff.mp h
    cases i with
    | zero => simp at z
    | succ i => exact ioIx_none h i o (by simpa using z)
  | .ow _ :: ps, h, i, o, z => by
    unfold ioIx at h
    have h := Option.map_eq_none_iff.mp h
    cases i with
    | zero => simp at z
    | succ i => exact ioIx_none h i o (by simpa using z)
def ioOut (ps : List Sl) (ρ : En) (r : Rs) : Option (Rs × Option Ow) := match ioIx ps with
  | none => some (r, none)
  | some i => match ρ[i]? with
    | some (.io o) => some (r, some o)
    | _ => none
theorem ioOut_io {ps : List Sl} {r r' : Rs} {oo : Option Ow} {X0 : AP} {ioa : Option Addr} {vs : List V} {H0 : Hp} (P : PRep K X0 ioa H0 ps vs) (h : ioOut ps ρ r = some (r', oo)) : r' = r ∧ ∀ a, ioa = some a → ∃ (i : Nat) (o' : Ow), oo = some o' ∧ ρ[i]? = some (Sl.io o') := by
  unfold ioOut at h
  split at h
  · rename_i w
    cases h
    refine ⟨rfl, fun a ha => ?_⟩
    obtain ⟨i, o, h1⟩ := P.ioa a ha
    exact absurd h1 (ioIx_none w i o)
  · rename_i i w
    split at h
    · rename_i o w2
      cases h
      exact ⟨rfl, fun a ha => ⟨i, o, rfl, w2⟩⟩
    · cases h
def runF (n : Nat) (b : Ms) : Fm := fun ps => match b (ps ++ List.replicate (n - ps.length) .no) with
  | some (.nx, ρ) => ioOut ps ρ (.va .non)
  | some (.rv d, ρ) => ioOut ps ρ (.va d)
  | some (.ro o, ρ) => ioOut ps ρ (.ow o)
  | _ => none
def fx0 (X0 : AP) (H : Hp) (ioa : Option Addr) : Fx := ⟨X0, H, ioa, [], [], [], fun l h => by cases h⟩
theorem get_app_no {ps : List Sl} {n : Nat} {s : Sl} (h : (ps ++ List.replicate n .no)[i]? = some s) (hs : s ≠ .no) : ps[i]? = some s := by
  by_cases hi : i < ps.length
  · rw [List.getElem?_append_left hi] at h
    exact h
  · rw [List.getElem?_append_right (by omega), List.getElem?_replicate] at h
    split at h
    · cases h
      exact absurd rfl hs
    · cases h
theorem start_get {N : List Str} {vs : List V} {v : V} (h : vs[i]? = some v) : (L2.start N vs)[i]? = some (some v) := by
  have hi := (List.getElem?_eq_some_iff.mp h).1
  unfold L2.start
  rw [List.getElem?_append_left (by rw [List.length_map]; exact hi), List.getElem?_map, h]
  rfl
theorem er_start {N : List Str} {X0 : AP} {ioa : Option Addr} {ps : List Sl} (P : PRep K X0 ioa H ps vs) (hx : ∀ a, X0 a → H a ≠ none) (jj : JK K H) : ER K (fx0 X0 H ioa) (L2.start N vs) H (ps ++ List.replicate (N.length - ps.length) .no) := by
  have own : ∀ j a, OwnAt (L2.start N vs) (ps ++ List.replicate (N.length - ps.length) .no) j a → ioa = some a ∧ ∃ o, ps[j]? = some (.io o) := fun j a h => by
    obtain ⟨e, o, h⟩ := h
    rcases h with h | h
    · exact absurd (get_app_no h (by simp)) (P.ow j o)
    · have h := get_app_no h (by simp)
      obtain ⟨b, e2, h2, _⟩ := P.io j o h
      rw [start_get e2] at e
      cases e
      exact ⟨h2, o, h⟩
  have xx : ∀ a, Xo (fx0 X0 H ioa) (L2.start N vs) (ps ++ List.replicate (N.length - ps.length) .no) a → Sh X0 ioa a := fun a h => by
    rcases h with h | ⟨j, h⟩
    · exact .inl h
    · exact .inr (own j a h).1
  refine ⟨?_, fun j d h => ?_, fun j o h => ?_, fun j o h => ?_, fun j k a h1 h2 => ?_, fun b o h1 h2 => .inl h1, (fun l h => by cases h), (fun l h => by cases h), fun a h => ?_, hx, (fun q h => by cases h), jj⟩
  · unfold L2.start
    rw [List.length_append, List.length_append, List.length_map, List.length_replicate, List.length_replicate, P.len]
  · obtain ⟨v, e, r⟩ := P.va j d (get_app_no h (by simp))
    exact ⟨v, start_get e, r.keep xx Kp.refl⟩
  · exact absurd (get_app_no h (by simp)) (P.ow j o)
  · obtain ⟨b, e, h2, r, n⟩ := P.io j o (get_app_no h (by simp))
    exact ⟨b, start_get e, r.keep xx Kp.refl (fun _ z => z), n, h2⟩
  · obtain ⟨_, o, g⟩ := own j a h1
    obtain ⟨_, o', g'⟩ := own k a h2
    exact P.one j k o o' g g'
  · have h : ioa = some a := h
    obtain ⟨i, o, g⟩ := P.ioa a h
    obtain ⟨b, _, e, r, _⟩ := P.io i o g
    rw [h] at e
    cases e
    exact r.there
theorem io_of {X0 : AP} {H0 : Hp} {ioa : Option Addr} (E : ER K (fx0 X0 H0 ioa) σ H' ρ) (h : ρ[i]? = some (.io o)) : ∃ a, ioa = some a ∧ OwnAt σ ρ i a ∧ OwAt K (Xo (fx0 X0 H0 ioa) σ ρ) H' a o := by
  obtain ⟨a, e, r, _, n⟩ := E.io i o h
  exact ⟨a, n, ⟨e, o, .inr h⟩, r⟩
theorem fnC {P : Program} {w : World} {mg : Str → Option Value} {base : Heap} {x qual : Str} {params : Arguments} {body : List Stmt} {scope : Scope} {f : Addr} {fd : FuncData} {N ps : List Str} {k : Nat} {m : Ms}
    {dvs : List V} {kwd : List (Str × V)} (F : FunD K x qual params body scope dvs kwd f fd) (S : FnScope N ps scope)
    (hb : ∀ (cdv : Value), fd.code = cdv → PySem.W.codeIn K cdv qual = true → ∀ (A : Around) (outer : List Env) (s : Shared) (H : Hp) (E : XK), Room k (A.deeper (envOfC qual scope s.heap.objs.size f cdv)) → CSs (cxOf CX0 P w K mg base N qual scope f cdv A outer s H E).nox body m) :
    FnOk P w K mg base CX0 (k + 1) f fd ps (spM K ps.length (runF N.length m)) := by
  obtain ⟨oc, od, dV, kV, doc, pm, an, cdv, ct, osl, rfl, lk, hcd, _, _⟩ := F.ex
  refine fn_of lk hcd S (fun vs H Q E h => h.1) fun A outer s H vs Q E hr h => ⟨_, PSs.nox (hb cdv rfl hcd A outer s H E hr), ?_⟩
  obtain ⟨hn, X0, ioa, qs, r, oo, P, hx, hj, hm, post⟩ := h
  have E0 := er_start (N := N) P hx hj
  have shX : ∀ {σ' : Sg} {H' : Hp} {ρ' : En} {i : Nat} {a : Addr} {o' : Ow}, ER K (fx0 X0 H ioa) σ' H' ρ' → (∀ a, ioa = some a → ∃ (i : Nat) (o' : Ow), oo = some o' ∧ ρ'[i]? = some (Sl.io o')) → ∀ b, Sh X0 ioa b → Xo (fx0 X0 H ioa) σ' ρ' b := fun {σ' H' ρ' i a o'} E hio b hb => by
    rcases hb with hb | hb
    · exact .inl hb
    · obtain ⟨i, o', _, h2⟩ := hio b hb
      obtain ⟨a, e, own, _⟩ := io_of E h2
      rw [hb] at e
      cases e
      exact .inr ⟨i, own⟩
  have fin : ∀ {d : D} {ρ' : En}, ioOut qs ρ' (.va d) = some (r, oo) → ∀ σ' H' v, ER K (fx0 X0 H ioa) σ' H' ρ' → Rp K (Xo (fx0 X0 H ioa) σ' ρ') H' d v → Q v H' := fun {d ρ'} ho σ' H' v E' rv => by
    obtain ⟨rfl, hio⟩ := ioOut_io P ho
    refine post H' v E'.fr (fun a ha => ?_) (rv.keep (shX (i := 0) (a := 0) (o' := .lst []) E' hio) Kp.refl) E'.jj
    obtain ⟨i, o', h1, h2⟩ := hio a ha
    obtain ⟨b, e, own, ro⟩ := io_of E' h2
    rw [ha] at e
    cases e
    exact ⟨o', h1, ro.keep (shX (i := 0) (a := 0) (o' := .lst []) E' hio) Kp.refl (fun _ z => z)⟩
  unfold runF at hm
  split at hm
  · rename_i ρ' w1
    exact ⟨_, _, .nx, ρ', E0, w1, fun σ' H' E' => fin hm σ' H' .non E' .non⟩
  · rename_i d ρ' w1
    exact ⟨_, _, .rv d, ρ', E0, w1, fun σ' H' v E' rv => fin hm σ' H' v E' rv⟩
  · rename_i o ρ' w1
    obtain ⟨rfl, hio⟩ := ioOut_io P hm
    refine ⟨_, _, .ro o, ρ', E0, w1, fun σ' H' p E' ho np nx => ?_⟩
    have E2 := E'.unex
    have sh : ∀ b, (Sh X0 ioa b ∨ b = p) → Xo ((fx0 X0 H ioa).ex p) σ' ρ' b := fun b hb => by
      rcases hb with hb | hb
      · exact (shX (i := 0) (a := 0) (o' := .lst []) E2 hio b hb).ex
      · exact .inl (.inr hb)
    refine post H' p E2.fr (fun a ha => ?_) np (ho.keep sh Kp.refl fun _ z => z) E2.jj
    obtain ⟨i, o', h1, h2⟩ := hio a ha
    obtain ⟨b, e, ro, _, n⟩ := E'.io i o' h2
    have n : ioa = some b := n
    rw [ha] at n
    cases n
    exact ⟨o', h1, ro.keep sh Kp.refl fun _ z => z⟩
  · cases hm
theorem fnM {P : Program} {w : World} {mg : Str → Option Value} {base : Heap} {x qual : Str} {params : Arguments} {body : List Stmt} {scope : Scope} {f : Addr} {fd : FuncData} {N ps : List Str} {k : Nat} {m : Ms}
    {dvs : List V} {kwd : List (Str × V)} (F : FunD K x qual params body scope dvs kwd f fd) (S : FnScope N ps scope)
    (hb : ∀ (cdv : Value) (A : Around) (outer : List Env) (s : Shared) (H : Hp) (E : XK), Room k (A.deeper (envOfC qual scope s.heap.objs.size f cdv)) → CSs (cxOf CX0 P w K mg base N qual scope f cdv A outer s H E).nox body m) :
    FnOk P w K mg base CX0 (k + 1) f fd ps (spM K ps.length (runF N.length m)) :=
  fnC F S fun cdv _ _ => hb cdv
end
end DL

set_option Elab.async false
set_option linter.all false
set_option maxRecDepth 100000
namespace DL
open PySem PySem.Spec PyProof.Rows L2

section
variable {X : Cx} {K : PySem.W.Frag} {c c' : Fx} {σ σ2 : Sg} {H H' : Hp} {ρ ρ' ρ3 : En} {i j : Nat} {a p : Addr} {o : Ow} {d x y z : D} {v vx vy : V} {Q : VK} {ds : List D} {vs us : List V} {Xx : AP} {Dn : Ends} {ix : List Nat}
variable {e1 e2 e3 : Expr} {es : List Expr} {pos np apos cpos p1 p2 tpos spos py kpos : Pos} {nm nx ny : Str} {bid : String} {ma mb mk : Mm D} {kws : List Keyword} {kn : Option Str}
/-- an argument: a value, or the own thing of a slot, to be changed -/
inductive Ar where
  | v (m : Mm D)
  | o (i : Nat)
abbrev Sm := Sum D Nat
def aR : List Ar → Mm (List Sm)
  | [] => ret []
  | .v m :: as => bd m fun x => bd (aR as) fun xs => ret (.inl x :: xs)
  | .o i :: as => fun ρ => match getO i ρ with
    | some _ => bd (aR as) (fun xs => ret (.inr i :: xs)) ρ
    | none => none
def ArL (K : PySem.W.Frag) (Xx : AP) (H : Hp) (σ : Sg) : List Sm → List V → Prop
  | [], vs => vs = []
  | .inl d :: xs, vs => ∃ v ws, vs = v :: ws ∧ Rp K Xx H d v ∧ ArL K Xx H σ xs ws
  | .inr i :: xs, vs => ∃ v ws, vs = v :: ws ∧ σ[i]? = some (some v) ∧ ArL K Xx H σ xs ws
def tAr (K : PySem.W.Frag) (as : List Ar) : TA := fun σ H Q => ∃ c ρ xs ρ', ER K c σ H ρ ∧ aR as ρ = some (xs, ρ') ∧ ∀ vs H', ER K c σ H' ρ' → ArL K (Xo c σ ρ') H' σ xs vs → Q vs H'
def CR (X : Cx) (es : List Expr) (as : List Ar) : Prop := PA X es (tAr X.K as)
def CK (X : Cx) (kws : List Keyword) (as : List Ar) : Prop := PK X kws (tAr X.K as)
theorem pk_imp {t t' : TA} (h : PK X kws t) (w : ∀ σ H Q, t' σ H Q → t σ H Q) : PK X kws t' := ⟨fun pos pins s σ H Q I q => h.run pos pins s σ H Q I (w σ H Q q)⟩
theorem tar_nil {Q : List V → Hp → Prop} (q : tAr K [] σ H Q) : tNil σ H Q := by
  obtain ⟨c, ρ, xs, ρ', E, e, k⟩ := q
  cases e
  exact k [] H E rfl
theorem tar_v {as : List Ar} {Q : List V → Hp → Prop} (q : tAr K (.v ma :: as) σ H Q) : tCons (tE K ma) (tAr K as) σ H Q := by
  obtain ⟨c, ρ, xs, ρ', E, e, k⟩ := q
  unfold aR at e
  obtain ⟨x, ρ1, e1, f1⟩ := bd_some e
  obtain ⟨ys, ρ2, e2, f2⟩ := bd_some f1
  cases f2
  exact ⟨c, ρ, x, ρ1, E, e1, fun v H1 E1 r => ⟨c.push x v, ρ1, ys, _, E1.push r, e2, fun ws H2 E2 l => k _ _ E2.pop.1 ⟨v, ws, rfl, E2.pop.2, l⟩⟩⟩
theorem tar_o {as : List Ar} {Q : List V → Hp → Prop} (q : tAr K (.o i :: as) σ H Q) : tCons (tVar i) (tAr K as) σ H Q := by
  obtain ⟨c, ρ, xs, ρ', E, e, k⟩ := q
  unfold aR at e
  split at e
  · rename_i o w
    obtain ⟨a, own, _⟩ := getO_own E w
    obtain ⟨ys, ρ2, e2, f2⟩ := bd_some e
    cases f2
    exact ⟨_, own.1, c, ρ, ys, _, E, e2, fun ws H2 E2 l => k _ _ E2 ⟨_, ws, rfl, own.1, l⟩⟩
  · cases e
theorem cr_nil : CR X [] [] := pa_imp pa_nil fun _ _ _ => tar_nil
theorem cr_v {as : List Ar} (h : CE X e1 ma) (h2 : CR X es as) (hs : starEach (e1 :: es) X.env = (false, eval e1 X.env) :: starEach es X.env := by rfl) : CR X (e1 :: es) (.v ma :: as) := pa_imp (pa_cons h h2 hs) fun _ _ _ => tar_v
theorem cr_o {as : List Ar} (i : Nat) (h2 : CR X es as) (hN : X.N[i]? = some nx := by rfl) (hv : Vis X.env.scope nx := by first | exact Or.inl rfl | exact Or.inr (Or.inl rfl) | exact Or.inr (Or.inr rfl))
    (hd : (nx == ("__debug__" : Str)) = false := by decide) (hcd : (nx == ("__classdict__" : Str)) = false := by decide)
    (hs : starEach (.Name nx pos :: es) X.env = (false, eval (.Name nx pos) X.env) :: starEach es X.env := by rfl) : CR X (.Name nx pos :: es) (.o i :: as) := pa_imp (pa_cons (pe_var (i := i) hN hv hd hcd) h2 hs) fun _ _ _ => tar_o
theorem ck_nil : CK X [] [] := pk_imp pk_nil fun _ _ _ => tar_nil
theorem ck_v {as : List Ar} (h : CE X e1 ma) (h2 : CK X kws as) : CK X (⟨kn, e1, kpos⟩ :: kws) (.v ma :: as) := pk_imp (pk_cons h h2) fun _ _ _ => tar_v
theorem ck_o {as : List Ar} (i : Nat) (h2 : CK X kws as) (hN : X.N[i]? = some nx := by rfl) (hv : Vis X.env.scope nx := by first | exact Or.inl rfl | exact Or.inr (Or.inl rfl) | exact Or.inr (Or.inr rfl))
    (hd : (nx == ("__debug__" : Str)) = false := by decide) (hcd : (nx == ("__classdict__" : Str)) = false := by decide) : CK X (⟨kn, .Name nx pos, kpos⟩ :: kws) (.o i :: as) := pk_imp (pk_cons (pe_var (i := i) hN hv hd hcd) h2) fun _ _ _ => tar_o
theorem ArL.length : ∀ {xs : List Sm} {vs : List V}, ArL K Xx H σ xs vs → vs.length = xs.length
  | [], vs, h => by rw [show vs = [] from h]; rfl
  | .inl d :: xs, vs, h => by
    obtain ⟨v, ws, rfl, _, h⟩ := h
    rw [List.length_cons, List.length_cons, ArL.length h]
  | .inr d :: xs, vs, h => by
    obtain ⟨v, ws, rfl, _, h⟩ := h
    rw [List.length_cons, List.length_cons, ArL.length h]
theorem ArL.getL : ∀ {xs : List Sm} {vs : List V} {i : Nat} {d : D}, ArL K Xx H σ xs vs → xs[i]? = some (.inl d) → ∃ v, vs[i]? = some v ∧ Rp K Xx H d v
  | [], _, _, _, _, e => by simp at e
  | .inl d :: xs, vs, 0, d', h, e => by
    obtain ⟨v, ws, rfl, r, _⟩ := h
    have e : d = d' := by simpa using e
    exact ⟨v, rfl, e ▸ r⟩
  | .inr d :: xs, vs, 0, d', h, e => by simp at e
  | .inl d :: xs, vs, i + 1, d', h, e => by
    obtain ⟨v, ws, rfl, _, h⟩ := h
    obtain ⟨u, h1, h2⟩ := ArL.getL (i := i) h (by simpa using e)
    exact ⟨u, by simpa using h1, h2⟩
  | .inr d :: xs, vs, i + 1, d', h, e => by
    obtain ⟨v, ws, rfl, _, h⟩ := h
    obtain ⟨u, h1, h2⟩ := ArL.getL (i := i) h (by simpa using e)
    exact ⟨u, by simpa using h1, h2⟩
theorem ArL.getR : ∀ {xs : List Sm} {vs : List V} {i : Nat} {d : Nat}, ArL K Xx H σ xs vs → xs[i]? = some (.inr d) → ∃ v, vs[i]? = some v ∧ σ[d]? = some (some v)
  | [], _, _, _, _, e => by simp at e
  | .inr d :: xs, vs, 0, d', h, e => by
    obtain ⟨v, ws, rfl, r, _⟩ := h
    have e : d = d' := by simpa using e
    exact ⟨v, rfl, e ▸ r⟩
  | .inl d :: xs, vs, 0, d', h, e => by simp at e
  | .inl d :: xs, vs, i + 1, d', h, e => by
    obtain ⟨v, ws, rfl, _, h⟩ := h
    obtain ⟨u, h1, h2⟩ := ArL.getR (i := i) h (by simpa using e)
    exact ⟨u, by simpa using h1, h2⟩
  | .inr d :: xs, vs, i + 1, d', h, e => by
    obtain ⟨v, ws, rfl, _, h⟩ := h
    obtain ⟨u, h1, h2⟩ := ArL.getR (i := i) h (by simpa using e)
    exact ⟨u, by simpa using h1, h2⟩
/-! ### the call -/
def fill1 (ρ : En) : Sm → Option Sl
  | .inl d => some (.va d)
  | .inr i => (getO i ρ).map .io
def ioS : List Sm → Option Nat
  | [] => none
  | .inr i :: _ => some i
  | .inl _ :: xs => ioS xs
/-- at most one thing is handed over -/
def ioOne : List Sm → Bool
  | [] => true
  | .inr _ :: xs => (ioS xs).isNone
  | .inl _ :: xs => ioOne xs
def putIo (xs : List Sm) (oo : Option Ow) (ρ : En) : Option En := match ioS xs, oo with
  | none, _ => some ρ
  | some i, some o => some (putO i o ρ)
  | some _, none => none
def callF (n : Nat) (fm : Fm) (xs : List Sm) : En → Option (Rs × En) := fun ρ => if ioOne xs = true ∧ xs.length = n then match xs.mapM (fill1 ρ) with
  | some ps => match fm ps with
    | some (r, oo) => (putIo xs oo ρ).map fun ρ' => (r, ρ')
    | none => none
  | none => none else none
theorem mapM_get {α β : Type} {f : α → Option β} : ∀ {l : List α} {r : List β}, l.mapM f = some r → r.length = l.length ∧ ∀ (i : Nat) (b : β), r[i]? = some b → ∃ a, l[i]? = some a ∧ f a = some b
  | [], r, h => by
    rw [List.mapM_nil] at h
    cases h
    exact ⟨rfl, fun i b z => by simp at z⟩
  | a :: l, r, h => by
    rw [List.mapM_cons] at h
    obtain ⟨b, h1, h⟩ := Option.bind_eq_some_iff.mp h
    obtain ⟨bs, h2, h⟩ := Option.bind_eq_some_iff.mp h
    cases h
    obtain ⟨h3, h4⟩ := mapM_get h2
    refine ⟨by rw [List.length_cons, List.length_cons, h3], fun i b' z => ?_⟩
    cases i with
    | zero =>
      have z : b = b' := by simpa using z
      subst z
      exact ⟨a, rfl, h1⟩
    | succ i =>
      obtain ⟨a', g1, g2⟩ := h4 i b' (by simpa using z)
      exact ⟨a', by simpa using g1, g2⟩
theorem ioS_none : ∀ {xs : List Sm}, ioS xs = none → ∀ (j i : Nat), xs[j]? ≠ some (.inr i)
  | [], _, j, i, z => by simp at z
  | .inr _ :: _, h, _, _, _ => by cases h
  | .inl _ :: xs, h, j, i, z => by
    cases j with
    | zero => simp at z
    | succ j => exact ioS_none (xs := xs) h j i (by simpa using z)
theorem ioS_some : ∀ {xs : List Sm} {i : Nat}, ioS xs = some i → ∃ j : Nat, xs[j]? = some (.inr i)
  | [], i, h => by cases h
  | .inr _ :: _, i, h => by cases h; exact ⟨0, rfl⟩
  | .inl _ :: xs, i, h => by
    obtain ⟨j, hj⟩ := ioS_some (xs := xs) h
    exact ⟨j + 1, by simpa using hj⟩
theorem ioOne_uniq : ∀ {xs : List Sm}, ioOne xs = true → ∀ (j k i i' : Nat), xs[j]? = some (.inr i) → xs[k]? = some (.inr i') → j = k
  | [], _, j, _, _, _, z, _ => by simp at z
  | .inr a :: xs, h, j, k, i, i', z1, z2 => by
    have h : ioS xs = none := by
      have h : (ioS xs).isNone = true := h
      cases e : ioS xs with
      | none => rfl
      | some _ => rw [e] at h; cases h
    cases j with
    | zero =>
      cases k with
      | zero => rfl
      | succ k => exact absurd (by simpa using z2) (ioS_none h k i')
    | succ j => exact absurd (by simpa using z1) (ioS_none h j i)
  | .inl _ :: xs, h, j, k, i, i', z1, z2 => by
    cases j with
    | zero => simp at z1
    | succ j =>
      cases k with
      | zero => simp at z2
      | succ k => rw [ioOne_uniq (xs := xs) h j k i i' (by simpa using z1) (by simpa using z2)]
/-- what is wanted of an answer -/
def AK (K : PySem.W.Frag) (c : Fx) (σ : Sg) (ρ' : En) (Q : VK) : Rs → Prop
  | .va d => ∀ v H', ER K c σ H' ρ' → Rp K (Xo c σ ρ') H' d v → Q v H'
  | .ow o => ∀ p H', ER K (c.ex p) σ H' ρ' → OwAt K (Xo (c.ex p) σ ρ') H' p o → c.He p = none → ¬ c.X0 p → Q (.ref p) H'
theorem OwAt.some (h : OwAt K Xx H a o) : ∃ u, H a = some u := by
  cases o with
  | lst ds => obtain ⟨_, e, _⟩ := h; exact ⟨_, e⟩
  | dct ks ds => obtain ⟨_, e, _⟩ := h; exact ⟨_, e⟩
theorem ex_xo : ∀ b, Xo (c.ex p) σ ρ b → Xo c σ ρ b ∨ b = p := fun b h => by
  rcases h with (h | h) | h
  · exact .inl (.inl h)
  · exact .inr h
  · exact .inl (.inr h)
theorem aft_ex {ioa : Option Addr} {u : HO} (f : ∀ b o, H b = some o → ioa ≠ some b → Still (fun a => Xo c σ ρ a ∧ ioa ≠ some a) b o H') (n : H p = none) (hp : H' p = some u) : Aft (Xo (c.ex p) σ ρ) ioa (upd H p u) H' := fun b o h hb => by
  by_cases e : b = p
  · subst e
    rw [upd_same] at h
    cases h
    exact .inl hp
  · rw [upd_ne e] at h
    exact (f b o h hb).to (fun z => ⟨(ex_xo b z.1).resolve_right e, z.2⟩) fun _ z => z
theorem call_ok {n : Nat} {fm : Fm} {xs : List Sm} {r : Rs} {E : XK} (E1 : ER K c σ H ρ) (l : ArL K (Xo c σ ρ) H σ xs vs) (h : callF n fm xs ρ = some (r, ρ')) (k : AK K c σ ρ' Q r) : spM K n fm vs H Q E := by
  unfold callF at h
  split at h
  · rename_i h1
    obtain ⟨h1, hn⟩ := h1
    have hn : vs.length = n := by rw [l.length, hn]
    split at h
    · rename_i ps w
      split at h
      · rename_i r' oo w2
        obtain ⟨ρ2, e1, e2⟩ := Option.map_eq_some_iff.mp h
        cases e2
        obtain ⟨g1, g2⟩ := mapM_get w
        have gva : ∀ (i : Nat) (d : D), ps[i]? = some (.va d) → xs[i]? = some (.inl d) := fun i d q => by
          obtain ⟨s, q1, q2⟩ := g2 i _ q
          cases s with
          | inl d' => cases q2; exact q1
          | inr j =>
            unfold fill1 at q2
            obtain ⟨_, _, q3⟩ := Option.map_eq_some_iff.mp q2
            cases q3
        have gio : ∀ (i : Nat) (o : Ow), ps[i]? = some (.io o) → ∃ j, xs[i]? = some (.inr j) ∧ getO j ρ = some o := fun i o q => by
          obtain ⟨s, q1, q2⟩ := g2 i _ q
          cases s with
          | inl d' => cases q2
          | inr j =>
            unfold fill1 at q2
            obtain ⟨o', q3, q4⟩ := Option.map_eq_some_iff.mp q2
            cases q4
            exact ⟨j, q1, q3⟩
        have gow : ∀ (i : Nat) (o : Ow), ps[i]? ≠ some (.ow o) := fun i o q => by
          obtain ⟨s, q1, q2⟩ := g2 i _ q
          cases s with
          | inl d' => cases q2
          | inr j =>
            unfold fill1 at q2
            obtain ⟨o', q3, q4⟩ := Option.map_eq_some_iff.mp q2
            cases q4
        have g1' : vs.length = ps.length := by rw [g1, l.length]
        have there : ∀ a, Xo c σ ρ a → H a ≠ none := fun a q => by
          rcases q with q | ⟨i, q⟩
          · exact E1.x0 a q
          · exact (E1.own q).choose_spec.2.1.there
        unfold putIo at e1
        split at e1
        · -- nothing handed over
          rename_i ws
          cases e1
          have noIo : ∀ (i : Nat) (o : Ow), ps[i]? ≠ some (.io o) := fun i o q => by
            obtain ⟨j, q1, _⟩ := gio i o q
            exact ioS_none ws i j q1
          have sub : ∀ b, Sh (fun a => Xo c σ ρ a ∧ (none : Option Addr) ≠ some a) none b → Xo c σ ρ b := fun b q => by
            rcases q with q | q
            · exact q.1
            · cases q
          have sup : ∀ b, Xo c σ ρ b → Sh (fun a => Xo c σ ρ a ∧ (none : Option Addr) ≠ some a) none b := fun b q => .inl ⟨q, by simp⟩
          refine ⟨hn, fun a => Xo c σ ρ a ∧ none ≠ some a, none, ps, r, _, ⟨g1', fun i d q => ?_, fun i o q => absurd q (noIo i o), gow, fun i j o o' q _ => absurd q (noIo i o), fun a z => by cases z⟩, fun a q => there a q.1, E1.jj, w2, ?_⟩
          · obtain ⟨v, q1, q2⟩ := l.getL (gva i d q)
            exact ⟨v, q1, q2.keep sub Kp.refl⟩
          · cases r with
            | va d => exact fun H' v f _ rv jj => k v H' (E1.aft f jj) (rv.keep sup Kp.refl)
            | ow o =>
              refine fun H' p f _ np ro jj => ?_
              obtain ⟨u, hu⟩ := ro.some
              refine k p H' ((E1.alloc (u := u) np).aft (aft_ex f np hu) jj) (ro.keep (fun b q => ?_) Kp.refl fun _ z => z) (E1.he_none np) (E1.nx0 np)
              exact (ex_xo b q).imp (sup b) fun z => z
        · -- the thing of slot i
          rename_i i o' ws
          cases e1
          obtain ⟨j, hj⟩ := ioS_some ws
          have hjl : j < ps.length := by
            rw [g1]
            exact (List.getElem?_eq_some_iff.mp hj).1
          obtain ⟨s, hs⟩ : ∃ s, ps[j]? = some s := ⟨_, List.getElem?_eq_getElem hjl⟩
          have hget : ∃ o, getO i ρ = some o := by
            obtain ⟨s', q1, q2⟩ := g2 j s hs
            rw [hj] at q1
            cases q1
            unfold fill1 at q2
            obtain ⟨o, q3, _⟩ := Option.map_eq_some_iff.mp q2
            exact ⟨o, q3⟩
          obtain ⟨o, hget⟩ := hget
          obtain ⟨a, own, hoa⟩ := getO_own E1 hget
          have hps : ps[j]? = some (.io o) := by
            obtain ⟨s', q1, q2⟩ := g2 j s hs
            rw [hj] at q1
            cases q1
            have q2 : (getO i ρ).map Sl.io = some s := q2
            rw [hget] at q2
            cases q2
            exact hs
          have nx : ¬ c.X0 a := (E1.own own).choose_spec.2.2
          have sub : ∀ b, Sh (fun b => Xo c σ ρ b ∧ some a ≠ some b) (some a) b → Xo c σ ρ b := fun b q => by
            rcases q with q | q
            · exact q.1
            · cases q
              exact .inr ⟨i, own⟩
          have sup : ∀ b, Xo c σ ρ b → Sh (fun b => Xo c σ ρ b ∧ some a ≠ some b) (some a) b := fun b q => by
            by_cases hb : some a = some b
            · exact .inr hb
            · exact .inl ⟨q, hb⟩
          refine ⟨hn, fun b => Xo c σ ρ b ∧ some a ≠ some b, some a, ps, r, some o', ⟨g1', fun i d q => ?_, fun i2 o2 q => ?_, gow, fun i j o o' q q' => ?_, fun b z => ⟨j, o, hps⟩⟩, fun b q => there b q.1, E1.jj, w2, ?_⟩
          · obtain ⟨v, q1, q2⟩ := l.getL (gva i d q)
            exact ⟨v, q1, q2.keep sub Kp.refl⟩
          · obtain ⟨j2, q1, q2⟩ := gio i2 o2 q
            have e := ioOne_uniq h1 i2 j j2 i q1 hj
            subst e
            rw [hj] at q1
            cases q1
            rw [hget] at q2
            cases q2
            obtain ⟨v, q3, q4⟩ := l.getR hj
            rw [own.1] at q4
            cases q4
            exact ⟨a, q3, rfl, hoa.keep sub Kp.refl (fun _ z => z), fun z => z.2 rfl⟩
          · obtain ⟨j2, q1, _⟩ := gio i o q
            obtain ⟨j3, q2, _⟩ := gio j o' q'
            exact ioOne_uniq h1 i j j2 j3 q1 q2
          · cases r with
            | va d =>
              refine fun H' v f g rv jj => ?_
              obtain ⟨o2, e, ho⟩ := g a rfl
              cases e
              have ho := ho.keep sup Kp.refl (fun _ z => z)
              exact k v H' (E1.aftIo own f ho jj) (rv.keep (fun b q => sup b (Xo_put E1 own b q)) Kp.refl)
            | ow ro =>
              refine fun H' p f g np rro jj => ?_
              obtain ⟨o2, e, ho⟩ := g a rfl
              cases e
              obtain ⟨u, hu⟩ := rro.some
              have sup2 : ∀ b, Xo (c.ex p) σ ρ b → Sh (fun b => Xo c σ ρ b ∧ some a ≠ some b) (some a) b ∨ b = p := fun b q => (ex_xo b q).imp (sup b) fun z => z
              have E2 := E1.alloc (u := u) np
              have ho := ho.keep sup2 Kp.refl (fun _ z => z)
              exact k p H' (E2.aftIo own (aft_ex f np hu) ho jj) (rro.keep (fun b q => sup2 b (Xo_put E2 own b q)) Kp.refl fun _ z => z) (E1.he_none np) (E1.nx0 np)
        · cases e1
      · cases h
    · cases h
  · cases h
/-! ### calls of the text's defs -/
theorem ArL.save : ∀ {xs : List Sm} {vs : List V} {c : Fx}, ER K c σ H ρ → ArL K (Xo c σ ρ) H σ xs vs → ∃ c', Wk c' c ∧ ER K c' σ H ρ ∧ ∀ H' ρ', ER K c' σ H' ρ' → ArL K (Xo c' σ ρ') H' σ xs vs
  | [], vs, c, E, l => ⟨c, .refl, E, fun _ _ _ => l⟩
  | .inl d :: xs, vs, c, E, l => by
    obtain ⟨v, ws, rfl, r, l⟩ := l
    have E1 := E.push r
    obtain ⟨c', w, E2, h⟩ := ArL.save (c := c.push d v) E1 l
    exact ⟨c', w.trans .push, E2, fun H' ρ' E3 => ⟨v, ws, rfl, E3.tmp (d, v) (w.tmp _ List.mem_cons_self), h H' ρ' E3⟩⟩
  | .inr i :: xs, vs, c, E, l => by
    obtain ⟨v, ws, rfl, r, l⟩ := l
    obtain ⟨c', w, E2, h⟩ := ArL.save E l
    exact ⟨c', w, E2, fun H' ρ' E3 => ⟨v, ws, rfl, r, h H' ρ' E3⟩⟩
theorem ArL.app : ∀ {xs ys : List Sm} {vs us : List V}, ArL K Xx H σ xs vs → ArL K Xx H σ ys us → ArL K Xx H σ (xs ++ ys) (vs ++ us)
  | [], ys, vs, us, h, t => by rw [show vs = [] from h]; exact t
  | .inl d :: xs, ys, vs, us, h, t => by
    obtain ⟨v, ws, rfl, r, h⟩ := h
    exact ⟨v, ws ++ us, rfl, r, ArL.app h t⟩
  | .inr d :: xs, ys, vs, us, h, t => by
    obtain ⟨v, ws, rfl, r, h⟩ := h
    exact ⟨v, ws ++ us, rfl, r, ArL.app h t⟩
def permG {α : Type} (pm : List Nat) (l : List α) : List α := pm.filterMap fun i => l[i]?
theorem ArL.perm {xs : List Sm} (l : ArL K Xx H σ xs vs) : ∀ pm : List Nat, ArL K Xx H σ (permG pm xs) (permG pm vs)
  | [] => rfl
  | i :: pm => by
    have ih := ArL.perm l pm
    unfold permG at ih ⊢
    rw [List.filterMap_cons, List.filterMap_cons]
    have hl := l.length
    cases e : xs[i]? with
    | none =>
      rw [List.getElem?_eq_none (by rw [hl]; exact List.getElem?_eq_none_iff.mp e)]
      exact ih
    | some s =>
      cases s with
      | inl d =>
        obtain ⟨v, h1, h2⟩ := l.getL e
        rw [h1]
        exact ⟨v, _, rfl, h2, ih⟩
      | inr j =>
        obtain ⟨v, h1, h2⟩ := l.getR e
        rw [h1]
        exact ⟨v, _, rfl, h2, ih⟩
theorem vals_perm {vs : List V} {us : List Value} (r : Vals vs us) : ∀ pm : List Nat, Vals (permG pm vs) (permG pm us)
  | [] => .nil
  | i :: pm => by
    have ih := vals_perm r pm
    unfold permG at ih ⊢
    rw [List.filterMap_cons, List.filterMap_cons]
    have hl := r.length
    cases e : vs[i]? with
    | none =>
      rw [List.getElem?_eq_none (by rw [← hl]; exact List.getElem?_eq_none_iff.mp e)]
      exact ih
    | some s =>
      obtain ⟨u, h1, h2⟩ := r.get e
      rw [h1]
      exact .cons h2 ih
def mCallR (n : Nat) (fm : Fm) (as : List Ar) : En → Option (Rs × En) := fun ρ => match aR as ρ with
  | some (xs, ρ1) => callF n fm xs ρ1
  | none => none
/-- with keywords: the arguments in the parameters' order -/
def mCallK (n : Nat) (fm : Fm) (as ks : List Ar) (pm : List Nat) : En → Option (Rs × En) := fun ρ => match aR as ρ with
  | some (xs, ρ1) => (match aR ks ρ1 with
    | some (ys, ρ2) => callF n fm (permG pm (xs ++ ys)) ρ2
    | none => none)
  | none => none
def asV (m : En → Option (Rs × En)) : Mm D := fun ρ => match m ρ with
  | some (.va d, ρ1) => some (d, ρ1)
  | _ => none
def asO (m : En → Option (Rs × En)) : Mm Ow := fun ρ => match m ρ with
  | some (.ow o, ρ1) => some (o, ρ1)
  | _ => none
/-- any answer's reading -/
def tRs (K : PySem.W.Frag) (m : En → Option (Rs × En)) : TE := fun σ H Q => ∃ c ρ r ρ', ER K c σ H ρ ∧ m ρ = some (r, ρ') ∧ AK K c σ ρ' Q r
theorem trs_v {m : En → Option (Rs × En)} (q : tE K (asV m) σ H Q) : tRs K m σ H Q := by
  obtain ⟨c, ρ, d, ρ', E, e, k⟩ := q
  unfold asV at e
  split at e
  · rename_i w
    cases e
    exact ⟨c, ρ, _, _, E, w, k⟩
  · cases e
theorem trs_o {m : En → Option (Rs × En)} (q : tO K (asO m) σ H Q) : tRs K m σ H Q := by
  obtain ⟨c, ρ, d, ρ', E, e, k⟩ := q
  unfold asO at e
  split at e
  · rename_i w
    cases e
    exact ⟨c, ρ, _, _, E, w, k⟩
  · cases e
theorem te_call {n : Nat} {fm : Fm} {as : List Ar} {E : XK} (q : tRs K (mCallR n fm as) σ H Q) : tCall (spM K n fm) [] E (tAr K as) σ H Q := by
  obtain ⟨c, ρ, r, ρ', E, e, k⟩ := q
  unfold mCallR at e
  split at e
  · rename_i xs ρ1 w
    exact ⟨c, ρ, xs, ρ1, E, w, fun vs H1 E1 l => by show spM K n fm (vs ++ []) H1 Q _; rw [List.append_nil]; exact call_ok E1 l e k⟩
  · cases e
theorem AK.wk {c' : Fx} {r : Rs} (w : Wk c' c) (k : AK K c σ ρ' Q r) : AK K c' σ ρ' Q r := by
  cases r with
  | va d => exact fun v H' E r => k v H' (E.wk w) (by rw [← w.xo]; exact r)
  | ow o => exact fun p H' E r h1 h2 => k p H' (E.wk w.ex) (by rw [← w.ex.xo]; exact r) (by rw [← w.he]; exact h1) (by rw [← w.x0]; exact h2)
theorem aR_len : ∀ {as : List Ar} {xs : List Sm} {ρ ρ' : En}, aR as ρ = some (xs, ρ') → xs.length = as.length
  | [], xs, ρ, ρ', e => by cases e; rfl
  | .v m :: as, xs, ρ, ρ', e => by
    unfold aR at e
    obtain ⟨x, ρ1, e1, f1⟩ := bd_some e
    obtain ⟨ys, ρ2, e2, f2⟩ := bd_some f1
    cases f2
    rw [List.length_cons, List.length_cons, aR_len e2]
  | .o i :: as, xs, ρ, ρ', e => by
    unfold aR at e
    split at e
    · obtain ⟨ys, ρ2, e2, f2⟩ := bd_some e
      cases f2
      rw [List.length_cons, List.length_cons, aR_len e2]
    · cases e
theorem te_callN {n n0 : Nat} {fm : Fm} {as ks : List Ar} {pm : List Nat} {E : XK} (h0 : as.length = n0) (q : tRs K (mCallK n fm as ks pm) σ H Q) : tCallN n0 ks.length (spM K n fm) (fun vs zs => permG pm (vs ++ zs)) E (tAr K as) (tAr K ks) σ H Q := by
  obtain ⟨c, ρ, r, ρ', E, e, k⟩ := q
  unfold mCallK at e
  split at e
  · rename_i xs ρ1 w
    split at e
    · rename_i ys ρ2 w2
      refine ⟨c, ρ, xs, ρ1, E, w, fun vs H1 E1 l => ?_⟩
      obtain ⟨c', wk, E2, hl⟩ := ArL.save E1 l
      refine ⟨c', ρ1, ys, ρ2, E2, w2, fun zs H2 E3 l2 => ⟨by rw [l.length, aR_len w, h0], by rw [l2.length, aR_len w2], ?_⟩⟩
      exact call_ok E3 (((hl H2 ρ2 E3).app l2).perm pm) e (k.wk wk)
    · cases e
  · cases e
/-- a def that may be called -/
structure Df (P : Program) (w : World) (K : PySem.W.Frag) (mg : Str → Option Value) (base : Heap) (k : Nat) (nm : Str) (n : Nat) (fm : Fm) (params : Arguments) (ps : List Str) : Prop where
  ex : ∃ (f : Addr) (fd : FuncData) (qual : Str) (body : List Stmt) (scope : Scope), FnOk P w K mg base CX0 k f fd ps (spM K n fm) ∧ FunD K nm qual params body scope [] [] f fd ∧ mg nm = some (.ref f)
theorem pe_def {k n : Nat} {fm : Fm} {params : Arguments} {ps : List Str} {as : List Ar} (F : Df X.prog X.w X.K X.mg X.base k nm n fm params ps) (hr : Room k X.A) (ha : CR X (e1 :: es) as)
    (hb : ∀ (qual : Str) (body : List Stmt) (scope : Scope) (kV doc pm : Value) (an : Option Addr) (cdv ct : Value) (us : List Value), us.length = ps.length → bindArgs (PySem.W.fnOf nm qual params body scope .none kV doc pm an cdv ct) ⟨us, []⟩ = pure (ps.zip us))
    (hg : Gl X nm := by rfl) (hdb : (nm == ("__debug__" : Str)) = false := by decide) (he : starEach (e1 :: es) X.env = (false, eval e1 X.env) :: starEach es X.env := by rfl) (hpl : (backTo pos (starEach es X.env)).any (·.1) = false := by rfl) :
    PE X (.Call (.Name nm np) (e1 :: es) [] pos) (tRs X.K (mCallR n fm as)) := by
  obtain ⟨f, fd, qual, body, scope, ok, D, hm⟩ := F.ex
  exact pe_imp (pe_call (E := E0) ok hr hg hm D.kp (D.bindsN fun kV doc pm an cdv ct us => hb qual body scope kV doc pm an cdv ct us) .nil (fun _ _ _ _ _ _ _ h => h.elim) ha hdb he hpl) fun σ H Q => te_call
theorem pe_def0 {k n : Nat} {fm : Fm} {params : Arguments} {ps : List Str} (F : Df X.prog X.w X.K X.mg X.base k nm n fm params ps) (hr : Room k X.A)
    (hb : ∀ (qual : Str) (body : List Stmt) (scope : Scope) (kV doc pm : Value) (an : Option Addr) (cdv ct : Value) (us : List Value), us.length = ps.length → bindArgs (PySem.W.fnOf nm qual params body scope .none kV doc pm an cdv ct) ⟨us, []⟩ = pure (ps.zip us))
    (hg : Gl X nm := by rfl) (hdb : (nm == ("__debug__" : Str)) = false := by decide) : PE X (.Call (.Name nm np) [] [] pos) (tRs X.K (mCallR n fm [])) := by
  obtain ⟨f, fd, qual, body, scope, ok, D, hm⟩ := F.ex
  refine pe_imp (pe_call0 (E := E0) ok hr hg hm D.kp (D.bindsN fun kV doc pm an cdv ct us => hb qual body scope kV doc pm an cdv ct us) .nil (fun _ _ _ _ _ _ _ h => h.elim) hdb) fun σ H Q q => ?_
  exact tar_nil (te_call q)
theorem kbindsN {K : PySem.W.Frag} {x qual : Str} {params : Arguments} {body : List Stmt} {scope : Scope} {kws : List (Str × V)} {f : Addr} {fd : FuncData} {ps : List Str} (F : FunD K x qual params body scope [] kws f fd) (n : Nat) (ks : List Str) (pm : List Nat)
    (h : ∀ (kV doc pm' : Value) (an : Option Addr) (cdv ct : Value) (us ws : List Value), us.length = n → ws.length = ks.length → bindArgs (PySem.W.fnOf x qual params body scope .none kV doc pm' an cdv ct) ⟨us, ks.zip ws⟩ = pure (ps.zip (permG pm (us ++ ws)))) :
    KBn K fd ps n ks (fun us ws => permG pm (us ++ ws)) (fun vs zs => permG pm (vs ++ zs)) := by
  obtain ⟨oc, od, dV, kV, doc, pm', an, cdv, ct, osl, rfl, lk, hcd, hD, hK⟩ := F.ex
  rcases hD with ⟨_, rfl⟩ | ⟨e, _⟩
  · exact ⟨fun s us ws _ l1 l2 => .of_eq (h kV doc pm' an cdv ct us ws l1 l2), fun r1 r2 => vals_perm (r1.append r2) pm⟩
  · exact absurd rfl e
theorem pe_defK {k n : Nat} {fm : Fm} {params : Arguments} {ps : List Str} {as bs : List Ar} (n0 : Nat) (ks : List Str) (pm : List Nat) (F : Df X.prog X.w X.K X.mg X.base k nm n fm params ps) (hr : Room k X.A) (ha : CR X (e1 :: es) as) (hk : CK X kws bs)
    (hb : ∀ (qual : Str) (body : List Stmt) (scope : Scope) (kV doc pm' : Value) (an : Option Addr) (cdv ct : Value) (us ws : List Value), us.length = n0 → ws.length = ks.length → bindArgs (PySem.W.fnOf nm qual params body scope .none kV doc pm' an cdv ct) ⟨us, ks.zip ws⟩ = pure (ps.zip (permG pm (us ++ ws))))
    (h0 : as.length = n0 := by rfl) (h1 : bs.length = ks.length := by rfl) (hall : (backToKw pos (keywordEach kws X.env)).all (·.1.isSome) = true := by rfl) (hks : (backToKw pos (keywordEach kws X.env)).filterMap (·.1) = ks := by rfl)
    (hg : Gl X nm := by rfl) (hdb : (nm == ("__debug__" : Str)) = false := by decide) (he : starEach (e1 :: es) X.env = (false, eval e1 X.env) :: starEach es X.env := by rfl)
    (hpl : ((backTo pos (starEach (e1 :: es) X.env)).any (·.1) || (backToKw pos (keywordEach kws X.env)).any (·.1.isNone)) = false := by rfl) :
    PE X (.Call (.Name nm np) (e1 :: es) kws pos) (tRs X.K (mCallK n fm as bs pm)) := by
  obtain ⟨f, fd, qual, body, scope, ok, D, hm⟩ := F.ex
  refine pe_imp (pe_callN (E := E0) ok hr hg hm D.kp (kbindsN D n0 ks pm fun kV doc pm' an cdv ct us ws => hb qual body scope kV doc pm' an cdv ct us ws) (fun _ _ _ _ _ _ _ h => h.elim) ha hk hall hks hdb he hpl) fun σ H Q q => ?_
  have z := te_callN (E := E0) h0 q
  rw [h1] at z
  exact z
theorem pe_defK0 {k n : Nat} {fm : Fm} {params : Arguments} {ps : List Str} {bs : List Ar} (ks : List Str) (pm : List Nat) (F : Df X.prog X.w X.K X.mg X.base k nm n fm params ps) (hr : Room k X.A) (hk : CK X kws bs)
    (hb : ∀ (qual : Str) (body : List Stmt) (scope : Scope) (kV doc pm' : Value) (an : Option Addr) (cdv ct : Value) (us ws : List Value), us.length = 0 → ws.length = ks.length → bindArgs (PySem.W.fnOf nm qual params body scope .none kV doc pm' an cdv ct) ⟨us, ks.zip ws⟩ = pure (ps.zip (permG pm (us ++ ws))))
    (h1 : bs.length = ks.length := by rfl) (hall : (backToKw pos (keywordEach kws X.env)).all (·.1.isSome) = true := by rfl) (hks : (backToKw pos (keywordEach kws X.env)).filterMap (·.1) = ks := by rfl)
    (hg : Gl X nm := by rfl) (hdb : (nm == ("__debug__" : Str)) = false := by decide)
    (hpl : ((backTo pos (starEach [] X.env)).any (·.1) || (backToKw pos (keywordEach kws X.env)).any (·.1.isNone)) = false := by rfl) :
    PE X (.Call (.Name nm np) [] kws pos) (tRs X.K (mCallK n fm [] bs pm)) := by
  obtain ⟨f, fd, qual, body, scope, ok, D, hm⟩ := F.ex
  refine ⟨fun pins s σ H Q I q => ?_⟩
  have z := te_callN (n0 := 0) (E := E0) rfl q
  rw [h1] at z
  refine wpAny_Call_Name_kw (ld_glob I hg hm ?_ hdb)
  have z := tar_nil z
  refine PySem.W.callWith_KW0 (h₀ := X.base) I.ok.mod.kin D.kp hall (thn (hk.run pos pins s σ H _ I z) fun ws s2 ⟨zs, H2, I2, rz, l1, l2, q2⟩ => ⟨I2.kIn, ?_⟩) hpl
  rw [hks]
  exact run_fnN (us := []) ok hr (kbindsN D 0 ks pm fun kV doc pm' an cdv ct us ws => hb qual body scope kV doc pm' an cdv ct us ws) (fun _ _ _ _ _ _ _ h => h.elim) I2 .nil rz l1 l2 q2
theorem ce_def {m : En → Option (Rs × En)} (h : PE X e1 (tRs X.K m)) : CE X e1 (asV m) := pe_imp h fun _ _ _ => trs_v
theorem co_def {m : En → Option (Rs × En)} (h : PE X e1 (tRs X.K m)) : CO X e1 (asO m) := pe_imp h fun _ _ _ => trs_o
end
end DL

set_option Elab.async false
set_option linter.all false
set_option maxRecDepth 100000
namespace DL
open PySem PySem.Spec PyProof.Rows L2

theorem bt_len : bootBuiltins "len" = some (.builtin "len") := by kernel_rfl
theorem bt_abs : bootBuiltins "abs" = some (.builtin "abs") := by kernel_rfl
theorem bt_sum : bootBuiltins "sum" = some (.builtin "sum") := by kernel_rfl
theorem bt_all : bootBuiltins "all" = some (.builtin "all") := by kernel_rfl
theorem bt_any : bootBuiltins "any" = some (.builtin "any") := by kernel_rfl
theorem bt_sorted : bootBuiltins "sorted" = some (.builtin "sorted") := by kernel_rfl
theorem bt_isinstance : bootBuiltins "isinstance" = some (.builtin "isinstance") := by kernel_rfl
theorem bt_max : bootBuiltins "max" = some (.builtin "max") := by kernel_rfl
theorem bt_min : bootBuiltins "min" = some (.builtin "min") := by kernel_rfl
theorem bt_int : bootBuiltins "int" = some (.type "int") := by kernel_rfl
theorem bt_str : bootBuiltins "str" = some (.type "str") := by kernel_rfl
theorem bt_tuple : bootBuiltins "tuple" = some (.type "tuple") := by kernel_rfl
theorem bt_list : bootBuiltins "list" = some (.type "list") := by kernel_rfl
theorem bt_dict : bootBuiltins "dict" = some (.type "dict") := by kernel_rfl
theorem bt_bool : bootBuiltins "bool" = some (.type "bool") := by kernel_rfl
theorem u1 {k : Nat} {A : Around} (r : Room k A) : A.units + 1 < cLine := by
  have := r.units
  omega
theorem u64 {k : Nat} {A : Around} (r : Room k A) : A.units + 64 < cLine := r.units
section
variable {X : Cx} {K : PySem.W.Frag} {c c' : Fx} {σ σ2 : Sg} {H H' : Hp} {ρ ρ' ρ3 : En} {i j : Nat} {a p : Addr} {o : Ow} {d x y z : D} {v vx vy : V} {Q : VK} {ds : List D} {vs us : List V} {Xx : AP} {Dn : Ends} {ix : List Nat}
variable {e1 e2 e3 : Expr} {es : List Expr} {pos np apos cpos p1 p2 tpos spos py kpos : Pos} {nm nx ny : Str} {bid : String} {ma mb mk : Mm D} {kws : List Keyword} {kn : Option Str}
/-- an own thing given away by its name -/
def mOwn (i : Nat) : Mm Ow := fun ρ => match ρ[i]? with
  | some (.ow o) => some (o, ρ.set i .no)
  | _ => none
theorem ER.give (E : ER K c σ H ρ) (h : ρ[i]? = some (.ow o)) : ∃ a, σ[i]? = some (some (.ref a)) ∧ ER K (c.ex a) σ H (ρ.set i .no) ∧ OwAt K (Xo (c.ex a) σ (ρ.set i .no)) H a o ∧ c.He a = none ∧ ¬ c.X0 a := by
  obtain ⟨a, e, ho, nx, nh⟩ := E.ow i o h
  have hi : i < ρ.length := (List.getElem?_eq_some_iff.mp h).1
  have ow : ∀ j b, OwnAt σ (ρ.set i .no) j b → j ≠ i ∧ OwnAt σ ρ j b := fun j b q => by
    by_cases hj : j = i
    · subst hj
      obtain ⟨_, o, q⟩ := q
      rw [get_set_eq hi] at q
      rcases q with q | q <;> cases q
    · obtain ⟨e, o, q⟩ := q
      rw [get_set_ne hj] at q
      exact ⟨hj, e, o, q⟩
  have xx : ∀ b, Xo (c.ex a) σ (ρ.set i .no) b → Xo c σ ρ b := fun b q => by
    rcases q with (q | q) | ⟨j, q⟩
    · exact .inl q
    · exact .inr ⟨i, by rw [q]; exact ⟨e, o, .inl h⟩⟩
    · exact .inr ⟨j, (ow j b q).2⟩
  have ne : ∀ j b, OwnAt σ ρ j b → j ≠ i → b ≠ a := fun j b q hj z => hj (E.inj j i a (z ▸ q) ⟨e, o, .inl h⟩)
  refine ⟨a, e, ⟨by rw [List.length_set]; exact E.len, fun j d' q => ?_, fun j o2 q => ?_, fun j o2 q => ?_, fun j k b h1 h2 => E.inj j k b (ow j b h1).2 (ow k b h2).2, fun b o2 h1 h2 => ?_, E.fz, E.hd, E.iot, fun b h => ?_, fun q hq => (E.tmp q hq).keep xx Kp.refl, E.jj⟩, ho.keep xx Kp.refl (fun _ z => z), nh, nx⟩
  · have hj : j ≠ i := fun z => by
      subst z
      rw [get_set_eq hi] at q
      cases q
    rw [get_set_ne hj] at q
    obtain ⟨v', e, r'⟩ := E.va j d' q
    exact ⟨v', e, r'.keep xx Kp.refl⟩
  · have hj : j ≠ i := fun z => by
      subst z
      rw [get_set_eq hi] at q
      cases q
    rw [get_set_ne hj] at q
    obtain ⟨b, e, r', n1, n2⟩ := E.ow j o2 q
    exact ⟨b, e, r'.keep xx Kp.refl (fun _ z => z), fun z => z.elim n1 (ne j b ⟨e, o2, .inl q⟩ hj), n2⟩
  · have hj : j ≠ i := fun z => by
      subst z
      rw [get_set_eq hi] at q
      cases q
    rw [get_set_ne hj] at q
    obtain ⟨b, e, r', n1, n2⟩ := E.io j o2 q
    exact ⟨b, e, r'.keep xx Kp.refl (fun _ z => z), fun z => z.elim n1 (ne j b ⟨e, o2, .inr q⟩ hj), n2⟩
  · refine (E.fr b o2 h1 h2).to (fun z => z.elim (fun z => z) fun z => ?_) fun _ z => z
    subst z
    have h1 : c.He b = some o2 := h1
    rw [nh] at h1
    cases h1
  · rcases h with h | h
    · exact E.x0 b h
    · rw [h]
      exact ho.there
theorem co_own {x : Str} {pos : Pos} (i : Nat) (hN : X.N[i]? = some x := by rfl) (hv : Vis X.env.scope x := by first | exact Or.inl rfl | exact Or.inr (Or.inl rfl) | exact Or.inr (Or.inr rfl)) (hd : (x == ("__debug__" : Str)) = false := by decide)
    (hcd : (x == ("__classdict__" : Str)) = false := by decide) : CO X (.Name x pos) (mOwn i) := pe_imp (pe_var hN hv hd hcd) fun σ H Q q => by
  obtain ⟨c, ρ, o, ρ', E, e, k⟩ := q
  unfold mOwn at e
  split at e
  · rename_i o w
    cases e
    obtain ⟨a, h1, h2, h3, h4, h5⟩ := E.give w
    exact ⟨_, h1, k a H h2 h3 h4 h5⟩
  · cases e
end
end DL

set_option Elab.async false
set_option linter.all false
set_option maxRecDepth 100000
namespace DL
open PySem PySem.Spec PyProof.Rows L2
section
variable {X : Cx} {K : PySem.W.Frag} {c c' : Fx} {σ σ2 : Sg} {H H' : Hp} {ρ ρ' ρ3 : En} {i j : Nat} {a p : Addr} {o : Ow} {d x y z : D} {v vx vy : V} {Q : VK} {ds : List D} {vs us : List V} {Xx : AP} {Dn : Ends} {ix : List Nat}
variable {e1 e2 e3 : Expr} {es : List Expr} {oa ob : Opd} {pos np apos cpos p1 p2 tpos spos py kpos : Pos} {nm nx ny : Str} {bid : String} {ma mb mk : Mm D} {kws : List Keyword} {kn : Option Str}
/-! ### built-ins of several values -/
def mCall (m : Mm (List D)) (g : List D → Option D) : Mm D := bd m fun xs => lf (g xs)
def HasCA (X : Cx) (f : Value) (g : List D → Option D) : Prop := ∃ r, CallR X f r ∧ ∀ c σ H ρ xs z vs Q, ER X.K c σ H ρ → RpL X.K (Xo c σ ρ) H xs vs → g xs = some z → (∀ v H', ER X.K c σ H' ρ → Rp X.K (Xo c σ ρ) H' z v → Q v H') → r vs H Q
theorem ce_callA {g : List D → Option D} {m : Mm (List D)} (h : HasCA X (.builtin bid) g) (hg : Gl X nm) (hm : X.mg nm = none) (hv : bootBuiltins nm = some (.builtin bid)) (ha : CA X (e1 :: es) m) (hn : nm ≠ "__name__" := by decide) (hdb : (nm == ("__debug__" : Str)) = false := by decide)
    (he : starEach (e1 :: es) X.env = (false, eval e1 X.env) :: starEach es X.env := by rfl) (hpl : (backTo pos (starEach es X.env)).any (·.1) = false := by rfl) : CE X (.Call (.Name nm np) (e1 :: es) [] pos) (mCall m g) := by
  obtain ⟨r, o, q⟩ := h
  refine pe_imp (pe_callB o hg hm hv ha hn hdb he hpl) fun σ H Q h => ?_
  obtain ⟨c, ρ, z, ρ', E, e, k⟩ := h
  obtain ⟨xs, ρ1, g1, f1⟩ := bd_some e
  obtain ⟨g2, rfl⟩ := lf_some f1
  exact ⟨c, ρ, xs, ρ1, E, g1, fun vs H' E' l => q c σ H' ρ1 xs z vs Q E' l g2 k⟩
/-! ### the least and the greatest of a list -/
def strL : List D → Option (List Str)
  | [] => some []
  | .str x :: ds => (strL ds).map (x :: ·)
  | _ => none
theorem strL_ok : ∀ {ds : List D} {xs : List Str}, strL ds = some xs → ds = xs.map .str
  | [], xs, h => by cases h; rfl
  | d :: ds, xs, h => by
    cases d with
    | str x =>
      obtain ⟨ys, e, rfl⟩ := Option.map_eq_some_iff.mp (show (strL ds).map (x :: ·) = some xs from h)
      rw [strL_ok e]
      rfl
    | _ => cases h
def minS (x : Str) (xs : List Str) : Str := xs.foldl (fun a y => if leD (.str a) (.str y) then a else y) x
def maxS (x : Str) (xs : List Str) : Str := xs.foldl (fun a y => if leD (.str y) (.str a) then a else y) x
theorem dataLt_leD (x y : Str) : PySem.W.dataLt (.str y) (.str x) = !leD (.str x) (.str y) := by
  rw [PySem.W.dataLt_str, leD_str, Bool.not_not]
theorem minD_strs (x : Str) (xs : List Str) : PySem.W.minD (.str x) (xs.map .str) = .str (minS x xs) := by
  unfold PySem.W.minD minS
  induction xs generalizing x with
  | nil => rfl
  | cons y ys ih =>
    rw [List.map_cons, List.foldl_cons, List.foldl_cons, dataLt_leD, ← ih]
    cases leD (.str x) (.str y) <;> rfl
theorem maxD_strs (x : Str) (xs : List Str) : PySem.W.maxD (.str x) (xs.map .str) = .str (maxS x xs) := by
  unfold PySem.W.maxD maxS
  induction xs generalizing x with
  | nil => rfl
  | cons y ys ih =>
    rw [List.map_cons, List.foldl_cons, List.foldl_cons, dataLt_leD, ← ih]
    cases leD (.str y) (.str x) <;> rfl
theorem strs_reads {h : Heap} : ∀ {xs : List Str} {us : List Value}, Vals (xs.map V.str) us → ReadsAll h us (xs.map .str) []
  | [], us, r => by cases r; exact .nil
  | x :: xs, us, r => by
    rw [List.map_cons] at r
    cases r with
    | cons r1 r2 =>
      obtain ⟨t, rfl⟩ := (show ∃ t, _ = Value.str x t from r1)
      exact .cons (as := []) (.str x t) (strs_reads r2)
theorem strs_alike (xs : List Str) : PySem.W.AlikeAll (xs.map PyData.str) := ⟨fun a ha b hb => by
  obtain ⟨x, _, rfl⟩ := List.mem_map.mp ha
  obtain ⟨y, _, rfl⟩ := List.mem_map.mp hb
  rfl, fun a ha z => by
  obtain ⟨x, _, rfl⟩ := List.mem_map.mp ha
  cases z⟩
theorem strs_depth : ∀ xs : List Str, PyData.depthAll (xs.map PyData.str) ≤ 1
  | [] => by show PyData.depthAll [] ≤ 1; unfold PyData.depthAll; omega
  | x :: xs => by
    have := strs_depth xs
    show PyData.depthAll (.str x :: xs.map PyData.str) ≤ 1
    unfold PyData.depthAll PyData.depth
    omega
def rBestS (K : PySem.W.Frag) (f : Str → List Str → Str) : List V → Hp → VK → Prop := fun vs H Q => ∃ (a : Addr) (x : Str) (xs : List Str), vs = [V.ref a] ∧ SqL K H a ((x :: xs).map V.str) ∧ Q (.str (f x xs)) H
theorem cr_minS (hc : X.calm = true) (hu : X.A.units + 64 < cLine) : CallR X (.builtin "min") (rBestS X.K minS) := fun pins s σ H vs us Q I r h => by
  obtain ⟨a, x, xs, rfl, hs, q⟩ := h
  obtain ⟨its, rv, hl, _⟩ := I.list hs
  rw [Vals.ref1 r]
  have hd := strs_depth (x :: xs)
  refine PySem.W.min_list_data (I.ok.hd hc) hl.isList (strs_reads (h := s.heap) rv) (strs_alike (x :: xs)) (by rw [List.map_cons] at hd; omega) fun i v h' tk bs _ rd hk => ?_
  rw [minD_strs] at rd
  obtain ⟨t, rfl, _⟩ := PyProof.Rows.reads_str_inv rd
  exact ⟨.str _, H, I.kept hk, ⟨t, rfl⟩, q⟩
theorem cr_maxS (hc : X.calm = true) (hu : X.A.units + 64 < cLine) : CallR X (.builtin "max") (rBestS X.K maxS) := fun pins s σ H vs us Q I r h => by
  obtain ⟨a, x, xs, rfl, hs, q⟩ := h
  obtain ⟨its, rv, hl, _⟩ := I.list hs
  rw [Vals.ref1 r]
  have hd := strs_depth (x :: xs)
  refine PySem.W.max_list_data (I.ok.hd hc) hl.isList (strs_reads (h := s.heap) rv) (strs_alike (x :: xs)) (by rw [List.map_cons] at hd; omega) fun i v h' tk bs _ rd hk => ?_
  rw [maxD_strs] at rd
  obtain ⟨t, rfl, _⟩ := PyProof.Rows.reads_str_inv rd
  exact ⟨.str _, H, I.kept hk, ⟨t, rfl⟩, q⟩
/-- of a list of ints or of texts -/
def dBest (fi : List Int → Option Int) (fs : Str → List Str → Str) : D → Option D
  | .lst ds => match intsOf ds with
    | some ns => (fi ns).map .int
    | none => match strL ds with
      | some (x :: xs) => some (.str (fs x xs))
      | _ => none
  | _ => none
def dMin1 : D → Option D := dBest (·.min?) minS
def dMax1 : D → Option D := dBest (·.max?) maxS
theorem ints_min {ns : List Int} {m : Int} (h : ns.min? = some m) : m ∈ ns ∧ ∀ y ∈ ns, m ≤ y := by
  rw [List.min?_eq_some_iff] at h
  exact h
theorem ints_max {ns : List Int} {m : Int} (h : ns.max? = some m) : m ∈ ns ∧ ∀ y ∈ ns, y ≤ m := by
  rw [List.max?_eq_some_iff] at h
  exact h
theorem rp_strs {vs : List V} : ∀ {xs : List Str}, RpL K Xx H (xs.map .str) vs → vs = xs.map V.str := fun {xs} l => by
  induction xs generalizing vs with
  | nil => exact l.of_nil
  | cons y ys ih =>
    obtain ⟨v, ws, rfl, h1, h2⟩ := l.of_cons
    have : v = V.str y := by unfold Rp at h1; exact h1
    rw [this, ih h2]
    rfl
theorem c_min1 (hc : X.calm = true) (hu : X.A.units + 64 < cLine) : HasC X (.builtin "min") dMin1 := by
  refine ⟨fun vs H Q => rMin X.K vs H Q ∨ rBestS X.K minS vs H Q, fun pins s σ H vs us Q I r h => ?_, fun c σ H ρ x z vx Q E b e k => ?_⟩
  · rcases h with h | h
    · exact cr_min hc pins s σ H vs us Q I r h
    · exact cr_minS hc hu pins s σ H vs us Q I r h
  · unfold dMin1 dBest at e
    split at e
    · rename_i ds
      obtain ⟨a, vs, rfl, t, l⟩ := b.lst
      split at e
      · rename_i ns w
        obtain ⟨m, e1, rfl⟩ := Option.map_eq_some_iff.mp e
        obtain ⟨h1, h2⟩ := ints_min e1
        have ev := intsOf_ok l w
        subst ev
        refine .inl ⟨a, ns, rfl, .inl t, List.length_pos_of_mem h1, fun m' h3 h4 => ?_⟩
        have : m' = m := by have := h4 m h1; have := h2 m' h3; omega
        subst this
        exact k _ _ E .int
      · split at e
        · rename_i x xs w
          cases e
          have ed := strL_ok w
          subst ed
          refine .inr ⟨a, x, xs, rfl, ?_, k _ _ E .str⟩
          rw [← rp_strs l]
          exact .inl t
        · cases e
    · cases e
theorem c_max1 (hc : X.calm = true) (hu : X.A.units + 64 < cLine) : HasC X (.builtin "max") dMax1 := by
  refine ⟨fun vs H Q => rMax X.K vs H Q ∨ rBestS X.K maxS vs H Q, fun pins s σ H vs us Q I r h => ?_, fun c σ H ρ x z vx Q E b e k => ?_⟩
  · rcases h with h | h
    · exact cr_max hc pins s σ H vs us Q I r h
    · exact cr_maxS hc hu pins s σ H vs us Q I r h
  · unfold dMax1 dBest at e
    split at e
    · rename_i ds
      obtain ⟨a, vs, rfl, t, l⟩ := b.lst
      split at e
      · rename_i ns w
        obtain ⟨m, e1, rfl⟩ := Option.map_eq_some_iff.mp e
        obtain ⟨h1, h2⟩ := ints_max e1
        have ev := intsOf_ok l w
        subst ev
        refine .inl ⟨a, ns, rfl, .inl t, List.length_pos_of_mem h1, fun m' h3 h4 => ?_⟩
        have : m' = m := by have := h4 m h1; have := h2 m' h3; omega
        subst this
        exact k _ _ E .int
      · split at e
        · rename_i x xs w
          cases e
          have ed := strL_ok w
          subst ed
          refine .inr ⟨a, x, xs, rfl, ?_, k _ _ E .str⟩
          rw [← rp_strs l]
          exact .inl t
        · cases e
    · cases e
/-! ### of two texts or ints -/
theorem two_best {prog : Program} {w : World} {A : Around} {E : Value → Shared → Prop} {s : Shared} {x y : Str} {t u : Tok} {Q : Value → Shared → Prop} (hh : A.handled = none)
    (h : ∀ h' tk, (∀ b o, s.heap.get? b = some o → h'.get? b = some o) → Q (if leD (.str x) (.str y) then .str x t else .str y u) { s with heap := h', toks := tk }) :
    wpAny (model prog w) A (call (.builtin "min") [.str x t, .str y u]) Q E s := by
  have hT : (s.heap.push { cls := .type "tuple", data := .seq #[Value.str x t, Value.str y u] }).IsTuple s.heap.objs.size #[.str x t, .str y u] := ⟨_, Heap.get?_push_size _ rfl, rfl, 0, rfl⟩
  have z : (s.heap.push { cls := .type "tuple", data := .seq #[Value.str x t, Value.str y u] }).objs.size = s.heap.objs.size + 1 := by rw [Heap.size_push]
  refine PySem.call_min_two (wpAny_pyIter_tuple hT ⟨_, [_, s.heap.objs.size], [_], _, _, _, fun i j => decide ((if i = 0 then x else y).cps.toList < (if j = 0 then x else y).cps.toList), rfl,
    Walks.tuple (A := A.in1) hh _ s.heap.objs.size (by rw [z]; exact Nat.ne_of_lt (Nat.lt_succ_self _)) #[.str x t, .str y u], ⟨⟨_, Heap.get?_push_size _ rfl, rfl, rfl⟩, hT.push _⟩, fun b hb => ?_, by show 0 < 2; decide, fun i j vi vj s1 Q' E' hi hj hq => ?_, fun v h' tk hP hk => ?_⟩)
  · show b < ((s.heap.push _).push _).objs.size
    rw [Heap.size_push, z]
    simp only [List.mem_cons, List.not_mem_nil, or_false] at hb
    rcases hb with rfl | rfl
    · rw [z]; exact Nat.lt_succ_self _
    · exact Nat.lt_succ_of_lt (Nat.lt_succ_self _)
  · have pick : ∀ (i : Nat) (v : Value), (#[Value.str x t, Value.str y u])[i]? = some v → ∃ k, v = .str (if i = 0 then x else y) k := fun i v hv => by
      match i with
      | 0 => exact ⟨t, by simpa using hv.symm⟩
      | 1 => exact ⟨u, by simpa using hv.symm⟩
      | i + 2 => simp at hv
    obtain ⟨k1, rfl⟩ := pick i vi hi
    obtain ⟨k2, rfl⟩ := pick j vj hj
    exact richCompare_gives (op := .Lt) (typeIs_str s1 _ k1) (typeIs_str s1 _ k2) F.slot_str_lt F.entry_str_lt (F.args_str_lt_2 _ _) (gives_str_lt _ _ k1 k2) (fun e => nomatch e) hq
  · have old : ∀ b o, s.heap.get? b = some o → h'.get? b = some o := fun b o e => by
      have lt := Heap.lt_size e
      exact hk b o (fun w => by rw [List.mem_singleton, z] at w; rw [w] at lt; exact Nat.lt_irrefl _ (Nat.lt_of_succ_lt lt)) (Heap.get?_push_of_some _ (Heap.get?_push_of_some _ e))
    have q := h h' tk old
    have hP : (#[Value.str x t, Value.str y u])[argBest (fun i j => decide ((if i = 0 then x else y).cps.toList < (if j = 0 then x else y).cps.toList)) 1]? = some v := hP
    rw [leD_str] at q
    have ea : argBest (fun i j => decide ((if i = 0 then x else y).cps.toList < (if j = 0 then x else y).cps.toList)) 1 = if y.cps.toList < x.cps.toList then 1 else 0 := by
      simp [argBest]
    rw [ea] at hP
    by_cases hlt : y.cps.toList < x.cps.toList
    · rw [if_pos hlt] at hP
      rw [decide_eq_true hlt] at q
      cases hP
      exact q
    · rw [if_neg hlt] at hP
      rw [decide_eq_false hlt] at q
      cases hP
      exact q
theorem two_most {prog : Program} {w : World} {A : Around} {E : Value → Shared → Prop} {s : Shared} {x y : Str} {t u : Tok} {Q : Value → Shared → Prop} (hh : A.handled = none)
    (h : ∀ h' tk, (∀ b o, s.heap.get? b = some o → h'.get? b = some o) → Q (if leD (.str y) (.str x) then .str x t else .str y u) { s with heap := h', toks := tk }) :
    wpAny (model prog w) A (call (.builtin "max") [.str x t, .str y u]) Q E s := by
  have hT : (s.heap.push { cls := .type "tuple", data := .seq #[Value.str x t, Value.str y u] }).IsTuple s.heap.objs.size #[.str x t, .str y u] := ⟨_, Heap.get?_push_size _ rfl, rfl, 0, rfl⟩
  have z : (s.heap.push { cls := .type "tuple", data := .seq #[Value.str x t, Value.str y u] }).objs.size = s.heap.objs.size + 1 := by rw [Heap.size_push]
  refine PySem.call_max_two (wpAny_pyIter_tuple hT ⟨_, [_, s.heap.objs.size], [_], _, _, _, fun i j => decide ((if j = 0 then x else y).cps.toList < (if i = 0 then x else y).cps.toList), rfl,
    Walks.tuple (A := A.in1) hh _ s.heap.objs.size (by rw [z]; exact Nat.ne_of_lt (Nat.lt_succ_self _)) #[.str x t, .str y u], ⟨⟨_, Heap.get?_push_size _ rfl, rfl, rfl⟩, hT.push _⟩, fun b hb => ?_, by show 0 < 2; decide, fun i j vi vj s1 Q' E' hi hj hq => ?_, fun v h' tk hP hk => ?_⟩)
  · show b < ((s.heap.push _).push _).objs.size
    rw [Heap.size_push, z]
    simp only [List.mem_cons, List.not_mem_nil, or_false] at hb
    rcases hb with rfl | rfl
    · rw [z]; exact Nat.lt_succ_self _
    · exact Nat.lt_succ_of_lt (Nat.lt_succ_self _)
  · have pick : ∀ (i : Nat) (v : Value), (#[Value.str x t, Value.str y u])[i]? = some v → ∃ k, v = .str (if i = 0 then x else y) k := fun i v hv => by
      match i with
      | 0 => exact ⟨t, by simpa using hv.symm⟩
      | 1 => exact ⟨u, by simpa using hv.symm⟩
      | i + 2 => simp at hv
    obtain ⟨k1, rfl⟩ := pick i vi hi
    obtain ⟨k2, rfl⟩ := pick j vj hj
    exact richCompare_gives (op := .Gt) (typeIs_str s1 _ k1) (typeIs_str s1 _ k2) F.slot_str_gt F.entry_str_gt (F.args_str_gt_2 _ _) (gives_str_gt _ _ k1 k2) (fun e => nomatch e) hq
  · have old : ∀ b o, s.heap.get? b = some o → h'.get? b = some o := fun b o e => by
      have lt := Heap.lt_size e
      exact hk b o (fun w => by rw [List.mem_singleton, z] at w; rw [w] at lt; exact Nat.lt_irrefl _ (Nat.lt_of_succ_lt lt)) (Heap.get?_push_of_some _ (Heap.get?_push_of_some _ e))
    have q := h h' tk old
    have hP : (#[Value.str x t, Value.str y u])[argBest (fun i j => decide ((if j = 0 then x else y).cps.toList < (if i = 0 then x else y).cps.toList)) 1]? = some v := hP
    rw [leD_str] at q
    have ea : argBest (fun i j => decide ((if j = 0 then x else y).cps.toList < (if i = 0 then x else y).cps.toList)) 1 = if x.cps.toList < y.cps.toList then 1 else 0 := by
      simp [argBest]
    rw [ea] at hP
    by_cases hlt : x.cps.toList < y.cps.toList
    · rw [if_pos hlt] at hP
      rw [decide_eq_true hlt] at q
      cases hP
      exact q
    · rw [if_neg hlt] at hP
      rw [decide_eq_false hlt] at q
      cases hP
      exact q

def dMin2 : List D → Option D
  | [.int i, .int j] => some (.int (if j < i then j else i))
  | [.str x, .str y] => some (.str (if leD (.str x) (.str y) then x else y))
  | _ => none
def dMax2 : List D → Option D
  | [.int i, .int j] => some (.int (if j > i then j else i))
  | [.str x, .str y] => some (.str (if leD (.str y) (.str x) then x else y))
  | _ => none
def rTwoS (f : Str → Str → Str) : List V → Hp → VK → Prop := fun vs H Q => ∃ x y : Str, vs = [V.str x, V.str y] ∧ Q (.str (f x y)) H
theorem cr_min2S (hc : X.calm = true) : CallR X (.builtin "min") (rTwoS fun x y => if leD (.str x) (.str y) then x else y) := fun pins s σ H vs us Q I r h => by
  obtain ⟨x, y, rfl, q⟩ := h
  obtain ⟨u1, u2, rfl, r1, r2⟩ := vals2 r
  obtain ⟨t, rfl⟩ := (show ∃ t, u1 = Value.str x t from r1)
  obtain ⟨u, rfl⟩ := (show ∃ t, u2 = Value.str y t from r2)
  refine two_best (I.ok.hd hc) fun h' tk hk => ⟨.str (if leD (.str x) (.str y) then x else y), H, I.kept hk, ?_, q⟩
  split
  · exact ⟨t, rfl⟩
  · exact ⟨u, rfl⟩
theorem cr_max2S (hc : X.calm = true) : CallR X (.builtin "max") (rTwoS fun x y => if leD (.str y) (.str x) then x else y) := fun pins s σ H vs us Q I r h => by
  obtain ⟨x, y, rfl, q⟩ := h
  obtain ⟨u1, u2, rfl, r1, r2⟩ := vals2 r
  obtain ⟨t, rfl⟩ := (show ∃ t, u1 = Value.str x t from r1)
  obtain ⟨u, rfl⟩ := (show ∃ t, u2 = Value.str y t from r2)
  refine two_most (I.ok.hd hc) fun h' tk hk => ⟨.str (if leD (.str y) (.str x) then x else y), H, I.kept hk, ?_, q⟩
  split
  · exact ⟨t, rfl⟩
  · exact ⟨u, rfl⟩
theorem rp_two {x y : D} {vs : List V} (l : RpL K Xx H [x, y] vs) : ∃ u w, vs = [u, w] ∧ Rp K Xx H x u ∧ Rp K Xx H y w := by
  obtain ⟨u, ws, rfl, h1, h2⟩ := l.of_cons
  obtain ⟨w, wt, rfl, h3, h4⟩ := h2.of_cons
  rw [h4.of_nil]
  exact ⟨u, w, rfl, h1, h3⟩
theorem c_min2 (hc : X.calm = true) : HasCA X (.builtin "min") dMin2 := by
  refine ⟨fun vs H Q => (∃ i j, vs = [.int i, .int j] ∧ Q (.int (if j < i then j else i)) H) ∨ rTwoS (fun x y => if leD (.str x) (.str y) then x else y) vs H Q, fun pins s σ H vs us Q I r h => ?_, fun c σ H ρ xs z vs Q E l e k => ?_⟩
  · rcases h with h | h
    · exact call_min2 hc pins s σ H vs us Q I r h
    · exact cr_min2S hc pins s σ H vs us Q I r h
  · unfold dMin2 at e
    split at e <;> cases e
    · obtain ⟨u, w, rfl, h1, h2⟩ := rp_two l
      rw [h1.bo.int, h2.bo.int]
      exact .inl ⟨_, _, rfl, k _ _ E .int⟩
    · obtain ⟨u, w, rfl, h1, h2⟩ := rp_two l
      rw [h1.bo.str, h2.bo.str]
      exact .inr ⟨_, _, rfl, k _ _ E .str⟩
theorem c_max2 (hc : X.calm = true) : HasCA X (.builtin "max") dMax2 := by
  refine ⟨fun vs H Q => (∃ i j, vs = [.int i, .int j] ∧ Q (.int (if j > i then j else i)) H) ∨ rTwoS (fun x y => if leD (.str y) (.str x) then x else y) vs H Q, fun pins s σ H vs us Q I r h => ?_, fun c σ H ρ xs z vs Q E l e k => ?_⟩
  · rcases h with h | h
    · exact call_max2 hc pins s σ H vs us Q I r h
    · exact cr_max2S hc pins s σ H vs us Q I r h
  · unfold dMax2 at e
    split at e <;> cases e
    · obtain ⟨u, w, rfl, h1, h2⟩ := rp_two l
      rw [h1.bo.int, h2.bo.int]
      exact .inl ⟨_, _, rfl, k _ _ E .int⟩
    · obtain ⟨u, w, rfl, h1, h2⟩ := rp_two l
      rw [h1.bo.str, h2.bo.str]
      exact .inr ⟨_, _, rfl, k _ _ E .str⟩
/-! ### isinstance of several classes -/
def isiLB (ns : List String) (x : D) : Bool := ns.any fun n => isiB n x
def dIsiL (ns : List String) (x : D) : Option D := some (.bl (isiLB ns x))
theorem kit_any {ns : List String} (d : D) (h : ∀ n ∈ ns, isiAll n = true) : PySem.W.kitAny K (.type (tyN d)) (ns.map .type) = some (isiLB ns d) := by
  induction ns with
  | nil => rfl
  | cons n ns ih =>
    show (match PySem.W.kitOne K (.type (tyN d)) (.type n) with | some true => some true | some false => PySem.W.kitAny K (.type (tyN d)) (ns.map .type) | none => none) = _
    rw [isi_ok (h n List.mem_cons_self) d]
    unfold isiLB
    rw [List.any_cons]
    cases isiB n d with
    | true => rfl
    | false => exact ih fun m hm => h m (List.mem_cons_of_mem _ hm)
theorem cls_pair : ∀ ns : List String, Paired ClsV (ns.map V.ty) (ns.map Value.type)
  | [] => .nil
  | n :: ns => .cons (.ty n) (cls_pair ns)
/-- the classes' names, as arguments -/
structure ClsA (X : Cx) (es : List Expr) (ns : List String) : Prop where
  pa : PA X es fun σ H Q => Q (ns.map V.ty) H
  ok : ∀ n ∈ ns, isiAll n = true
theorem ClsA.nil : ClsA X [] [] := ⟨pa_imp pa_nil fun _ _ _ q => q, fun n h => by cases h⟩
theorem ClsA.cons {n : String} {cn : Str} {cp : Pos} {ns : List String} (hn : isiAll n = true) (hg : Gl X cn) (hm : X.mg cn = none) (hv : bootBuiltins cn = some (.type n)) (t : ClsA X es ns) (hne : cn ≠ "__name__" := by decide) (hdb : (cn == ("__debug__" : Str)) = false := by decide)
    (hs : starEach (.Name cn cp :: es) X.env = (false, eval (.Name cn cp) X.env) :: starEach es X.env := by rfl) : ClsA X (.Name cn cp :: es) (n :: ns) :=
  ⟨pa_imp (pa_cons (pe_bltn (v := .ty n) hg hm hv rfl hne hdb) t.pa hs) fun σ H Q q => q, fun m h => (List.mem_cons.mp h).elim (fun e => by rw [e]; exact hn) (t.ok m)⟩
theorem tyX_kept {H H' : Hp} {v : V} {t : Value} (k : ∀ b u, H b = some u → H' b = some u) (h : TyX K H v t) : TyX K H' v t := by
  cases h with
  | base h => cases h with
    | non => exact .base .non
    | bl y => exact .base (.bl y)
    | int i => exact .base (.int i)
    | str y => exact .base (.str y)
    | flt y => exact .base (.flt y)
    | lst ea => exact .base (.lst (k _ _ ea))
    | frz ea => exact .base (.frz (k _ _ ea))
    | tup ea => exact .base (.tup (k _ _ ea))
    | dK ea => exact .base (.dK (k _ _ ea))
    | dT ea => exact .base (.dT (k _ _ ea))
    | ins ea cl ha hn htk hm => exact .base (.ins (k _ _ ea) cl ha hn htk hm)
  | byt b => exact .byt b
  | set e => exact .set (k _ _ e)
  | kList e c => exact .kList e c
  | kTuple e c => exact .kTuple e c
  | kDict e c => exact .kDict e c
  | fTuple e => exact .fTuple (k _ _ e)
  | fDict e => exact .fDict (k _ _ e)
theorem ce_isiL {ns : List String} {k : Nat} (hl : ns.length ≤ 100) (ha : PD X e1 oa) (hc : ClsA X es ns) (hm : X.mg "isinstance" = none) (hv : bootBuiltins "isinstance" = some (.builtin "isinstance")) (hg : Gl X "isinstance" := by rfl)
    (he : starEach (e1 :: [.Tuple es k tpos]) X.env = (false, eval e1 X.env) :: starEach [.Tuple es k tpos] X.env := by rfl) (he2 : starEach (.Tuple es k tpos :: []) X.env = (false, eval (.Tuple es k tpos) X.env) :: starEach [] X.env := by rfl)
    (hpl : (backTo pos (starEach [.Tuple es k tpos] X.env)).any (·.1) = false := by rfl) : CE X (.Call (.Name "isinstance" np) [e1, .Tuple es k tpos] [] pos) (m1 oa (dIsiL ns)) := by
  refine pe_imp (pe_callB call_isiT hg hm hv (pa_cons ha (pa_cons (pe_tup hc.pa) pa_nil he2) he) (by decide) (by decide) he hpl) fun σ H Q h => ?_
  obtain ⟨c, ρ, z, ρ', E, e, k⟩ := h
  refine op1 E e fun x vx H' E' b1 w => ?_
  cases w
  refine ⟨by rw [List.length_map, sizeLine_eq]; omega, fun p np => ?_⟩
  have E2 := (E'.alloc (u := .tup (ns.map V.ty)) np).unex
  have hk : ∀ b u, H' b = some u → upd H' p (.tup (ns.map V.ty)) b = some u := fun b u q => by
    rw [upd_ne]
    · exact q
    · intro z
      rw [z, np] at q
      cases q
  exact ⟨vx, p, ns.map V.ty, _, ns.map Value.type, _, rfl, upd_same, cls_pair ns, tyX_kept hk (tyX_of b1), kit_any x hc.ok, k _ _ E2 .bl⟩
end
end DL

set_option Elab.async false
set_option linter.all false
set_option maxRecDepth 100000
namespace DL
open PySem PySem.Spec PyProof.Rows L2
section
variable {X : Cx} {K : PySem.W.Frag} {c c' : Fx} {σ σ2 : Sg} {H H' : Hp} {ρ ρ' ρ3 : En} {i j : Nat} {a p : Addr} {o : Ow} {d x y z : D} {v vx vy : V} {Q : VK} {ds : List D} {vs us : List V} {Xx : AP} {Dn : Ends} {ix : List Nat}
variable {e1 e2 e3 : Expr} {es : List Expr} {oa ob : Opd} {pos np apos cpos p1 p2 tpos spos py kpos : Pos} {nm nx ny : Str} {bid : String} {ma mb mk : Mm D} {kws : List Keyword} {kn : Option Str}
/-! ### defs with defaults -/
structure DfD (P : Program) (w : World) (K : PySem.W.Frag) (mg : Str → Option Value) (base : Heap) (k : Nat) (nm : Str) (n : Nat) (fm : Fm) (params : Arguments) (ps : List Str) (dvs : List V) : Prop where
  ex : ∃ (f : Addr) (fd : FuncData) (qual : Str) (body : List Stmt) (scope : Scope), FnOk P w K mg base CX0 k f fd ps (spM K n fm) ∧ FunD K nm qual params body scope dvs [] f fd ∧ mg nm = some (.ref f)
/-- a constant as an argument -/
def cAr (d : D) : Ar := .v (mC d)
theorem aR_consts : ∀ (as : List Ar) (ds : List D) {ρ ρ' : En} {xs : List Sm}, aR (as ++ ds.map cAr) ρ = some (xs, ρ') → ∃ ys, xs = ys ++ ds.map .inl ∧ aR as ρ = some (ys, ρ')
  | [], [], ρ, ρ', xs, h => by cases h; exact ⟨[], rfl, rfl⟩
  | [], d :: ds, ρ, ρ', xs, h => by
    obtain ⟨x, ρ1, e1, f1⟩ := bd_some (show bd (mC d) (fun x => bd (aR (ds.map cAr)) fun xs => ret (.inl x :: xs)) ρ = some (xs, ρ') from h)
    cases e1
    obtain ⟨zs, ρ2, e2, f2⟩ := bd_some f1
    cases f2
    obtain ⟨ys, e3, e4⟩ := aR_consts [] ds e2
    cases e4
    exact ⟨[], by rw [e3]; rfl, rfl⟩
  | .v m :: as, ds, ρ, ρ', xs, h => by
    obtain ⟨x, ρ1, e1, f1⟩ := bd_some (show bd m (fun x => bd (aR (as ++ ds.map cAr)) fun xs => ret (.inl x :: xs)) ρ = some (xs, ρ') from h)
    obtain ⟨zs, ρ2, e2, f2⟩ := bd_some f1
    cases f2
    obtain ⟨ys, e3, e4⟩ := aR_consts as ds e2
    exact ⟨.inl x :: ys, by rw [e3]; rfl, by unfold aR; rw [bd_eq e1, bd_eq e4]; rfl⟩
  | .o i :: as, ds, ρ, ρ', xs, h => by
    rw [List.cons_append] at h
    unfold aR at h
    split at h
    · rename_i o w
      obtain ⟨zs, ρ2, e2, f2⟩ := bd_some h
      cases f2
      obtain ⟨ys, e3, e4⟩ := aR_consts as ds e2
      exact ⟨.inr i :: ys, by rw [e3]; rfl, by unfold aR; rw [w]; dsimp only; rw [bd_eq e4]; rfl⟩
    · cases h
theorem te_callD {n : Nat} {fm : Fm} {as : List Ar} {ds : List D} {dvs : List V} {E : XK} (hd : ∀ (Xx : AP) (H : Hp), RpL K Xx H ds dvs) (q : tRs K (mCallR n fm (as ++ ds.map cAr)) σ H Q) : tCall (spM K n fm) dvs E (tAr K as) σ H Q := by
  obtain ⟨c, ρ, r, ρ', E, e, k⟩ := q
  unfold mCallR at e
  split at e
  · rename_i xs ρ1 w
    obtain ⟨ys, rfl, w2⟩ := aR_consts as ds w
    refine ⟨c, ρ, ys, ρ1, E, w2, fun vs H1 E1 l => call_ok E1 (l.app ?_) e k⟩
    have g := hd (Xo c σ ρ1) H1
    clear e w hd
    induction ds generalizing dvs with
    | nil => rw [g.of_nil]; rfl
    | cons d ds ih =>
      obtain ⟨v, ws, rfl, h1, h2⟩ := g.of_cons
      exact ⟨v, ws, rfl, h1, ih h2⟩
  · cases e
theorem pe_defD {k n : Nat} {fm : Fm} {params : Arguments} {ps : List Str} {as : List Ar} {dvs : List V} (n0 j : Nat) (ds : List D) (F : DfD X.prog X.w X.K X.mg X.base k nm n fm params ps dvs) (hr : Room k X.A) (ha : CR X (e1 :: es) as) (hds : ∀ (Xx : AP) (H : Hp), RpL X.K Xx H ds (dvs.drop j)) (hne : dvs ≠ []) (hn : n0 + (dvs.length - j) = ps.length)
    (hb : ∀ (qual : Str) (body : List Stmt) (scope : Scope) (T : Addr) (kV doc pm : Value) (an : Option Addr) (cdv ct : Value) (us its : List Value), us.length = n0 → its.length = dvs.length → ∃ k, bindArgs (PySem.W.fnOf nm qual params body scope (.ref T) kV doc pm an cdv ct) ⟨us, []⟩ = seqItems? (.ref T) >>= k ∧ k (some its.toArray) = pure (ps.zip (us ++ its.drop j)))
    (hg : Gl X nm := by rfl) (hdb : (nm == ("__debug__" : Str)) = false := by decide) (he : starEach (e1 :: es) X.env = (false, eval e1 X.env) :: starEach es X.env := by rfl) (hpl : (backTo pos (starEach es X.env)).any (·.1) = false := by rfl) :
    PE X (.Call (.Name nm np) (e1 :: es) [] pos) (tRs X.K (mCallR n fm (as ++ ds.map cAr))) := by
  obtain ⟨f, fd, qual, body, scope, ok, D, hm⟩ := F.ex
  obtain ⟨us, r, b⟩ := D.binds1 n0 j hne hn fun T kV doc pm an cdv ct us its h1 h2 => hb qual body scope T kV doc pm an cdv ct us its h1 h2
  exact pe_imp (pe_call (E := E0) ok hr hg hm D.kp b r (fun _ _ _ _ _ _ _ h => h.elim) ha hdb he hpl) fun σ H Q => te_callD hds
end
end DL

set_option Elab.async false
set_option linter.all false
set_option maxRecDepth 100000
namespace DL
open PySem PySem.Spec PyProof.Rows L2
/-! ### key=lambda w: (len(w), w) -/
/-- the text of such a lambda -/
structure KeyLam (params : Arguments) (body : Expr) (scope : Scope) (wn : Str) : Prop where
  tx : ∃ (p1 p2 p3 p4 p5 : Pos) (k : Nat), body = .Tuple [.Call (.Name "len" p1) [.Name wn p2] [] p3, .Name wn p4] k p5
  kind : scope.kind = .function
  co : scope.isCoroutine = false
  gen : scope.isGenerator = false
  nc : ∀ x ∈ scope.names, x.2 ≠ .cell ∧ x.2 ≠ .free
  w : scope.names.lookup wn = some .local
  l : scope.names.lookup ("len" : Str) = some .globalImplicit
  wl : (wn == ("__debug__" : Str)) = false
  bind : ∀ (q : Str) (cl : List (Str × Addr)) (pm cv ctv : Value) (v : Value), bindArgs (PySem.W.kla_fn "<lambda>" q params body scope cl pm cv ctv) ⟨[v], []⟩ = pure [(wn, v)]
section
variable {prog : Program} {w : World} {A : Around} {E : Value → Shared → Prop} {s : Shared} {params : Arguments} {body : Expr} {scope : Scope} {wn q : Str} {mg mb : Str → Option Value}
theorem cloFrom_nil {cells : List (Str × Addr)} : ∀ {names : List (Str × NameKind)}, (∀ x ∈ names, x.2 ≠ .cell ∧ x.2 ≠ .free) → cloFrom cells names [] = [] := by
  intro names h
  rcases e : cloFrom cells names [] with _ | ⟨z, zs⟩
  · rfl
  · have m : z ∈ cloFrom cells names [] := by rw [e]; exact List.mem_cons_self
    rcases cloFrom_mem (n := z.1) (c := z.2) m with hm | ⟨h1, _⟩
    · cases hm
    · exact absurd rfl (h _ h1).2
/-- the body's run: a new tuple of the length and the thing -/
theorem key_body {e : Env} {v : Value} {a : Addr} {its : Array Value} {Q : Value → Shared → Prop} (L : KeyLam params body scope wn) (hs : e.scope = scope) (hg : s.heap.Ns e.globals mg) (hm : mg "len" = none) (hb : s.heap.Ns e.builtins mb) (hbl : mb "len" = some (.builtin "len"))
    (hl : s.heap.Ns e.locals fun x => ([(wn, v)] : List (Str × Value)).reverse.lookup x) (hv : v = .ref a) (ht : IsTup s.heap a its) (hz : (its.size : Int) < 2 ^ 63)
    (h : Q (.ref s.heap.objs.size) { s with heap := s.heap.push { cls := .type "tuple", data := .seq #[.int its.size (s.toks + 1), v] }, toks := s.toks + 1 + 1 }) : wpAny (model prog w) A (eval body e) Q E s := by
  obtain ⟨p1, p2, p3, p4, p5, k, rfl⟩ := L.tx
  have kd : ∀ x, e.kindOf x = scope.names.lookup x := fun x => by rw [← hs]; rfl
  have nm : ∀ (p : Pos) (s1 : Shared) (Q1 : Value → Shared → Prop), s1.heap = s.heap → Q1 v s1 → wpAny (model prog w) A (eval (.Name wn p) e) Q1 E s1 := fun p s1 Q1 es q =>
    wpAny_Name (wpAny_loadName_local (by rw [hs]; exact L.kind) (by rw [kd]; exact L.w) (by rw [es]; exact hl) (by show ([(wn, v)].reverse).lookup wn = some v; simp) q) L.wl
  refine wpAny_Tuple_spliced ?_
  refine Calls.spliced_cons (wpAny_Call_Name_kw (Calls.Name_function_global (by rw [hs]; exact L.kind) (by rw [kd]; exact L.l) (Calls.loadGlobal_builtin hg hm hb hbl ?_)))
  refine PyProof.Rows.callWith_builtin1 (Calls.spliced_cons (nm p2 s _ rfl (Calls.spliced_nil ?_)))
  rw [hv]
  refine PyProof.Rows.len_tuple ht hz (Calls.spliced_cons (nm p4 _ _ rfl (Calls.spliced_nil ⟨by rw [sizeLine_eq]; show 2 ≤ 16777216; decide, ?_⟩)))
  rw [hv] at h ⊢
  exact h
/-- the lambda called -/
theorem key_call {f a c' : Addr} {pm ctv : Value} {its : Array Value} {Q : Value → Shared → Prop} {cl : List (Str × Addr)} (L : KeyLam params body scope wn) (hcl : cl = []) (hr : A.depth < recursionLimit) (hf : s.heap.get? f = some (PySem.W.kla_obj "<lambda>" q params body scope cl pm c' ctv)) (hc : s.heap.CodeRec (.ref c') q)
    (hlim : s.heap.NoLimit) (hg : s.heap.Ns mainGlobals mg) (hm : mg "len" = none) (hb : s.heap.Ns builtinsNs mb) (hbl : mb "len" = some (.builtin "len")) (ht : IsTup s.heap a its) (hz : (its.size : Int) < 2 ^ 63)
    (h : ∀ (h' : Heap) (t : Addr) (n : Nat) (tk tk' : Nat), (∀ b o, s.heap.get? b = some o → h'.get? b = some o) → s.heap.objs.size ≤ t → h'.get? t = some { cls := .type "tuple", data := .seq #[.int its.size tk', .ref a] n } → Q (.ref t) { s with heap := h', toks := tk }) :
    wpAny (model prog w) A (call (.ref f) [.ref a]) Q E s := by
  refine wpAny_call (PySem.W.kla_callFunE hr hf rfl L.co L.gen rfl hc ?_)
  rw [L.bind]
  refine wpAny_pure (wpAny_newFunctionEnv (fun x hx => (L.nc x hx).1) (fun x hx => by rw [List.mem_singleton] at hx; rw [hx]; exact L.w) (fun h₁ hns hsb => ?_) L.kind)
  have kp : ∀ b o, s.heap.get? b = some o → h₁.get? b = some o := fun b o e => hsb.extBut b o (Nat.ne_of_lt (Heap.lt_size e)) (Heap.get?_push_of_some _ e)
  refine ⟨hlim.fresh _ hsb, PySem.W.kla_codeExpr (key_body (mg := mg) (mb := mb) (v := .ref a) L rfl (hg.keeps kp) hm (hb.keeps kp) hbl hns rfl (its := its) ?_ hz ?_)⟩
  · obtain ⟨o, e, r⟩ := ht
    exact ⟨o, kp _ _ e, r⟩
  · have e1 : s.heap.objs.size ≤ h₁.objs.size := by
      rw [hsb.1]; simp [Heap.push]
    exact h (h₁.push _) h₁.objs.size _ _ _ (fun b o e => Heap.get?_push_of_some _ (kp b o e)) e1 (Heap.get?_push_size _ rfl)
end
end DL

set_option Elab.async false
set_option linter.all false
set_option maxRecDepth 100000
namespace DL
open PySem PySem.Spec PyProof.Rows L2
section
variable {K : PySem.W.Frag} {c : Fx} {σ : Sg} {H H' : Hp} {ρ : En}
theorem Still.grow {X : AP} {b : Addr} {o : HO} (h : Still X b o H) (k : ∀ b w, H b = some w → (∀ ps, w ≠ .tbl ps) → H' b = some w) (t : ∀ b ps, H b = some (.tbl ps) → ∃ ps', H' b = some (.tbl ps')) : Still X b o H' := by
  rcases h with h | ⟨n, ob, kvs, e, h⟩ | ⟨ps, ps', e, h⟩
  · by_cases z : ∃ ps, o = .tbl ps
    · obtain ⟨ps, rfl⟩ := z
      obtain ⟨ps', e⟩ := t _ _ h
      exact .inr (.inr ⟨ps, ps', rfl, e⟩)
    · exact .inl (k _ _ h fun ps e => z ⟨ps, e⟩)
  · exact .inr (.inl ⟨n, ob, kvs, e, k _ _ h fun _ z => nomatch z⟩)
  · obtain ⟨ps2, e2⟩ := t _ _ h
    exact .inr (.inr ⟨ps, ps2, e, e2⟩)
/-- tables grow, all else stays -/
theorem ER.grow (E : ER K c σ H ρ) (k : ∀ b w, H b = some w → (∀ ps, w ≠ .tbl ps) → H' b = some w) (t : ∀ b ps, H b = some (.tbl ps) → ∃ ps', H' b = some (.tbl ps')) (j : JK K H') : ER K c σ H' ρ := by
  have kr : Kp (Xo c σ ρ) H H' := ⟨fun a u hp q _ => by
    rcases q with q | ⟨w, q⟩
    · exact .inl (k _ _ q hp.2)
    · exact .inr ⟨w, k _ _ q fun _ z => nomatch z⟩, fun a ob vs q _ => k _ _ q fun _ z => nomatch z⟩
  have kn : ∀ b, H b ≠ none → H' b ≠ none := fun b h z => by
    cases e : H b with
    | none => exact h e
    | some u =>
      by_cases y : ∃ ps, u = .tbl ps
      · obtain ⟨ps, rfl⟩ := y
        obtain ⟨ps', e2⟩ := t _ _ e
        rw [e2] at z
        cases z
      · rw [k _ _ e fun ps q => y ⟨ps, q⟩] at z
        cases z
  have ka : ∀ {a : Addr} {o : Ow} {X : AP}, OwAt K X H a o → ∀ u, H a = some u → H' a = some u := fun {a o X} h u e => by
    refine k _ _ e fun ps z => ?_
    cases o with
    | lst ds => obtain ⟨_, e2, _⟩ := h; rw [e, z] at e2; cases e2
    | dct ks ds => obtain ⟨_, e2, _⟩ := h; rw [e, z] at e2; cases e2
  refine ⟨E.len, fun i d h => ?_, fun i o h => ?_, fun i o h => ?_, E.inj, fun b o h1 h2 => (E.fr b o h1 h2).grow k t, fun l h => k _ _ (E.fz l h) (fun _ z => nomatch z), fun l h nt => k _ _ (E.hd l h nt) nt, fun a h => kn _ (E.iot a h), fun a h => kn _ (E.x0 a h), fun q hq => (E.tmp q hq).keep (fun _ z => z) kr, j⟩
  · obtain ⟨v, e, r⟩ := E.va i d h
    exact ⟨v, e, r.keep (fun _ z => z) kr⟩
  · obtain ⟨a, e, r, n⟩ := E.ow i o h
    exact ⟨a, e, r.keep (fun _ z => z) kr (ka r), n⟩
  · obtain ⟨a, e, r, n⟩ := E.io i o h
    exact ⟨a, e, r.keep (fun _ z => z) kr (ka r), n⟩
end
/-- what a def that makes lambdas knows of its own table -/
structure LB (X : Cx) (q : Str) : Prop where
  tab : ∃ c P, X.env.code = .ref c ∧ LamX.TabB X.base X.mg c P ∧ LamAt X.K P q ∧ ∀ q', LamAt X.K P q' → q' = q
  q : q = X.env.qual ++ "<lambda>"
section
variable {X : Cx} {pins : List (Addr × Obj)} {σ : L2.St} {H : Hp} {s : Shared} {q : Str} {params : Arguments} {body : Expr} {scope : Scope} {pos : Pos}
/-- the lambda is made -/
theorem lam_new {E : Value → Shared → Prop} {Q : Value → Shared → Prop} (I : Inv X pins σ H s) (B : LB X q) (J : JK X.K H) (hdef : defaultsOf params X.env = ([], [])) (hfree : ∀ y ∈ scope.names, y.2 = .free → ∃ c, X.env.cells.lookup y.1 = some c)
    (h : ∀ (f c' : Addr) (pm ctv : Value) (H1 : Hp) (s' : Shared), Inv X pins σ H1 s' → (∀ b w, H b = some w → (∀ ps, w ≠ .tbl ps) → H1 b = some w) → (∀ b ps, H b = some (.tbl ps) → ∃ ps', H1 b = some (.tbl ps')) → JK X.K H1 →
      s'.heap.get? f = some (PySem.W.kla_obj "<lambda>" q params body scope (cloFrom X.env.cells scope.names []) pm c' ctv) → H1 f = none → f ∉ frs X.stack → H1 c' = some (LamX.CodeO c' q) → Q (.ref f) s') :
    wpAny (model X.prog X.w) X.A (eval (.Lambda params body scope pos) X.env) Q E s := by
  obtain ⟨⟨c, P, hcode, TB, hat, hun⟩, rfl⟩ := B
  obtain ⟨ps, hP, ht, ha⟩ := J _ _ hat
  have ff : ∀ f, s.heap.objs.size ≤ f → f ∉ frs X.stack := fun f hf z => by
    rcases List.mem_cons.mp (I.stkSub _ z) with e | e
    · have y := I.lt
      rw [← e] at y
      exact absurd hf (Nat.not_le.mpr y)
    · exact I.nofs hf e
  have hP' := I.hok P _ hP
  refine PySem.W.kla_eval hdef ?_
  rcases hc : codeAmong pos ps.toList with _ | cv
  · refine PySem.W.kla_makeFunction (P := P) (c := c) (mg := X.mg) (ps := ps) (closure_ok hfree) I.ok.glob (I.mod.glob.keeps I.bk) hcode (TB.code.keeps I.bk) hP' ht hc TB.gP (TB.bm.keeps I.bk) fun c' ctv h' tk hx hge hlt hrec htb => ?_
    obtain ⟨c2, oc, vs, t, e2, hoc, hd, hv⟩ := hrec
    cases e2
    have nC : H c' = none := I.hok.fresh hge
    have nP : P ≠ c' := ne_of_none hP nC
    have z1 : s.heap.objs.size ≤ h'.objs.size := by omega
    have I1 := LamX.inv_table (t' := tk) (more := #[rawInt pos.line, rawInt pos.col, .ref c']) I hP (fun b o hb e => Heap.get?_push_of_some (PySem.W.kla_obj "<lambda>" (X.env.qual ++ "<lambda>") params body scope (cloFrom X.env.cells scope.names []) ((X.mg "__name__").getD .none) c' ctv) (hx b o hb e))
      (Heap.get?_push_of_some _ htb) hge ⟨oc, vs, t, Heap.get?_push_of_some _ hoc, hd, hv⟩
    have kk : ∀ b w, H b = some w → (∀ ps, w ≠ .tbl ps) → upd (upd H P (.tbl (ps ++ #[rawInt pos.line, rawInt pos.col, .ref c']))) c' (LamX.CodeO c' (X.env.qual ++ "<lambda>")) b = some w := fun b w e n => by
      rw [upd_ne (ne_of_none e nC), upd_ne fun z => n ps (Option.some.inj (e.symm.trans (by rw [z]; exact hP))), e]
    have kP : upd (upd H P (.tbl (ps ++ #[rawInt pos.line, rawInt pos.col, .ref c']))) c' (LamX.CodeO c' (X.env.qual ++ "<lambda>")) P = some (.tbl (ps ++ #[rawInt pos.line, rawInt pos.col, .ref c'])) := by
      rw [upd_ne nP, upd_same]
    refine h h'.objs.size c' _ ctv _ _ I1 kk (fun b qs e => ?_) (fun P2 q2 l2 => ?_) (Heap.get?_push_size _ rfl) ?_ (ff _ z1) upd_same
    · by_cases hb : b = P
      · exact ⟨_, by rw [hb]; exact kP⟩
      · exact ⟨qs, by rw [upd_ne (ne_of_none e nC), upd_ne hb, e]⟩
    · by_cases hb : P2 = P
      · subst hb
        rw [hun q2 l2]
        have eL : (ps ++ #[rawInt pos.line, rawInt pos.col, Value.ref c']).toList = ps.toList ++ [rawInt pos.line, rawInt pos.col, .ref c'] := by simp
        refine ⟨_, kP, by rw [eL]; exact PySem.TriplesOk_snoc _ _ _ _ ht, fun p' cv hcv => ?_⟩
        rw [eL] at hcv
        rcases LamX.among_app _ ht hcv with z | z
        · obtain ⟨c0, e1, e2⟩ := ha p' cv z
          exact ⟨c0, e1, kk _ _ e2 LamX.codeO_ne⟩
        · exact ⟨c', z, upd_same⟩
      · obtain ⟨ps2, a1, a2, a3⟩ := J P2 q2 l2
        refine ⟨ps2, by rw [upd_ne (ne_of_none a1 nC), upd_ne hb, a1], a2, fun p' cv hcv => ?_⟩
        obtain ⟨c0, e1, e2⟩ := a3 p' cv hcv
        exact ⟨c0, e1, kk _ _ e2 LamX.codeO_ne⟩
    · have := Heap.lt_size hP'
      rw [upd_ne (Nat.ne_of_gt hlt), upd_ne (Nat.ne_of_gt (Nat.lt_of_lt_of_le this z1))]
      exact I.hok.fresh z1
  · obtain ⟨c', e, hco⟩ := ha pos cv hc
    subst e
    refine PySem.W.kla_makeFunctionHit (P := P) (c := c) (mg := X.mg) (ps := ps) (closure_ok hfree) I.ok.glob (I.mod.glob.keeps I.bk) hcode (TB.code.keeps I.bk) hP' ht hc (TB.bm.keeps I.bk) fun ctv h' tk hx hsz => ?_
    exact h h'.objs.size c' _ ctv H _ (I.kept fun b o e => Heap.get?_push_of_some _ (hx b o e)) (fun _ _ e _ => e) (fun _ ps e => ⟨ps, e⟩) J (Heap.get?_push_size _ rfl) (I.hok.fresh hsz) (ff _ hsz) hco
end
end DL

set_option Elab.async false
set_option linter.all false
set_option maxRecDepth 100000
namespace DL
open PySem PySem.Spec PyProof.Rows L2
/-- the key of a row: its length, then itself -/
def kp (ys : List PyData) : PyData := .tuple [.int ys.length, .tuple ys]
/-- what stays while min asks the lambda -/
def JM (s s' : Shared) : Prop := (∀ b o, s.heap.get? b = some o → s'.heap.get? b = some o) ∧ s'.gens = s.gens ∧ s'.drawn = s.drawn ∧ s'.os = s.os
theorem JM.at {s s' : Shared} (j : JM s s') : s' = { s with heap := s'.heap, toks := s'.toks } := by
  obtain ⟨hp, g, d, tk, os⟩ := s'
  obtain ⟨_, h1, h2, h3⟩ := j
  cases h1
  cases h2
  cases h3
  rfl
section
variable {prog : Program} {w : World} {A : Around} {E : Value → Shared → Prop} {s : Shared} {params : Arguments} {body : Expr} {scope : Scope} {wn q : Str} {mg mb : Str → Option Value}
theorem min_key {l f c' : Addr} {pm ctv : Value} {cl : List (Str × Addr)} {its : Array Value} {n : Nat} {dd : Nat → List PyData} {Q : Value → Shared → Prop} (hh : A.handled = none) (hl : s.heap.IsList l its) (hn : its.size = n + 1)
    (hi : ∀ i v, its[i]? = some v → ∃ a jts as, v = .ref a ∧ IsTup s.heap a jts ∧ (jts.size : Int) < 2 ^ 63 ∧ jts.size = (dd i).length ∧ Reads s.heap v (.tuple (dd i)) as)
    (ha : ∀ i j, i ≤ n → j ≤ n → PySem.W.alike (kp (dd i)) (kp (dd j)) = true) (hdep : ∀ i, i ≤ n → (kp (dd i)).depth ≤ 62) (hu : A.units + 64 < cLine)
    (L : KeyLam params body scope wn) (hcl : cl = []) (hr : A.depth < recursionLimit) (hf : s.heap.get? f = some (PySem.W.kla_obj "<lambda>" q params body scope cl pm c' ctv)) (hc : s.heap.CodeRec (.ref c') q)
    (hlim : s.heap.NoLimit) (hg : s.heap.Ns mainGlobals mg) (hm : mg "len" = none) (hb : s.heap.Ns builtinsNs mb) (hbl : mb "len" = some (.builtin "len"))
    (h : ∀ v h' tk, its[argBest (fun i j => PySem.W.dataLt (kp (dd i)) (kp (dd j))) n]? = some v → (∀ b o, s.heap.get? b = some o → h'.get? b = some o) → Q v { s with heap := h', toks := tk }) :
    wpAny (model prog w) A (call (.builtin "min") [.ref l] [(Str.ofString "key", .ref f)]) Q E s := by
  refine PySem.call_min_walkK (PySem.W.iter_listW (A := A.in1) hh hl fun s₂ e W st hfp hw hk => ?_)
  have z2 : s₂.heap.objs.size = s.heap.objs.size + 1 := by rw [e]; exact Heap.size_push _ _
  have old : ∀ {b : Addr} {o : Obj}, s.heap.get? b = some o → b ∉ s₂.heap.objs.size :: [s.heap.objs.size] := fun {b o} e2 hb => by
    have := Heap.lt_size e2
    rw [z2] at hb
    rcases List.mem_cons.mp hb with rfl | hb
    · exact absurd (Nat.lt_succ_of_lt this) (Nat.lt_irrefl _)
    · rw [List.mem_singleton.mp hb] at this
      exact absurd this (Nat.lt_irrefl _)
  have ilt : ∀ i v, its[i]? = some v → i ≤ n := fun i v e => by
    have := (Array.getElem?_eq_some_iff.mp e).1
    omega
  refine ⟨_, _, _, _, _, _, _, JM s, fun i k s' => ∃ (t : Addr) (v : Value) (tk m : Nat), k = .ref t ∧ its[i]? = some v ∧ t ∉ s₂.heap.objs.size :: [s.heap.objs.size] ∧ s'.heap.get? t = some { cls := .type "tuple", data := .seq #[.int (dd i).length tk, v] m } ∧ ∀ b o, s.heap.get? b = some o → s'.heap.get? b = some o,
    fun i j => PySem.W.dataLt (kp (dd i)) (kp (dd j)), rfl, W, st, hfp, by omega, ⟨fun s1 s2 j m => ?_, fun i k s1 s2 v m => ?_, fun i v s1 o Q1 E1 hin hP j hst hS k => ?_, fun i j ki kj s1 Q1 E1 jj vi vj hq => ?_⟩, by rw [e]; exact ⟨fun b o e => Heap.get?_push_of_some _ e, rfl, rfl, rfl⟩, fun v s' hP j => ?_⟩
  · exact ⟨fun b o e => m.heap b o (old e) (j.1 b o e), (show s2.gens = s1.gens from m.gens).trans j.2.1, m.drawn.trans j.2.2.1, m.os.trans j.2.2.2⟩
  · obtain ⟨t, v, tk, m2, e1, e2, e3, e4, e5⟩ := v
    exact ⟨t, v, tk, m2, e1, e2, e3, m.heap _ _ e3 e4, fun b o e => m.heap b o (old e) (e5 b o e)⟩
  · obtain ⟨a, jts, as, rfl, g1, g2, g3, g4⟩ := hi i v hP
    obtain ⟨⟨it, i1, i2, i3⟩, hli⟩ := hst
    refine key_call (A := A.in1) (mg := mg) (mb := mb) (its := jts) L hcl hr (j.1 _ _ hf) ?_ (hlim.keeps j.1) (hg.keeps j.1) hm (hb.keeps j.1) hbl (g1.keeps j.1) g2 fun h' t m tk tk' kk ht hg' => ?_
    · obtain ⟨c2, oc, vs, t, e1, e2, e3, e4⟩ := hc
      exact ⟨c2, oc, vs, t, e1, j.1 _ _ e2, e3, e4⟩
    · refine k _ _ ⟨fun b o e => kk b o (j.1 b o e), j.2⟩ ⟨⟨it, kk _ _ i1, i2, i3⟩, ?_⟩ (kk _ _ hS) ⟨t, .ref a, tk', m, rfl, hP, fun hb => ?_, by rw [← g3]; exact hg', fun b o e => kk b o (j.1 b o e)⟩ fun j2 k2 hv => ?_
      · obtain ⟨o2, x1, x2⟩ := hli
        exact ⟨o2, kk _ _ x1, x2⟩
      · have l1 := Heap.lt_size hS
        have l2 := Heap.lt_size i1
        rcases List.mem_cons.mp hb with rfl | hb
        · exact absurd (Nat.lt_of_lt_of_le l1 ht) (Nat.lt_irrefl _)
        · rw [List.mem_singleton.mp hb] at ht
          exact absurd (Nat.lt_of_lt_of_le l2 ht) (Nat.lt_irrefl _)
      · obtain ⟨t, v, tk, m2, e1, e2, e3, e4, e5⟩ := hv
        exact ⟨t, v, tk, m2, e1, e2, e3, kk _ _ e4, fun b o e => kk b o (e5 b o e)⟩
  · obtain ⟨t1, v1, tk1, m1, rfl, p1, _, p2, p3⟩ := vi
    obtain ⟨t2, v2, tk2, m2, rfl, r1, _, r2, r3⟩ := vj
    obtain ⟨a1, j1, as1, _, _, _, _, d1⟩ := hi i v1 p1
    obtain ⟨a2, j2, as2, _, _, _, _, d2⟩ := hi j v2 r1
    have q1 : ∃ as, Reads s1.heap (.ref t1) (kp (dd i)) as := ⟨_, .tuple p2 rfl rfl (.cons (.int _ _) (.cons (PySem.W.reads_keeps p3 d1) .nil))⟩
    have q2 : ∃ as, Reads s1.heap (.ref t2) (kp (dd j)) as := ⟨_, .tuple r2 rfl rfl (.cons (.int _ _) (.cons (PySem.W.reads_keeps r3 d2) .nil))⟩
    obtain ⟨x1, q1⟩ := q1
    obtain ⟨x2, q2⟩ := q2
    refine PySem.W.rcLt_alike _ _ A.in1 s1 (.ref t1) (.ref t2) _ _ q1 q2 (ha i j (ilt _ _ p1) (ilt _ _ r1)) (fun z => by cases z) ?_ prog w E1 Q1 hq
    have := hdep i (ilt _ _ p1)
    have := Nat.min_le_left (kp (dd i)).depth (kp (dd j)).depth
    show A.units + 1 + _ < _
    omega
  · rw [j.at]
    have e1 : its.size - 1 = n := by omega
    rw [e1] at hP
    exact h v _ _ hP j.1
end
/-! ### the rule -/
def rowOf : D → List D
  | .tup xs => xs
  | _ => []
def kd (d : D) : D := .tup [.int (rowOf d).length, .tup (rowOf d)]
/-- the first of the least, by length, then by itself -/
def minK (x : D) (xs : List D) : D := xs.foldl (fun a y => if leD (kd a) (kd y) then a else y) x
def minKOk (ds : List D) : Bool := plL ds && alikeB (ds.map kd) && (ds.all fun d => decide ((kd d).py.depth ≤ 62)) && ds.all tupB
def dMinW : D → Option D
  | .lst (x :: xs) => if minKOk (x :: xs) then some (minK x xs) else none
  | _ => none
theorem pyL_len (xs : List D) : (pyL xs).length = xs.length := by rw [pyL_map, List.length_map]
theorem kd_py (d : D) : (kd d).py = kp (pyL (rowOf d)) := by
  unfold kd D.py
  simp only [pyL]
  unfold kp
  rw [pyL_len]
  unfold D.py
  rfl
theorem dataLt_kd (a y : D) : PySem.W.dataLt (kp (pyL (rowOf y))) (kp (pyL (rowOf a))) = !leD (kd a) (kd y) := by
  rw [← kd_py, ← kd_py]
  show _ = !!PySem.W.dataLt (kd y).py (kd a).py
  rw [Bool.not_not]
theorem minK_fold (x : D) (xs : List D) : xs.foldl (fun a y => if (!leD (kd a) (kd y)) = true then y else a) x = minK x xs := by
  unfold minK
  congr 1
  funext a y
  cases leD (kd a) (kd y) <;> rfl
theorem rd_grow {H H' : Hp} {a : Addr} {u : HO} (h : Rd H a u) (n : ∀ ps, u ≠ .tbl ps) (k : ∀ b w, H b = some w → (∀ ps, w ≠ .tbl ps) → H' b = some w) : Rd H' a u := by
  rcases h with h | ⟨o, h⟩
  · exact .inl (k _ _ h n)
  · exact .inr ⟨o, k _ _ h fun _ z => nomatch z⟩
theorem argBest_fold' (d : D) (ds : List D) : (d :: ds).getD (argBest (fun i j => PySem.W.dataLt (kp (pyL (rowOf ((d :: ds).getD i .non)))) (kp (pyL (rowOf ((d :: ds).getD j .non))))) ds.length) .non = ds.foldl (fun a y => if (!leD (kd a) (kd y)) = true then y else a) d := by
  have e := (PySem.W.argBest_fold (fun y a => !leD (kd a) (kd y)) D.non d ds ds.length (Nat.le_refl _)).2
  rw [List.take_length] at e
  rw [← e]
  congr 2
  funext i j
  rw [dataLt_kd]
section
variable {X : Cx} {oa : Opd} {params : Arguments} {body : Expr} {scope : Scope} {wn q nm : Str} {e1 : Expr} {np pos lpos kpos : Pos}
theorem ce_minW (hc : X.calm = true) (hu : X.A.units + 64 < cLine) (hr : X.A.depth < recursionLimit) (B : LB X q) (L : KeyLam params body scope wn) (hdef : defaultsOf params X.env = ([], [])) (hg : Gl X nm) (hm : X.mg nm = none) (hv : bootBuiltins nm = some (.builtin "min")) (hlen : X.mg "len" = none) (ha : PD X e1 oa)
    (hn : nm ≠ "__name__" := by decide) (hdb : (nm == ("__debug__" : Str)) = false := by decide)
    (hs : starEach (e1 :: []) X.env = (false, eval e1 X.env) :: starEach [] X.env := by rfl)
    (he : backTo pos (starEach (e1 :: []) X.env) = (false, eval e1 X.env) :: backTo pos (starEach [] X.env) := by rfl) (hpl : (backTo pos (starEach (e1 :: []) X.env)).any (·.1) = false := by rfl)
    (hall : (backToKw pos (keywordEach [⟨some "key", .Lambda params body scope lpos, kpos⟩] X.env)).all (·.1.isSome) = true := by rfl) (hnone : (backToKw pos (keywordEach [⟨some "key", .Lambda params body scope lpos, kpos⟩] X.env)).any (·.1.isNone) = false := by rfl)
    (hks : (backToKw pos (keywordEach [⟨some "key", .Lambda params body scope lpos, kpos⟩] X.env)).filterMap (·.1) = [("key" : Str)] := by rfl) :
    CE X (.Call (.Name nm np) [e1] [⟨some "key", .Lambda params body scope lpos, kpos⟩] pos) (m1 oa dMinW) := by
  refine ⟨fun pins s σ H Q I h => ?_⟩
  obtain ⟨c, ρ, z, ρ', E, e, k⟩ := h
  refine wpAny_Call_Name_kw (ld_blt I hg hm hv ?_ hn hdb)
  refine PyProof.Rows.callWith_kw (thn ((pa_cons ha pa_nil hs).run pos pins s σ H (fun vs H1 => ∃ x vx, vs = [vx] ∧ ER X.K c σ H1 ρ' ∧ Bo X.K (Xo c σ ρ') H1 x vx ∧ dMinW x = some z) I
    (op1 E e fun x vx H1 E1 b w => ⟨x, vx, rfl, E1, b, w⟩)) fun us s1 ⟨vs, H1, I1, r1, q1⟩ => ?_) he hpl hall hnone
  obtain ⟨x, vx, rfl, E1, b, w⟩ := q1
  refine PyProof.Rows.kws_cons (lam_new I1 B E1.jj hdef (fun y hy e => absurd e (L.nc y hy).2) fun f c' pm ctv H2 s2 I2 kk tt J2 hf _ _ hco => ?_)
  refine PyProof.Rows.kws_nil ?_
  rw [hks]
  have E2 := E1.grow kk tt J2
  unfold dMinW at w
  split at w
  · rename_i d ds
    by_cases ok : minKOk (d :: ds) = true
    case neg =>
      rw [if_neg ok] at w
      cases w
    rw [if_pos ok] at w
    have ez : z = minK d ds := (Option.some.inj w).symm
    unfold minKOk at ok
    simp only [Bool.and_eq_true] at ok
    obtain ⟨⟨⟨o1, o2⟩, o3⟩, o4⟩ := ok
    obtain ⟨a, vs, rfl, t, l⟩ := b.lst
    have t2 : Rd H2 a (.lst vs) := rd_grow t (fun _ z => nomatch z) kk
    have l2 : RpL X.K (Xo c σ ρ') H2 (d :: ds) vs := l.keep (fun _ z => z) ⟨fun a u hp q _ => rd_grow q hp.2 kk, fun a ob vs q _ => kk _ _ q fun _ z => nomatch z⟩
    rw [Vals.ref1 r1]
    obtain ⟨its, rv, hl, hz⟩ := I2.list (.inl t2 : SqL X.K H2 a vs)
    obtain ⟨mb, h1, h2⟩ := I2.mod.blt
    have lv : vs.length = ds.length + 1 := l2.length
    have li : its.length = ds.length + 1 := rv.length.symm.trans lv
    obtain ⟨⟨oc, fs, tk0, hoc, hdc, hvc⟩, _, _⟩ := I2.hok c' _ hco
    have fs' := argBest_fold' d ds
    have at_ : ∀ i v, its.toArray[i]? = some v → ∃ (dd : D) (u : V), (d :: ds)[i]? = some dd ∧ (d :: ds).getD i .non = dd ∧ vs[i]? = some u ∧ Rp X.K (Xo c σ ρ') H2 dd u ∧ RelV u v := fun i v e => by
      have e : its[i]? = some v := by simpa using e
      have hi : i < its.length := (List.getElem?_eq_some_iff.mp e).1
      have hv' : i < vs.length := by omega
      have e5 : vs[i]? = some vs[i] := List.getElem?_eq_getElem hv'
      obtain ⟨v2, e6, r6⟩ := rv.get e5
      rw [e] at e6
      cases e6
      obtain ⟨dd, e7, r7⟩ := l2.get' e5
      exact ⟨dd, _, e7, by rw [List.getD_eq_getElem?_getD, e7]; rfl, e5, r7, r6⟩
    refine min_key (mg := X.mg) (mb := mb) (n := ds.length) (dd := fun i => pyL (rowOf ((d :: ds).getD i .non))) (I2.ok.hd hc) hl.isList (by simpa using li) (fun i v e => ?_) (fun i j hi hj => ?_) (fun i hi => ?_) hu L (cloFrom_nil L.nc) hr hf ⟨c', oc, fs, tk0, rfl, hoc, hdc, hvc⟩ I2.nolimit (I2.mod.glob.keeps I2.bk) hlen (h1.keeps I2.bk)
      ((h2 "len" (by decide)).trans rfl) fun v h' tk hv2 hk => ?_
    · obtain ⟨dd, u, g1, g2, g3, g4, g5⟩ := at_ i v e
      show ∃ (a : Addr) (jts : Array Value) (as : List Addr), v = .ref a ∧ _ ∧ _ ∧ jts.size = (pyL (rowOf ((d :: ds).getD i .non))).length ∧ Reads s2.heap v (.tuple (pyL (rowOf ((d :: ds).getD i .non)))) as
      rw [g2]
      have md : dd ∈ d :: ds := List.mem_of_getElem? g1
      have ht : tupB dd = true := List.all_eq_true.mp o4 dd md
      cases dd with
      | tup xs =>
        have g4' := g4
        unfold Rp at g4'
        obtain ⟨a2, ws, rfl, t3, l3⟩ := g4'
        have g6 : v = Value.ref a2 := g5
        obtain ⟨jts, rj, hj, zj⟩ := I2.tuple t3.sq
        obtain ⟨as, rd⟩ := Dp.reads I2 _ _ _ (g4.dp (plL_mem o1 _ md)) g5
        have ej : jts.length = xs.length := rj.length.symm.trans l3.length
        unfold D.py at rd
        refine ⟨a2, jts.toArray, as, g6, hj, ?_, by rw [pyL_len]; show jts.toArray.size = xs.length; simpa using ej, rd⟩
        have : ws.length = jts.length := rj.length
        rw [sizeLine_eq] at zj
        simp only [List.size_toArray]
        omega
      | _ => cases ht
    · have mem : ∀ i, i ≤ ds.length → kd ((d :: ds).getD i .non) ∈ (d :: ds).map kd := fun i hi => by
        have hi : i < (d :: ds).length := by rw [List.length_cons]; omega
        rw [List.getD_eq_getElem?_getD, List.getElem?_eq_getElem hi]
        exact List.mem_map_of_mem (List.getElem_mem hi)
      have := List.all_eq_true.mp (List.all_eq_true.mp o2 _ (mem i hi)) _ (mem j hj)
      rw [kd_py, kd_py] at this
      exact this
    · have hi : i < (d :: ds).length := by rw [List.length_cons]; omega
      have e9 : (d :: ds).getD i .non = (d :: ds)[i] := by rw [List.getD_eq_getElem?_getD, List.getElem?_eq_getElem hi]; rfl
      have := of_decide_eq_true (List.all_eq_true.mp o3 _ (List.getElem_mem hi))
      rw [← e9, kd_py] at this
      exact this
    · obtain ⟨dd, u, g1, g2, g3, g4, g5⟩ := at_ _ v hv2
      refine ⟨u, H2, I2.kept hk, g5, k _ _ E2 ?_⟩
      rw [ez, ← minK_fold, ← fs', g2]
      exact g4
  · cases w
end
end DL

set_option Elab.async false
set_option linter.all false
set_option maxRecDepth 100000
namespace DL
open PySem PySem.Spec PyProof.Rows L2
/-! ### a def that makes lambdas -/
section
variable {P : Program} {w : World} {K : PySem.W.Frag} {mg : Str → Option Value} {base : Heap} {x : Str} {params : Arguments} {body : List Stmt} {scope : Scope} {f : Addr} {fd : FuncData} {N ps : List Str} {k : Nat} {m : Ms} {dvs : List V} {kwd : List (Str × V)}
/-- whose table is whose -/
def TabsApart (K : PySem.W.Frag) : Prop := ∀ x ∈ lamNames, ∀ y ∈ lamNames, (He.cT K (x, none)).2 = (He.cT K (y, none)).2 → x = y
theorem jk_of {H : Hp} (h : ∀ x ∈ lamNames, H (He.cT K (x, none)).2 = some (.tbl #[])) : JK K H := fun P q l => by
  obtain ⟨x, hx, rfl, rfl⟩ := l
  exact LamX.TabS.nil (h x hx)
theorem fnL (F : FunD K x x params body scope dvs kwd f fd) (S : FnScope N ps scope) (hf : f = He.fAd K (x, none)) (hx : x ∈ lamNames) (ap : TabsApart K) (TB : LamX.TabB base mg (He.cT K (x, none)).1 (He.cT K (x, none)).2)
    (hb : ∀ (cdv : Value) (A : Around) (outer : List Env) (s : Shared) (H : Hp) (E : XK), Room k (A.deeper (envOfC x scope s.heap.objs.size f cdv)) → LB (cxOf CX0 P w K mg base N x scope f cdv A outer s H E).nox (x ++ ".<locals>." ++ "<lambda>") →
      CSs (cxOf CX0 P w K mg base N x scope f cdv A outer s H E).nox body m) : FnOk P w K mg base CX0 (k + 1) f fd ps (spM K ps.length (runF N.length m)) := by
  obtain ⟨oc, od, dV, kV, doc, pm, an, cdv, ct, osl, e, lk, hcd, _, _⟩ := F.ex
  refine fnC F S fun cdv' e1 e2 A outer s H E hr => hb cdv' A outer s H E hr ⟨⟨(He.cT K (x, none)).1, (He.cT K (x, none)).2, ?_, TB, ⟨x, hx, rfl, rfl⟩, fun q' l => ?_⟩, rfl⟩
  · obtain ⟨c, e3⟩ := He.codeIn_ref e2
    have e4 := He.codeOf_eq (p := (x, none)) (hf ▸ lk) (e1.trans e3)
    show cdv' = .ref (He.codeOf K (x, none))
    rw [e4]
    exact e3
  · obtain ⟨y, hy, h1, rfl⟩ := l
    rw [ap x hx y hy h1]
end
theorem keyLam {params : Arguments} {scope : Scope} {wn : Str} {p1 p2 p3 p4 p5 : Pos} {k : Nat} (h1 : scope.kind = .function := by rfl) (h2 : scope.isCoroutine = false := by rfl) (h3 : scope.isGenerator = false := by rfl) (h4 : (scope.names.all fun x => decide (x.2 ≠ .cell ∧ x.2 ≠ .free)) = true := by rfl)
    (h5 : scope.names.lookup wn = some .local := by rfl) (h6 : scope.names.lookup ("len" : Str) = some .globalImplicit := by rfl) (h7 : (wn == ("__debug__" : Str)) = false := by decide)
    (h8 : ∀ (q : Str) (cl : List (Str × Addr)) (pm cv ctv : Value) (v : Value), bindArgs (PySem.W.kla_fn "<lambda>" q params (.Tuple [.Call (.Name "len" p1) [.Name wn p2] [] p3, .Name wn p4] k p5) scope cl pm cv ctv) ⟨[v], []⟩ = pure [(wn, v)] := by exact fun _ _ _ _ _ _ => rfl) :
    KeyLam params (.Tuple [.Call (.Name "len" p1) [.Name wn p2] [] p3, .Name wn p4] k p5) scope wn :=
  ⟨⟨p1, p2, p3, p4, p5, k, rfl⟩, h1, h2, h3, fun x hx => of_decide_eq_true (List.all_eq_true.mp h4 x hx), h5, h6, h7, h8⟩
section
variable {X : Cx} {x y : Str} {a b : Expr} {m : Mm (List D)} {px py pt pt2 pos : Pos} {kt k2 : Nat}
/-- a, b = x, y -/
theorem cs_par (i j : Nat) (hc : X.calm = true) (hN : X.N.Nodup) (h : CA X [a, b] m) (hi : X.N[i]? = some x := by rfl) (hj : X.N[j]? = some y := by rfl) (hij : i ≠ j := by decide)
    (hx : X.env.scope.names.lookup x = some .local := by rfl) (hy : X.env.scope.names.lookup y = some .local := by rfl) (hw : swappedStores [.Tuple [.Name x px, .Name y py] kt pt] (.Tuple [a, b] k2 pt2) X.env = pure (some [x, y]) := by rfl)
    (hs : swapsWithSole [.Tuple [.Name x px, .Name y py] kt pt] (.Tuple [a, b] k2 pt2) pos.line X.env = pure false := by rfl) :
    CS X (.Assign [.Tuple [.Name x px, .Name y py] kt pt] (.Tuple [a, b] k2 pt2) pos) (mAsg (mTup m) (.tup [.nm i, .nm j])) := by
  refine ps_imp (ps_par hc hN hi hj hij hx hy h hw hs) fun Dn σ H q => ?_
  obtain ⟨c, ρ, f, ρ', E, e, k⟩ := q
  unfold mAsg at e
  cases w : mTup m ρ with
  | none => rw [w] at e; cases e
  | some q =>
    obtain ⟨d, ρ1⟩ := q
    rw [w] at e
    obtain ⟨ρ2, e1, e2⟩ := Option.map_eq_some_iff.mp e
    cases e2
    obtain ⟨xs, ρ3, g1, f1⟩ := bd_some w
    by_cases hz : szOk xs = true
    · rw [if_pos hz] at f1
      cases f1
      refine ⟨c, ρ, xs, ρ1, E, g1, fun vs H' E' l => ?_⟩
      have e1 : asgL [.nm i, .nm j] xs ρ1 = some ρ' := by unfold asg at e1; exact e1
      match xs, l with
      | [], _ => unfold asgL at e1; cases e1
      | [_], _ =>
        unfold asgL at e1
        obtain ⟨ρ4, _, e3⟩ := Option.bind_eq_some_iff.mp e1
        unfold asgL at e3
        cases e3
      | d1 :: d2 :: d3 :: ds, _ =>
        unfold asgL at e1
        obtain ⟨ρ4, _, e3⟩ := Option.bind_eq_some_iff.mp e1
        unfold asgL at e3
        obtain ⟨ρ5, _, e4⟩ := Option.bind_eq_some_iff.mp e3
        unfold asgL at e4
        cases e4
      | [d1, d2], l =>
        obtain ⟨v1, ws, rfl, r1, l2⟩ := l.of_cons
        obtain ⟨v2, ws2, rfl, r2, l3⟩ := l2.of_cons
        rw [l3.of_nil]
        unfold asgL at e1
        obtain ⟨ρ4, e2, e3⟩ := Option.bind_eq_some_iff.mp e1
        unfold asgL at e3
        obtain ⟨ρ5, e4, e5⟩ := Option.bind_eq_some_iff.mp e3
        unfold asgL at e5
        cases e5
        unfold asg at e2 e4
        have E1 := stV_ok (E'.push r2) r1 e2
        exact ⟨v1, v2, rfl, k _ _ (stV_ok E1.pop.1 E1.pop.2 e4)⟩
    · rw [if_neg hz] at f1
      cases f1
end
end DL

set_option Elab.async false
set_option linter.all false
set_option maxRecDepth 100000
namespace DL
open PySem PySem.Spec PyProof.Rows L2

/-! ### environments that know less -/
inductive SlLe : Sl → Sl → Prop
  | no (s : Sl) (h : ∀ o, s ≠ .io o) : SlLe .no s
  | rf (s : Sl) : SlLe s s
  | ow (o : Ow) : SlLe (.va o.d) (.ow o)
inductive Le : En → En → Prop
  | nil : Le [] []
  | cons {s s2 : Sl} {ρ ρ2 : En} (h : SlLe s s2) (t : Le ρ ρ2) : Le (s :: ρ) (s2 :: ρ2)
section
variable {α β : Type} {s s2 s3 : Sl} {ρ ρ1 ρ2 ρ3 ρ' ρ'' : En} {i j n : Nat} {d x y z : D} {o o1 o2 : Ow} {ds xs : List D} {m m' : Mm D} {b b1 b2 : Bool} {ix : List Nat}
theorem Le.refl : ∀ ρ : En, Le ρ ρ
  | [] => .nil
  | s :: ρ => .cons (.rf s) (Le.refl ρ)
theorem SlLe.trans (h : SlLe s s2) (h2 : SlLe s2 s3) : SlLe s s3 := by
  cases h with
  | rf => exact h2
  | no _ n => cases h2 with
    | rf => exact .no _ n
    | no _ n2 => exact .no _ n2
    | ow o => exact .no _ fun _ z => by cases z
  | ow o => cases h2 with
    | rf => exact .ow o
theorem Le.trans (h : Le ρ ρ1) : ∀ {ρ2}, Le ρ1 ρ2 → Le ρ ρ2 := by
  induction h with
  | nil => intro ρ2 h; exact h
  | cons h t ih => intro ρ2 h2; cases h2 with
    | cons g t2 => exact .cons (h.trans g) (ih t2)
theorem Le.get (h : Le ρ ρ2) : ∀ {i : Nat}, ρ[i]? = some s → ∃ s2, ρ2[i]? = some s2 ∧ SlLe s s2 := by
  induction h with
  | nil => intro i e; simp at e
  | cons h t ih =>
    intro i e
    cases i with
    | zero => simp only [List.getElem?_cons_zero, Option.some.injEq] at e; subst e; exact ⟨_, rfl, h⟩
    | succ i => simp only [List.getElem?_cons_succ] at e; exact ih e
theorem Le.set (h : Le ρ ρ2) (g : SlLe s s2) : ∀ i : Nat, Le (ρ.set i s) (ρ2.set i s2) := by
  induction h with
  | nil => intro i; exact .nil
  | cons h t ih =>
    intro i
    cases i with
    | zero => exact .cons g t
    | succ i => exact .cons h (ih i)
theorem Le.setR (h : Le ρ ρ2) (g : SlLe s s2) : ∀ {i : Nat}, ρ[i]? = some s → Le ρ (ρ2.set i s2) := by
  induction h with
  | nil => intro i e; exact .nil
  | cons h t ih =>
    intro i e
    cases i with
    | zero => simp only [List.getElem?_cons_zero, Option.some.injEq] at e; subst e; exact .cons g t
    | succ i => simp only [List.getElem?_cons_succ] at e; exact .cons h (ih e)
theorem Le.len (h : Le ρ ρ2) : ρ2.length = ρ.length := by
  induction h with
  | nil => rfl
  | cons h t ih => simp [ih]
/-- from all environments that know as much as ρ: the answer x, and as much as ρ' known behind it -/
def Ev (m : En → Option (α × En)) (ρ : En) (x : α) (ρ' : En) : Prop := ∀ ρ2, Le ρ ρ2 → ∃ ρ3, m ρ2 = some (x, ρ3) ∧ Le ρ' ρ3
theorem Ev.wk {m : En → Option (α × En)} {x : α} (h : Ev m ρ x ρ') (l : Le ρ'' ρ') : Ev m ρ x ρ'' := fun ρ2 g => by
  obtain ⟨ρ3, e, k⟩ := h ρ2 g
  exact ⟨ρ3, e, l.trans k⟩
/-- looked at -/
def Hb (i : Nat) (ρ : En) (d : D) : Prop := ∀ ρ2, Le ρ ρ2 → mBor i ρ2 = some (d, ρ2)
theorem hb_va (h : ρ[i]? = some (.va d)) : Hb i ρ d := fun ρ2 g => by
  obtain ⟨s2, e, k⟩ := g.get h
  unfold mBor
  rw [e]
  generalize hq : Sl.va d = q at k
  cases k with
  | no => cases hq
  | rf => subst hq; rfl
  | ow o => cases hq; rfl
theorem hb_ow (h : ρ[i]? = some (.ow o)) : Hb i ρ o.d := fun ρ2 g => by
  obtain ⟨s2, e, k⟩ := g.get h
  unfold mBor
  rw [e]
  cases k with
  | rf => rfl
theorem hb_io (h : ρ[i]? = some (.io o)) : Hb i ρ o.d := fun ρ2 g => by
  obtain ⟨s2, e, k⟩ := g.get h
  unfold mBor
  rw [e]
  cases k with
  | rf => rfl
theorem v_va (h : ρ[i]? = some (.va d)) : Ev (mVar i) ρ d ρ := fun ρ2 g => by
  obtain ⟨s2, e, k⟩ := g.get h
  unfold mVar
  rw [e]
  generalize hq : Sl.va d = q at k
  cases k with
  | no => cases hq
  | rf => subst hq; exact ⟨ρ2, rfl, g⟩
  | ow o => cases hq; exact ⟨_, rfl, g.setR (.rf _) h⟩
theorem v_ow (h : ρ[i]? = some (.ow o)) : Ev (mVar i) ρ o.d (ρ.set i (.va o.d)) := fun ρ2 g => by
  obtain ⟨s2, e, k⟩ := g.get h
  unfold mVar
  rw [e]
  cases k with
  | rf => exact ⟨_, rfl, g.set (.rf _) i⟩
theorem v_own (h : ρ[i]? = some (.ow o)) : Ev (mOwn i) ρ o (ρ.set i .no) := fun ρ2 g => by
  obtain ⟨s2, e, k⟩ := g.get h
  unfold mOwn
  rw [e]
  cases k with
  | rf => exact ⟨_, rfl, g.set (.rf _) i⟩
theorem v_ret {x : α} : Ev (ret x) ρ x ρ := fun ρ2 g => ⟨ρ2, rfl, g⟩
theorem v_c : Ev (mC d) ρ d ρ := v_ret
theorem v_bd {m : Mm α} {f : α → Mm β} {x : α} {y : β} (h : Ev m ρ x ρ1) (h2 : Ev (f x) ρ1 y ρ') : Ev (bd m f) ρ y ρ' := fun ρ2 g => by
  obtain ⟨ρ3, e, k⟩ := h ρ2 g
  obtain ⟨ρ4, e2, k2⟩ := h2 ρ3 k
  exact ⟨ρ4, by rw [bd_eq e, e2], k2⟩
theorem v_lf {o : Option α} {x : α} (h : o = some x) : Ev (lf o) ρ x ρ := fun ρ2 g => ⟨ρ2, lf_eq h, g⟩
theorem hb_bor (h : Hb i ρ d) : Ev (mBor i) ρ d ρ := fun ρ2 g => ⟨ρ2, h ρ2 g, g⟩
theorem v_m1e {m : Mm D} {f : D → Option α} {z : α} (h : Ev m ρ x ρ1) (e : f x = some z) : Ev (m1 (.e m) f) ρ z ρ1 := v_bd h (v_lf e)
theorem v_m1n {f : D → Option α} {z : α} (h : Hb i ρ x) (e : f x = some z) : Ev (m1 (.n i) f) ρ z ρ := v_bd (hb_bor h) (v_lf e)
theorem v_m2ee {f : D → D → Option α} {z : α} (h : Ev m ρ x ρ1) (h2 : Ev m' ρ1 y ρ2) (e : f x y = some z) : Ev (m2 (.e m) (.e m') f) ρ z ρ2 := v_bd h (v_bd h2 (v_lf e))
theorem v_m2en {f : D → D → Option α} {z : α} (h : Ev m ρ x ρ1) (h2 : Hb j ρ1 y) (e : f x y = some z) : Ev (m2 (.e m) (.n j) f) ρ z ρ1 := v_bd h (v_bd (hb_bor h2) (v_lf e))
theorem v_m2ne {f : D → D → Option α} {z : α} (h0 : Hb i ρ d) (h2 : Ev m' ρ y ρ1) (h : Hb i ρ1 x) (e : f x y = some z) : Ev (m2 (.n i) (.e m') f) ρ z ρ1 := v_bd (hb_bor h0) (v_bd h2 (v_bd (hb_bor h) (v_lf e)))
theorem v_m2nn {f : D → D → Option α} {z : α} (h : Hb i ρ x) (h2 : Hb j ρ y) (e : f x y = some z) : Ev (m2 (.n i) (.n j) f) ρ z ρ := v_bd (hb_bor h) (v_bd (hb_bor h2) (v_lf e))
theorem v_ov {m : Mm Ow} (h : Ev m ρ o ρ1) : Ev (mOv m) ρ o.d ρ1 := v_bd h v_ret
theorem v_tb (h : Ev m ρ x ρ1) (e : asB x = some b) : Ev (mTb m) ρ b ρ1 := v_bd h (v_lf e)
theorem v_not {t : Mm Bool} (h : Ev t ρ b ρ1) : Ev (mNot t) ρ (!b) ρ1 := v_bd h v_ret
theorem v_and {t u : Mm Bool} (h : Ev t ρ b1 ρ1) (h2 : b1 = true → Ev u ρ1 b ρ') (h3 : b1 = false → b = false ∧ Le ρ' ρ1) : Ev (mAnd t u) ρ b ρ' := by
  refine v_bd h ?_
  cases b1 with
  | true => exact h2 rfl
  | false => obtain ⟨rfl, l⟩ := h3 rfl; exact v_ret.wk l
theorem v_or {t u : Mm Bool} (h : Ev t ρ b1 ρ1) (h2 : b1 = false → Ev u ρ1 b ρ') (h3 : b1 = true → b = true ∧ Le ρ' ρ1) : Ev (mOr t u) ρ b ρ' := by
  refine v_bd h ?_
  cases b1 with
  | false => exact h2 rfl
  | true => obtain ⟨rfl, l⟩ := h3 rfl; exact v_ret.wk l
theorem v_andV (h : Ev m ρ x ρ1) (ht : dTru x = some b1) (h2 : b1 = true → Ev m' ρ1 y ρ') (h3 : b1 = false → y = x ∧ Le ρ' ρ1) : Ev (mAndV m m') ρ y ρ' := by
  refine v_bd h (v_bd (v_lf ht) ?_)
  cases b1 with
  | true => exact h2 rfl
  | false => obtain ⟨rfl, l⟩ := h3 rfl; exact v_ret.wk l
theorem v_orV (h : Ev m ρ x ρ1) (ht : dTru x = some b1) (h2 : b1 = false → Ev m' ρ1 y ρ') (h3 : b1 = true → y = x ∧ Le ρ' ρ1) : Ev (mOrV m m') ρ y ρ' := by
  refine v_bd h (v_bd (v_lf ht) ?_)
  cases b1 with
  | false => exact h2 rfl
  | true => obtain ⟨rfl, l⟩ := h3 rfl; exact v_ret.wk l
theorem v_notV (h : Ev m ρ x ρ1) (ht : dTru x = some b1) : Ev (mNotV m) ρ (.bl !b1) ρ1 := v_bd h (v_bd (v_lf ht) v_ret)
theorem v_if {t : Mm Bool} {m m' : Mm α} {z : α} (h : Ev t ρ b ρ1) (h1 : b = true → Ev m ρ1 z ρ') (h2 : b = false → Ev m' ρ1 z ρ') : Ev (mIf t m m') ρ z ρ' := by
  refine v_bd h ?_
  cases b with
  | true => exact h1 rfl
  | false => exact h2 rfl
theorem v_nil : Ev mNil ρ [] ρ := v_ret
theorem v_cons {m' : Mm (List D)} (h : Ev m ρ x ρ1) (h2 : Ev m' ρ1 xs ρ') : Ev (mCons m m') ρ (x :: xs) ρ' := v_bd h (v_bd h2 v_ret)
theorem v_tup {m : Mm (List D)} (h : Ev m ρ xs ρ1) (hz : szOk xs = true := by rfl) : Ev (mTup m) ρ (.tup xs) ρ1 := v_bd h (by rw [if_pos hz]; exact v_ret)
theorem v_lst {m : Mm (List D)} (h : Ev m ρ xs ρ1) (hz : szOk xs = true := by rfl) : Ev (mLst m) ρ (.lst xs) ρ1 := v_bd h (by rw [if_pos hz]; exact v_ret)
theorem v_dct0 : Ev mDct0 ρ (.dct [] []) ρ := v_ret
theorem v_pn : Ev mPn ρ none ρ := v_ret
theorem v_ps {q : Option Int} (h : Ev m ρ x ρ1) (e : asI x = some q) : Ev (mPs m) ρ q ρ1 := v_bd h (v_lf e)
theorem v_sle {p1 p2 : Mm (Option Int)} {f : D → Option Int → Option Int → Option α} {l u : Option Int} {z : α} (h : Ev m ρ x ρ1) (h1 : Ev p1 ρ1 l ρ2) (h2 : Ev p2 ρ2 u ρ3) (e : f x l u = some z) : Ev (mSl (.e m) p1 p2 f) ρ z ρ3 :=
  v_bd h (v_bd h1 (v_bd h2 (v_lf e)))
theorem v_sln {p1 p2 : Mm (Option Int)} {f : D → Option Int → Option Int → Option α} {l u : Option Int} {z : α} (h0 : Hb i ρ d) (h1 : Ev p1 ρ l ρ2) (h2 : Ev p2 ρ2 u ρ3) (h : Hb i ρ3 x) (e : f x l u = some z) : Ev (mSl (.n i) p1 p2 f) ρ z ρ3 :=
  v_bd (hb_bor h0) (v_bd h1 (v_bd h2 (v_bd (hb_bor h) (v_lf e))))
theorem v_it (h : Ev m ρ x ρ1) (e : itemsOf x = some ds) : Ev (mIt m) ρ ds ρ1 := v_bd h (v_lf e)
theorem v_rng {f : List D → Option (List D)} {m : Mm (List D)} (h : Ev m ρ xs ρ1) (e : f xs = some ds) : Ev (mRng f m) ρ ds ρ1 := v_bd h (v_lf e)
def oItems (x : D) : Option (List D) := (dctOf x).map fun q => (q.1.zip q.2).map fun q => .tup [.ofK q.1, q.2]
def oVals (x : D) : Option (List D) := (dctOf x).map fun q => q.2
def oKeys (x : D) : Option (List D) := (dctOf x).map fun q => q.1.map .ofK
def oEnum (x : D) : Option (List D) := (lstOf x).map (enumD 0)
def oZip (x y : D) : Option (List D) := match x, y with
  | .tup ds, .tup es => some (zipD ds es)
  | x, y => (lstOf x).bind fun ds => (lstOf y).map fun es => zipD ds es
def oRev (x : D) : Option (List D) := match x with
  | .tup ds => some ds.reverse
  | .lst ds => some ds.reverse
  | .scr ds => some ds.reverse
  | _ => none
theorem v_items (h : Ev m ρ x ρ1) (e : oItems x = some ds) : Ev (mItems m) ρ ds ρ1 := by
  obtain ⟨q, e1, rfl⟩ := Option.map_eq_some_iff.mp e
  exact v_bd h (v_bd (v_lf e1) v_ret)
theorem v_vals (h : Ev m ρ x ρ1) (e : oVals x = some ds) : Ev (mVals m) ρ ds ρ1 := by
  obtain ⟨q, e1, rfl⟩ := Option.map_eq_some_iff.mp e
  exact v_bd h (v_bd (v_lf e1) v_ret)
theorem v_keys (h : Ev m ρ x ρ1) (e : oKeys x = some ds) : Ev (mKeys m) ρ ds ρ1 := by
  obtain ⟨q, e1, rfl⟩ := Option.map_eq_some_iff.mp e
  exact v_bd h (v_bd (v_lf e1) v_ret)
theorem v_enum {m : Mm (List D)} (h : Ev m ρ [x] ρ1) (e : oEnum x = some ds) : Ev (mEnum m) ρ ds ρ1 := by
  obtain ⟨q, e1, rfl⟩ := Option.map_eq_some_iff.mp e
  exact v_bd h (v_bd (v_lf e1) v_ret)
theorem v_zip {m : Mm (List D)} (h : Ev m ρ [x, y] ρ1) (e : oZip x y = some ds) : Ev (mZip m) ρ ds ρ1 := by
  unfold oZip at e
  split at e
  · cases e
    exact v_bd h v_ret
  · rename_i n1
    obtain ⟨a, e1, e⟩ := Option.bind_eq_some_iff.mp e
    obtain ⟨q, e2, rfl⟩ := Option.map_eq_some_iff.mp e
    refine v_bd h ?_
    split
    · rename_i w
      cases w
      exact absurd rfl (n1 _ _ rfl)
    · rename_i w
      cases w
      exact v_bd (v_lf e1) (v_bd (v_lf e2) v_ret)
    · rename_i w
      exact absurd rfl (w _ _)
theorem v_rev (h : Ev m ρ x ρ1) (e : oRev x = some ds) : Ev (mRev m) ρ ds ρ1 := by
  refine v_bd h ?_
  unfold oRev at e
  split at e <;> first | (cases e; done) | (cases e; exact v_ret)
/-! ### own things changed in place -/
inductive Own1 : Sl → Ow → (Ow → Sl) → Prop
  | ow (o : Ow) : Own1 (.ow o) o .ow
  | io (o : Ow) : Own1 (.io o) o .io
theorem Own1.le {k : Ow → Sl} (w : Own1 s o k) (h : SlLe s s2) : s2 = s := by
  cases w <;> cases h <;> rfl
theorem ow1_get {k : Ow → Sl} (h : ρ[i]? = some s) (w : Own1 s o k) (g : Le ρ ρ2) : getO i ρ2 = some o := by
  obtain ⟨s2, e, l⟩ := g.get h
  rw [w.le l] at e
  unfold getO
  rw [e]
  cases w <;> rfl
theorem ow1_put {k : Ow → Sl} (h : ρ[i]? = some s) (w : Own1 s o k) (g : Le ρ ρ2) : Le (ρ.set i (k o2)) (putO i o2 ρ2) := by
  obtain ⟨s2, e, l⟩ := g.get h
  rw [w.le l] at e
  unfold putO
  rw [List.getD_eq_getElem?_getD, e]
  cases w <;> exact g.set (.rf _) i
def oM1 (f : List D → D → Option (D × List D)) (o : Ow) (x : D) : Option (D × Ow) := match o with
  | .lst ds => (f ds x).map fun q => (q.1, .lst q.2)
  | _ => none
def oM0 (f : List D → Option (D × List D)) (o : Ow) : Option (D × Ow) := match o with
  | .lst ds => (f ds).map fun q => (q.1, .lst q.2)
  | _ => none
theorem v_M1 {k0 k : Ow → Sl} {f : List D → D → Option (D × List D)} {t : D × Ow} {s0 : Sl} {ds0 : List D} (h0 : ρ[i]? = some s0) (w0 : Own1 s0 (.lst ds0) k0) (he : Ev m ρ x ρ1) (h1 : ρ1[i]? = some s) (w : Own1 s o k) (hf : oM1 f o x = some t) :
    Ev (mM1 i m f) ρ t.1 (ρ1.set i (k t.2)) := fun ρ2 g => by
  obtain ⟨ρ3, e, l⟩ := he ρ2 g
  cases o with
  | dct _ _ => cases hf
  | lst ds =>
    obtain ⟨q, e1, rfl⟩ := Option.map_eq_some_iff.mp hf
    refine ⟨_, ?_, ow1_put h1 w l⟩
    have g1 := ow1_get h0 w0 g
    have g2 := ow1_get h1 w l
    unfold mM1 getL
    rw [g1]
    dsimp only
    rw [e]
    dsimp only
    rw [g2]
    dsimp only
    rw [e1]
/-- .. that is known to be a list by its change alone -/
theorem v_M1' {k : Ow → Sl} {f : List D → D → Option (D × List D)} {t : D × Ow} (h0 : ρ[i]? = some s) (w : Own1 s o k) (he : Ev m ρ x ρ1) (h1 : ρ1[i]? = some s) (hf : oM1 f o x = some t) :
    Ev (mM1 i m f) ρ t.1 (ρ1.set i (k t.2)) := by
  cases o with
  | dct _ _ => cases hf
  | lst ds => exact v_M1 h0 w he h1 w hf
theorem v_M0 {k : Ow → Sl} {f : List D → Option (D × List D)} {t : D × Ow} (h0 : ρ[i]? = some s) (w : Own1 s o k) (hf : oM0 f o = some t) :
    Ev (mM0 i f) ρ t.1 (ρ.set i (k t.2)) := fun ρ2 g => by
  cases o with
  | dct _ _ => cases hf
  | lst ds =>
    obtain ⟨q, e1, rfl⟩ := Option.map_eq_some_iff.mp hf
    refine ⟨_, ?_, ow1_put h0 w g⟩
    have g1 := ow1_get h0 w g
    unfold mM0 getL
    rw [g1]
    dsimp only
    rw [e1]
/-! ### targets -/
theorem stV_le (h : stV i d ρ = some ρ') (g : Le ρ ρ2) : ∃ ρ3, stV i d ρ2 = some ρ3 ∧ Le ρ' ρ3 := by
  unfold stV at h
  split at h
  · cases h
  · rename_i s n e
    cases h
    obtain ⟨s2, e2, l⟩ := g.get e
    refine ⟨ρ2.set i (.va d), ?_, g.set (.rf _) i⟩
    unfold stV
    rw [e2]
    cases l with
    | no _ q => cases s2 <;> first | rfl | exact absurd rfl (q _)
    | rf => cases s <;> first | rfl | exact absurd rfl (n _)
    | ow => rfl
  · cases h
theorem stO_le (h : stO i o ρ = some ρ') (g : Le ρ ρ2) : ∃ ρ3, stO i o ρ2 = some ρ3 ∧ Le ρ' ρ3 := by
  unfold stO at h
  split at h
  · cases h
  · rename_i s n e
    cases h
    obtain ⟨s2, e2, l⟩ := g.get e
    refine ⟨ρ2.set i (.ow o), ?_, g.set (.rf _) i⟩
    unfold stO
    rw [e2]
    cases l with
    | no _ q => cases s2 <;> first | rfl | exact absurd rfl (q _)
    | rf => cases s <;> first | rfl | exact absurd rfl (n _)
    | ow => rfl
  · cases h
mutual
theorem asg_le : ∀ (t : Tg) (d : D) {ρ ρ' ρ2 : En}, asg t d ρ = some ρ' → Le ρ ρ2 → ∃ ρ3, asg t d ρ2 = some ρ3 ∧ Le ρ' ρ3
  | .nm i, d, ρ, ρ', ρ2, h, g => by
    unfold asg at h ⊢
    exact stV_le h g
  | .tup ts, d, ρ, ρ', ρ2, h, g => by
    cases d with
    | tup ds =>
      unfold asg at h ⊢
      exact asgL_le ts ds h g
    | lst ds =>
      unfold asg at h ⊢
      exact asgL_le ts ds h g
    | _ => unfold asg at h; cases h
theorem asgL_le : ∀ (ts : List Tg) (ds : List D) {ρ ρ' ρ2 : En}, asgL ts ds ρ = some ρ' → Le ρ ρ2 → ∃ ρ3, asgL ts ds ρ2 = some ρ3 ∧ Le ρ' ρ3
  | [], [], ρ, ρ', ρ2, h, g => by
    unfold asgL at h ⊢
    cases h
    exact ⟨ρ2, rfl, g⟩
  | [], _ :: _, ρ, ρ', ρ2, h, g => by unfold asgL at h; cases h
  | _ :: _, [], ρ, ρ', ρ2, h, g => by unfold asgL at h; cases h
  | t :: ts, d :: ds, ρ, ρ', ρ2, h, g => by
    unfold asgL at h ⊢
    obtain ⟨ρ1, e1, e2⟩ := Option.bind_eq_some_iff.mp h
    obtain ⟨ρ3, e3, g3⟩ := asg_le t d e1 g
    obtain ⟨ρ4, e4, g4⟩ := asgL_le ts ds e2 g3
    exact ⟨ρ4, by rw [e3, Option.bind_some, e4], g4⟩
end
/-- a tuple of n -/
def un1 (d : D) : Option D := match d with
  | .tup [x] => some x
  | .lst [x] => some x
  | _ => none
def un2 (d : D) : Option (D × D) := match d with
  | .tup [x, y] => some (x, y)
  | .lst [x, y] => some (x, y)
  | _ => none
def un3 (d : D) : Option (D × D × D) := match d with
  | .tup [x, y, z] => some (x, y, z)
  | .lst [x, y, z] => some (x, y, z)
  | _ => none
def un4 (d : D) : Option (D × D × D × D) := match d with
  | .tup [x, y, z, w] => some (x, y, z, w)
  | .lst [x, y, z, w] => some (x, y, z, w)
  | _ => none
def un5 (d : D) : Option (D × D × D × D × D) := match d with
  | .tup [x, y, z, w, v] => some (x, y, z, w, v)
  | .lst [x, y, z, w, v] => some (x, y, z, w, v)
  | _ => none
theorem ag_1 {p : D} {t1 : Tg} (h : un1 d = some p) (h1 : asg t1 p ρ = some ρ1) : asg (.tup [t1]) d ρ = some ρ1 := by
  unfold un1 at h
  split at h <;> cases h <;> (unfold asg asgL; rw [h1]; unfold asgL; rfl)
theorem ag_2 {p : D × D} {t1 t2 : Tg} (h : un2 d = some p) (h1 : asg t1 p.1 ρ = some ρ1) (h2 : asg t2 p.2 ρ1 = some ρ2) : asg (.tup [t1, t2]) d ρ = some ρ2 := by
  unfold un2 at h
  split at h <;> cases h <;> (unfold asg asgL; rw [h1, Option.bind_some]; unfold asgL; rw [h2, Option.bind_some]; unfold asgL; rfl)
theorem ag_3 {p : D × D × D} {t1 t2 t3 : Tg} (h : un3 d = some p) (h1 : asg t1 p.1 ρ = some ρ1) (h2 : asg t2 p.2.1 ρ1 = some ρ2) (h3 : asg t3 p.2.2 ρ2 = some ρ3) : asg (.tup [t1, t2, t3]) d ρ = some ρ3 := by
  unfold un3 at h
  split at h <;> cases h <;> (unfold asg asgL; rw [h1, Option.bind_some]; unfold asgL; rw [h2, Option.bind_some]; unfold asgL; rw [h3, Option.bind_some]; unfold asgL; rfl)
theorem ag_4 {p : D × D × D × D} {t1 t2 t3 t4 : Tg} {ρ4 : En} (h : un4 d = some p) (h1 : asg t1 p.1 ρ = some ρ1) (h2 : asg t2 p.2.1 ρ1 = some ρ2) (h3 : asg t3 p.2.2.1 ρ2 = some ρ3) (h4 : asg t4 p.2.2.2 ρ3 = some ρ4) : asg (.tup [t1, t2, t3, t4]) d ρ = some ρ4 := by
  unfold un4 at h
  split at h <;> cases h <;> (unfold asg asgL; rw [h1, Option.bind_some]; unfold asgL; rw [h2, Option.bind_some]; unfold asgL; rw [h3, Option.bind_some]; unfold asgL; rw [h4, Option.bind_some]; unfold asgL; rfl)
theorem ag_5 {p : D × D × D × D × D} {t1 t2 t3 t4 t5 : Tg} {ρ4 ρ5 : En} (h : un5 d = some p) (h1 : asg t1 p.1 ρ = some ρ1) (h2 : asg t2 p.2.1 ρ1 = some ρ2) (h3 : asg t3 p.2.2.1 ρ2 = some ρ3) (h4 : asg t4 p.2.2.2.1 ρ3 = some ρ4) (h5 : asg t5 p.2.2.2.2 ρ4 = some ρ5) : asg (.tup [t1, t2, t3, t4, t5]) d ρ = some ρ5 := by
  unfold un5 at h
  split at h <;> cases h <;> (unfold asg asgL; rw [h1, Option.bind_some]; unfold asgL; rw [h2, Option.bind_some]; unfold asgL; rw [h3, Option.bind_some]; unfold asgL; rw [h4, Option.bind_some]; unfold asgL; rw [h5, Option.bind_some]; unfold asgL; rfl)
theorem ag_n (h : stV i d ρ = some ρ1 := by rfl) : asg (.nm i) d ρ = some ρ1 := by
  unfold asg
  exact h
/-! ### statements -/
theorem v_skip : Ev mSkip ρ .nx ρ := fun ρ2 g => ⟨ρ2, rfl, g⟩
theorem v_bk : Ev (fun ρ => some (Fl.bk, ρ)) ρ .bk ρ := fun ρ2 g => ⟨ρ2, rfl, g⟩
theorem v_ct : Ev (fun ρ => some (Fl.ct, ρ)) ρ .ct ρ := fun ρ2 g => ⟨ρ2, rfl, g⟩
theorem v_retN : Ev (fun ρ => some (Fl.rv .non, ρ)) ρ (.rv .non) ρ := fun ρ2 g => ⟨ρ2, rfl, g⟩
theorem v_expr (h : Ev m ρ x ρ1) : Ev (mExpr m) ρ .nx ρ1 := fun ρ2 g => by
  obtain ⟨ρ3, e, l⟩ := h ρ2 g
  exact ⟨ρ3, by unfold mExpr; rw [e], l⟩
theorem v_mret (h : Ev m ρ x ρ1) : Ev (mRet m) ρ (.rv x) ρ1 := fun ρ2 g => by
  obtain ⟨ρ3, e, l⟩ := h ρ2 g
  exact ⟨ρ3, by unfold mRet; rw [e], l⟩
theorem v_mretO {m : Mm Ow} (h : Ev m ρ o ρ1) : Ev (mRetO m) ρ (.ro o) ρ1 := fun ρ2 g => by
  obtain ⟨ρ3, e, l⟩ := h ρ2 g
  exact ⟨ρ3, by unfold mRetO; rw [e], l⟩
theorem v_asg {t : Tg} (h : Ev m ρ x ρ1) (a : asg t x ρ1 = some ρ') : Ev (mAsg m t) ρ .nx ρ' := fun ρ2 g => by
  obtain ⟨ρ3, e, l⟩ := h ρ2 g
  obtain ⟨ρ4, e4, l4⟩ := asg_le t x a l
  exact ⟨ρ4, by unfold mAsg; rw [e]; dsimp only; rw [e4]; rfl, l4⟩
theorem v_setO {m : Mm Ow} (h : Ev m ρ o ρ1) (a : stO i o ρ1 = some ρ') : Ev (mSetO m i) ρ .nx ρ' := fun ρ2 g => by
  obtain ⟨ρ3, e, l⟩ := h ρ2 g
  obtain ⟨ρ4, e4, l4⟩ := stO_le a l
  exact ⟨ρ4, by unfold mSetO; rw [e]; dsimp only; rw [e4]; rfl, l4⟩
theorem v_aug {f : D → D → Option D} (h0 : ρ[i]? = some (.va x)) (hn : ∀ o, x ≠ Ow.d o) (h : Ev m ρ y ρ1) (e : f x y = some z) (a : stV i z ρ1 = some ρ') : Ev (mAug i m f) ρ .nx ρ' := fun ρ2 g => by
  obtain ⟨s2, e2, k⟩ := g.get h0
  have e2 : ρ2[i]? = some (.va x) := by
    generalize hq : Sl.va x = q at k
    cases k with
    | no => cases hq
    | rf => exact e2
    | ow o => cases hq; exact absurd rfl (hn o)
  obtain ⟨ρ3, e3, l⟩ := h ρ2 g
  obtain ⟨ρ4, e4, l4⟩ := stV_le a l
  refine ⟨ρ4, ?_, l4⟩
  unfold mAug
  rw [e2]
  dsimp only
  rw [e3]
  dsimp only
  rw [e]
  dsimp only
  rw [e4]
  rfl
theorem v_augI (h0 : ρ[i]? = some (.va x)) (h : Ev m ρ y ρ1) (e : gAddI x y = some z) (a : stV i z ρ1 = some ρ') : Ev (mAug i m gAddI) ρ .nx ρ' := v_aug h0 (fun o q => by
  subst q
  cases o <;> cases e) h e a
theorem v_augS (h0 : ρ[i]? = some (.va x)) (h : Ev m ρ y ρ1) (e : dSub x y = some z) (a : stV i z ρ1 = some ρ') : Ev (mAug i m dSub) ρ .nx ρ' := v_aug h0 (fun o q => by
  subst q
  cases o <;> cases e) h e a
theorem v_setIx {mk : Mm D} {k : Ow → Sl} {s0 : Sl} {o0 : Ow} {k0 : Ow → Sl} (h : Ev m ρ x ρ1) (h0 : ρ1[i]? = some s0) (w0 : Own1 s0 o0 k0) (hk : Ev mk ρ1 y ρ2) (h1 : ρ2[i]? = some s) (w : Own1 s o k) (e : setO o y x = some o2) :
    Ev (mSetIx m i mk) ρ .nx (ρ2.set i (k o2)) := fun ρa g => by
  obtain ⟨ρ3, e3, l3⟩ := h ρa g
  obtain ⟨ρ4, e4, l4⟩ := hk ρ3 l3
  refine ⟨_, ?_, ow1_put h1 w l4⟩
  unfold mSetIx
  rw [e3]
  dsimp only
  rw [ow1_get h0 w0 l3]
  dsimp only
  rw [e4]
  dsimp only
  rw [ow1_get h1 w l4]
  dsimp only
  rw [e]
theorem v_augIx {mk : Mm D} {k k0 k1 : Ow → Sl} {s0 s1 : Sl} {o0 o1 : Ow} {f : D → D → Option D} {q r : D} (h0 : ρ[i]? = some s0) (w0 : Own1 s0 o0 k0) (hk : Ev mk ρ y ρ1) (h1 : ρ1[i]? = some s1) (w1 : Own1 s1 o1 k1) (ex : dIx o1.d y = some x) (h : Ev m ρ1 q ρ2)
    (ef : f x q = some r) (h2 : ρ2[i]? = some s) (w : Own1 s o k) (e : setO o y r = some o2) : Ev (mAugIx i mk m f) ρ .nx (ρ2.set i (k o2)) := fun ρa g => by
  obtain ⟨ρ3, e3, l3⟩ := hk ρa g
  obtain ⟨ρ4, e4, l4⟩ := h ρ3 l3
  refine ⟨_, ?_, ow1_put h2 w l4⟩
  unfold mAugIx
  rw [ow1_get h0 w0 g]
  dsimp only
  rw [e3]
  dsimp only
  rw [ow1_get h1 w1 l3]
  dsimp only
  rw [ex]
  dsimp only
  rw [e4]
  dsimp only
  rw [ef]
  dsimp only
  rw [ow1_get h2 w l4]
  dsimp only
  rw [e]
/-- one of the ends P -/
def EvI (m : Ms) (ρ : En) (P : Fl → En → Prop) : Prop := ∀ ρ2, Le ρ ρ2 → ∃ f ρ3 ρ', m ρ2 = some (f, ρ3) ∧ Le ρ' ρ3 ∧ P f ρ'
theorem evi {m : Ms} {f : Fl} {P : Fl → En → Prop} (h : Ev m ρ f ρ') (p : P f ρ') : EvI m ρ P := fun ρ2 g => by
  obtain ⟨ρ3, e, k⟩ := h ρ2 g
  exact ⟨f, ρ3, ρ', e, k, p⟩
theorem EvI.nx {m : Ms} (h : EvI m ρ fun f ρa => f = .nx ∧ Le ρ' ρa) : Ev m ρ .nx ρ' := fun ρ2 g => by
  obtain ⟨f, ρ3, ρa, e, k, rfl, l⟩ := h ρ2 g
  exact ⟨ρ3, e, l.trans k⟩
theorem v_seq {m m' : Ms} {f : Fl} (h : Ev m ρ .nx ρ1) (h2 : Ev m' ρ1 f ρ') : Ev (mSeq m m') ρ f ρ' := fun ρ2 g => by
  obtain ⟨ρ3, e, k⟩ := h ρ2 g
  obtain ⟨ρ4, e2, k2⟩ := h2 ρ3 k
  exact ⟨ρ4, by unfold mSeq; rw [e]; exact e2, k2⟩
theorem v_seqX {m m' : Ms} {f : Fl} (h : Ev m ρ f ρ') (n : f ≠ .nx) : Ev (mSeq m m') ρ f ρ' := fun ρ2 g => by
  obtain ⟨ρ3, e, k⟩ := h ρ2 g
  refine ⟨ρ3, ?_, k⟩
  unfold mSeq
  rw [e]
  cases f <;> first | rfl | exact absurd rfl n
theorem evi_seq {m m' : Ms} {P : Fl → En → Prop} (h : Ev m ρ .nx ρ1) (h2 : EvI m' ρ1 P) : EvI (mSeq m m') ρ P := fun ρ2 g => by
  obtain ⟨ρ3, e, k⟩ := h ρ2 g
  obtain ⟨f, ρ4, ρ', e2, k2, p⟩ := h2 ρ3 k
  exact ⟨f, ρ4, ρ', by unfold mSeq; rw [e]; exact e2, k2, p⟩
/-- an end in the middle -/
theorem evi_seqX {m m' : Ms} {P : Fl → En → Prop} (h : EvI m ρ fun f ρ' => f ≠ .nx ∧ P f ρ') : EvI (mSeq m m') ρ P := fun ρ2 g => by
  obtain ⟨f, ρ3, ρ', e, k, n, p⟩ := h ρ2 g
  refine ⟨f, ρ3, ρ', ?_, k, p⟩
  unfold mSeq
  rw [e]
  cases f <;> first | rfl | exact absurd rfl n
theorem v_ifS {t : Mm Bool} {m m' : Ms} {f : Fl} (h : Ev t ρ b ρ1) (h1 : b = true → Ev m ρ1 f ρ') (h2 : b = false → Ev m' ρ1 f ρ') : Ev (mIfS t m m') ρ f ρ' := fun ρ2 g => by
  obtain ⟨ρ3, e, k⟩ := h ρ2 g
  unfold mIfS
  rw [e]
  cases b with
  | true => exact h1 rfl ρ3 k
  | false => exact h2 rfl ρ3 k
theorem evi_ifT {t : Mm Bool} {m m' : Ms} {P : Fl → En → Prop} (h : Ev t ρ true ρ1) (h1 : EvI m ρ1 P) : EvI (mIfS t m m') ρ P := fun ρ2 g => by
  obtain ⟨ρ3, e, k⟩ := h ρ2 g
  unfold mIfS
  rw [e]
  exact h1 ρ3 k
theorem evi_ifF {t : Mm Bool} {m m' : Ms} {P : Fl → En → Prop} (h : Ev t ρ false ρ1) (h1 : EvI m' ρ1 P) : EvI (mIfS t m m') ρ P := fun ρ2 g => by
  obtain ⟨ρ3, e, k⟩ := h ρ2 g
  unfold mIfS
  rw [e]
  exact h1 ρ3 k
theorem v_ifT {t : Mm Bool} {m m' : Ms} {f : Fl} (h : Ev t ρ true ρ1) (h1 : Ev m ρ1 f ρ') : Ev (mIfS t m m') ρ f ρ' := v_ifS h (fun _ => h1) (fun z => by cases z)
theorem v_ifF {t : Mm Bool} {m m' : Ms} {f : Fl} (h : Ev t ρ false ρ1) (h1 : Ev m' ρ1 f ρ') : Ev (mIfS t m m') ρ f ρ' := v_ifS h (fun z => by cases z) (fun _ => h1)
end
end DL

set_option Elab.async false
set_option linter.all false
set_option maxRecDepth 100000
namespace DL
open PySem PySem.Spec PyProof.Rows L2
theorem le_n (d : D) : SlLe .no (.va d) := .no _ fun _ z => by cases z
theorem le_o (o : Ow) : SlLe .no (.ow o) := .no _ fun _ z => by cases z
theorem bs {α β : Type} {o : Option α} {f : α → Option β} {z : β} (h : o.bind f = some z) : ∃ x, o = some x ∧ f x = some z := Option.bind_eq_some_iff.mp h
/-! ### loops -/
inductive Lp (σ ε : Type) where
  | nx (s : σ)
  | bk (s : σ)
  | rt (e : ε)
section
variable {σ ε : Type}
def forN (step : D → σ → Option σ) : List D → σ → Option σ
  | [], s => some s
  | d :: ds, s => (step d s).bind fun s' => forN step ds s'
def lpB (k : σ → Option σ) : Lp σ Empty → Option σ
  | .nx s => k s
  | .bk s => some s
  | .rt e => nomatch e
def lpL (k : σ → Option (Sum σ ε)) : Lp σ ε → Option (Sum σ ε)
  | .nx s => k s
  | .bk s => some (.inl s)
  | .rt e => some (.inr e)
def forB (step : D → σ → Option (Lp σ Empty)) : List D → σ → Option σ
  | [], s => some s
  | d :: ds, s => (step d s).bind (lpB fun s' => forB step ds s')
def forL (step : D → σ → Option (Lp σ ε)) : List D → σ → Option (Sum σ ε)
  | [], s => some (.inl s)
  | d :: ds, s => (step d s).bind (lpL fun s' => forL step ds s')
def whN (t : σ → Option Bool) (b : σ → Option σ) : Nat → σ → Option σ
  | 0, _ => none
  | n + 1, s => (t s).bind fun q => cond q ((b s).bind fun s' => whN t b n s') (some s)
def whL (t : σ → Option Bool) (b : σ → Option (Lp σ ε)) : Nat → σ → Option (Sum σ ε)
  | 0, _ => none
  | n + 1, s => (t s).bind fun q => cond q ((b s).bind (lpL fun s' => whL t b n s')) (some (.inl s))
open Classical in
noncomputable def whC (t : σ → Option Bool) (b : σ → Option σ) (s : σ) : Option σ := if h : ∃ n r, whN t b n s = some r then some h.choose_spec.choose else none
open Classical in
noncomputable def whD (t : σ → Option Bool) (b : σ → Option (Lp σ ε)) (s : σ) : Option (Sum σ ε) := if h : ∃ n r, whL t b n s = some r then some h.choose_spec.choose else none
theorem whN_more {t : σ → Option Bool} {b : σ → Option σ} {r : σ} : ∀ {n m : Nat} {s : σ}, n ≤ m → whN t b n s = some r → whN t b m s = some r
  | 0, m, s, _, h => by unfold whN at h; cases h
  | n + 1, 0, s, hl, _ => absurd hl (Nat.not_succ_le_zero n)
  | n + 1, m + 1, s, hl, h => by
    unfold whN at h ⊢
    obtain ⟨q, e, h⟩ := bs h
    rw [e, Option.bind_some]
    cases q with
    | false => exact h
    | true =>
      obtain ⟨s', e2, h⟩ := bs h
      dsimp only [cond]
      rw [e2, Option.bind_some]
      exact whN_more (Nat.le_of_succ_le_succ hl) h
theorem whC_of {t : σ → Option Bool} {b : σ → Option σ} {r : σ} {n : Nat} {s : σ} (h : whN t b n s = some r) : whC t b s = some r := by
  have q : ∃ n r, whN t b n s = some r := ⟨n, r, h⟩
  unfold whC
  rw [dif_pos q]
  have h2 := q.choose_spec.choose_spec
  have h3 := whN_more (Nat.le_max_left n q.choose) h
  have h4 := whN_more (Nat.le_max_right n q.choose) h2
  rw [h3] at h4
  cases h4
  rfl
theorem whC_to {t : σ → Option Bool} {b : σ → Option σ} {r : σ} {s : σ} (h : whC t b s = some r) : ∃ n, whN t b n s = some r := by
  unfold whC at h
  split at h
  · rename_i q
    have h2 := q.choose_spec.choose_spec
    cases h
    exact ⟨_, h2⟩
  · cases h
theorem whL_more {t : σ → Option Bool} {b : σ → Option (Lp σ ε)} {r : Sum σ ε} : ∀ {n m : Nat} {s : σ}, n ≤ m → whL t b n s = some r → whL t b m s = some r
  | 0, m, s, _, h => by unfold whL at h; cases h
  | n + 1, 0, s, hl, _ => absurd hl (Nat.not_succ_le_zero n)
  | n + 1, m + 1, s, hl, h => by
    unfold whL at h ⊢
    obtain ⟨q, e, h⟩ := bs h
    rw [e, Option.bind_some]
    cases q with
    | false => exact h
    | true =>
      obtain ⟨s', e2, h⟩ := bs h
      dsimp only [cond]
      rw [e2, Option.bind_some]
      cases s' with
      | nx s' => exact whL_more (Nat.le_of_succ_le_succ hl) h
      | bk s' => exact h
      | rt e => exact h
theorem whD_of {t : σ → Option Bool} {b : σ → Option (Lp σ ε)} {r : Sum σ ε} {n : Nat} {s : σ} (h : whL t b n s = some r) : whD t b s = some r := by
  have q : ∃ n r, whL t b n s = some r := ⟨n, r, h⟩
  unfold whD
  rw [dif_pos q]
  have h2 := q.choose_spec.choose_spec
  have h3 := whL_more (Nat.le_max_left n q.choose) h
  have h4 := whL_more (Nat.le_max_right n q.choose) h2
  rw [h3] at h4
  cases h4
  rfl
theorem whD_to {t : σ → Option Bool} {b : σ → Option (Lp σ ε)} {r : Sum σ ε} {s : σ} (h : whD t b s = some r) : ∃ n, whL t b n s = some r := by
  unfold whD at h
  split at h
  · rename_i q
    have h2 := q.choose_spec.choose_spec
    cases h
    exact ⟨_, h2⟩
  · cases h
/-- how a turn may end -/
def NxCt (e : En) (f : Fl) (ρ' : En) : Prop := (f = .nx ∨ f = .ct) ∧ Le e ρ'
def LpI (e : σ → En) (I : ε → Fl → En → Prop) : Lp σ ε → Fl → En → Prop
  | .nx s, f, ρ' => NxCt (e s) f ρ'
  | .bk s, f, ρ' => f = .bk ∧ Le (e s) ρ'
  | .rt x, f, ρ' => ((∃ d, f = .rv d) ∨ ∃ o, f = .ro o) ∧ I x f ρ'
/-- how a loop, or a block in the middle, may end -/
def SmI (e : σ → En) (I : ε → Fl → En → Prop) : Sum σ ε → Fl → En → Prop
  | .inl s, f, ρ' => f = .nx ∧ Le (e s) ρ'
  | .inr x, f, ρ' => f ≠ .nx ∧ I x f ρ'
variable {ρ ρ1 ρ2 ρ' : En} {it : Mm (List D)} {t : Tg} {b : Ms} {ds : List D} {e : σ → En} {s0 s1 : σ} {tt : Mm Bool}
theorem forN_ok {step : D → σ → Option σ} (hb : ∀ d s s', step d s = some s' → ∃ ρ2, asg t d (e s) = some ρ2 ∧ EvI b ρ2 (NxCt (e s'))) :
    ∀ {ds : List D} {s0 s1 : σ} {ρ2 : En}, Le (e s0) ρ2 → forN step ds s0 = some s1 → ∃ ρ3, forF t b ds ρ2 = some (.nx, ρ3) ∧ Le (e s1) ρ3
  | [], s0, s1, ρ2, g, h => by cases h; exact ⟨ρ2, rfl, g⟩
  | d :: ds, s0, s1, ρ2, g, h => by
    obtain ⟨s', e1, h⟩ := bs h
    obtain ⟨ρa, ea, ev⟩ := hb d s0 s' e1
    obtain ⟨ρc, ec, gc⟩ := asg_le t d ea g
    obtain ⟨f, ρd, ρb, ed, gd, hf, hl⟩ := ev ρc gc
    obtain ⟨ρ3, e3, g3⟩ := forN_ok hb (hl.trans gd) h
    refine ⟨ρ3, ?_, g3⟩
    unfold forF
    rw [ec]
    dsimp only
    rw [ed]
    rcases hf with rfl | rfl <;> exact e3
theorem v_forN {step : D → σ → Option σ} (e : σ → En) (hi : Ev it ρ ds ρ1) (hl : Le (e s0) ρ1) (h : forN step ds s0 = some s1) (hb : ∀ d s s', step d s = some s' → ∃ ρ2, asg t d (e s) = some ρ2 ∧ EvI b ρ2 (NxCt (e s'))) : Ev (mFor it t b) ρ .nx (e s1) := fun ρ2 g => by
  obtain ⟨ρ3, e3, g3⟩ := hi ρ2 g
  obtain ⟨ρ4, e4, g4⟩ := forN_ok hb (hl.trans g3) h
  exact ⟨ρ4, by unfold mFor; rw [e3]; exact e4, g4⟩
theorem forB_ok {step : D → σ → Option (Lp σ Empty)} (hb : ∀ d s r, step d s = some r → ∃ ρ2, asg t d (e s) = some ρ2 ∧ EvI b ρ2 (LpI e (fun z => nomatch z) r)) :
    ∀ {ds : List D} {s0 s1 : σ} {ρ2 : En}, Le (e s0) ρ2 → forB step ds s0 = some s1 → ∃ ρ3, forF t b ds ρ2 = some (.nx, ρ3) ∧ Le (e s1) ρ3
  | [], s0, s1, ρ2, g, h => by cases h; exact ⟨ρ2, rfl, g⟩
  | d :: ds, s0, s1, ρ2, g, h => by
    obtain ⟨s', e1, h⟩ := bs h
    obtain ⟨ρa, ea, ev⟩ := hb d s0 s' e1
    obtain ⟨ρc, ec, gc⟩ := asg_le t d ea g
    obtain ⟨f, ρd, ρb, ed, gd, hf⟩ := ev ρc gc
    cases s' with
    | nx s' =>
      obtain ⟨hf, hl⟩ := hf
      obtain ⟨ρ3, e3, g3⟩ := forB_ok hb (hl.trans gd) h
      refine ⟨ρ3, ?_, g3⟩
      unfold forF
      rw [ec]
      dsimp only
      rw [ed]
      rcases hf with rfl | rfl <;> exact e3
    | bk s' =>
      obtain ⟨rfl, hl⟩ := hf
      cases h
      refine ⟨ρd, ?_, hl.trans gd⟩
      unfold forF
      rw [ec]
      dsimp only
      rw [ed]
    | rt z => nomatch z
theorem v_forB {step : D → σ → Option (Lp σ Empty)} (e : σ → En) (hi : Ev it ρ ds ρ1) (hl : Le (e s0) ρ1) (h : forB step ds s0 = some s1) (hb : ∀ d s r, step d s = some r → ∃ ρ2, asg t d (e s) = some ρ2 ∧ EvI b ρ2 (LpI e (fun z => nomatch z) r)) : Ev (mFor it t b) ρ .nx (e s1) := fun ρ2 g => by
  obtain ⟨ρ3, e3, g3⟩ := hi ρ2 g
  obtain ⟨ρ4, e4, g4⟩ := forB_ok hb (hl.trans g3) h
  exact ⟨ρ4, by unfold mFor; rw [e3]; exact e4, g4⟩
theorem forL_ok {I : ε → Fl → En → Prop} {step : D → σ → Option (Lp σ ε)} (hb : ∀ d s r, step d s = some r → ∃ ρ2, asg t d (e s) = some ρ2 ∧ EvI b ρ2 (LpI e I r)) :
    ∀ {ds : List D} {s0 : σ} {r : Sum σ ε} {ρ2 : En}, Le (e s0) ρ2 → forL step ds s0 = some r → ∃ f ρ3 ρ', forF t b ds ρ2 = some (f, ρ3) ∧ Le ρ' ρ3 ∧ SmI e I r f ρ'
  | [], s0, r, ρ2, g, h => by cases h; exact ⟨.nx, ρ2, ρ2, rfl, Le.refl _, rfl, g⟩
  | d :: ds, s0, r, ρ2, g, h => by
    obtain ⟨s', e1, h⟩ := bs h
    obtain ⟨ρa, ea, ev⟩ := hb d s0 s' e1
    obtain ⟨ρc, ec, gc⟩ := asg_le t d ea g
    obtain ⟨f, ρd, ρb, ed, gd, hf⟩ := ev ρc gc
    cases s' with
    | nx s' =>
      obtain ⟨hf, hl⟩ := hf
      obtain ⟨f3, ρ3, ρ', e3, g3⟩ := forL_ok hb (hl.trans gd) h
      refine ⟨f3, ρ3, ρ', ?_, g3⟩
      unfold forF
      rw [ec]
      dsimp only
      rw [ed]
      rcases hf with rfl | rfl <;> exact e3
    | bk s' =>
      obtain ⟨rfl, hl⟩ := hf
      cases h
      refine ⟨.nx, ρd, ρb, ?_, gd, rfl, hl⟩
      unfold forF
      rw [ec]
      dsimp only
      rw [ed]
    | rt z =>
      obtain ⟨hf, hi⟩ := hf
      cases h
      refine ⟨f, ρd, ρb, ?_, gd, ?_, hi⟩
      · unfold forF
        rw [ec]
        dsimp only
        rw [ed]
        rcases hf with ⟨_, rfl⟩ | ⟨_, rfl⟩ <;> rfl
      · rcases hf with ⟨_, rfl⟩ | ⟨_, rfl⟩ <;> exact fun z => nomatch z
theorem v_forL {I : ε → Fl → En → Prop} {step : D → σ → Option (Lp σ ε)} {r : Sum σ ε} (e : σ → En) (hi : Ev it ρ ds ρ1) (hl : Le (e s0) ρ1) (h : forL step ds s0 = some r) (hb : ∀ d s r, step d s = some r → ∃ ρ2, asg t d (e s) = some ρ2 ∧ EvI b ρ2 (LpI e I r)) : EvI (mFor it t b) ρ (SmI e I r) := fun ρ2 g => by
  obtain ⟨ρ3, e3, g3⟩ := hi ρ2 g
  obtain ⟨f, ρ4, ρ', e4, g4⟩ := forL_ok hb (hl.trans g3) h
  exact ⟨f, ρ4, ρ', by unfold mFor; rw [e3]; exact e4, g4⟩
theorem whN_ok {tm : Mm Bool} {t : σ → Option Bool} {step : σ → Option σ} (ht : ∀ s q, t s = some q → Ev tm (e s) q (e s)) (hb : ∀ s s', step s = some s' → EvI b (e s) (NxCt (e s'))) :
    ∀ {n : Nat} {s0 s1 : σ} {ρ2 : En}, Le (e s0) ρ2 → whN t step n s0 = some s1 → ∃ ρ3, whF tm b n ρ2 = some (.nx, ρ3) ∧ Le (e s1) ρ3
  | 0, s0, s1, ρ2, g, h => by cases h
  | n + 1, s0, s1, ρ2, g, h => by
    obtain ⟨q, e1, h⟩ := bs h
    obtain ⟨ρc, ec, gc⟩ := ht s0 q e1 ρ2 g
    unfold whF
    rw [ec]
    cases q with
    | false => cases h; exact ⟨ρc, rfl, gc⟩
    | true =>
      obtain ⟨s', e2, h⟩ := bs h
      obtain ⟨f, ρd, ρb, ed, gd, hf, hl⟩ := hb s0 s' e2 ρc gc
      obtain ⟨ρ3, e3, g3⟩ := whN_ok ht hb (hl.trans gd) h
      refine ⟨ρ3, ?_, g3⟩
      dsimp only
      rw [ed]
      rcases hf with rfl | rfl <;> exact e3
theorem v_whC {tm : Mm Bool} {t : σ → Option Bool} {step : σ → Option σ} (e : σ → En) (hl : Le (e s0) ρ) (h : whC t step s0 = some s1) (ht : ∀ s q, t s = some q → Ev tm (e s) q (e s)) (hb : ∀ s s', step s = some s' → EvI b (e s) (NxCt (e s'))) : Ev (mWhile tm b) ρ .nx (e s1) := fun ρ2 g => by
  obtain ⟨n, h⟩ := whC_to h
  obtain ⟨ρ4, e4, g4⟩ := whN_ok ht hb (hl.trans g) h
  exact ⟨ρ4, mWhile_of e4, g4⟩
theorem whL_ok {I : ε → Fl → En → Prop} {tm : Mm Bool} {t : σ → Option Bool} {step : σ → Option (Lp σ ε)} (ht : ∀ s q, t s = some q → Ev tm (e s) q (e s)) (hb : ∀ s r, step s = some r → EvI b (e s) (LpI e I r)) :
    ∀ {n : Nat} {s0 : σ} {r : Sum σ ε} {ρ2 : En}, Le (e s0) ρ2 → whL t step n s0 = some r → ∃ f ρ3 ρ', whF tm b n ρ2 = some (f, ρ3) ∧ Le ρ' ρ3 ∧ SmI e I r f ρ'
  | 0, s0, s1, ρ2, g, h => by cases h
  | n + 1, s0, s1, ρ2, g, h => by
    obtain ⟨q, e1, h⟩ := bs h
    obtain ⟨ρc, ec, gc⟩ := ht s0 q e1 ρ2 g
    unfold whF
    rw [ec]
    cases q with
    | false => cases h; exact ⟨.nx, ρc, _, rfl, gc, rfl, Le.refl _⟩
    | true =>
      obtain ⟨s', e2, h⟩ := bs h
      obtain ⟨f, ρd, ρb, ed, gd, hf⟩ := hb s0 s' e2 ρc gc
      dsimp only
      rw [ed]
      cases s' with
      | nx s' =>
        obtain ⟨hf, hl⟩ := hf
        obtain ⟨f3, ρ3, ρ', e3, g3⟩ := whL_ok ht hb (hl.trans gd) h
        refine ⟨f3, ρ3, ρ', ?_, g3⟩
        rcases hf with rfl | rfl <;> exact e3
      | bk s' =>
        obtain ⟨rfl, hl⟩ := hf
        cases h
        exact ⟨.nx, ρd, ρb, rfl, gd, rfl, hl⟩
      | rt z =>
        obtain ⟨hf, hi⟩ := hf
        cases h
        refine ⟨f, ρd, ρb, ?_, gd, ?_, hi⟩
        · rcases hf with ⟨_, rfl⟩ | ⟨_, rfl⟩ <;> rfl
        · rcases hf with ⟨_, rfl⟩ | ⟨_, rfl⟩ <;> exact fun z => nomatch z
theorem v_whD {I : ε → Fl → En → Prop} {tm : Mm Bool} {t : σ → Option Bool} {step : σ → Option (Lp σ ε)} {r : Sum σ ε} (e : σ → En) (hl : Le (e s0) ρ) (h : whD t step s0 = some r) (ht : ∀ s q, t s = some q → Ev tm (e s) q (e s)) (hb : ∀ s r, step s = some r → EvI b (e s) (LpI e I r)) : EvI (mWhile tm b) ρ (SmI e I r) := fun ρ2 g => by
  obtain ⟨n, h⟩ := whD_to h
  obtain ⟨f, ρ4, ρ', e4, g4⟩ := whL_ok ht hb (hl.trans g) h
  exact ⟨f, ρ4, ρ', mWhile_of e4, g4⟩
/-! ### comprehensions -/
theorem clr_le : ∀ {ρ ρ2 : En} {k : Nat}, Le ρ ρ2 → ∀ ix : List Nat, Le ((ρ.zipIdx k).map fun q => if q.2 ∈ ix then .no else q.1) ((ρ2.zipIdx k).map fun q => if q.2 ∈ ix then .no else q.1) := by
  intro ρ ρ2 k h ix
  induction h generalizing k with
  | nil => exact .nil
  | cons h t ih =>
    rw [List.zipIdx_cons, List.zipIdx_cons, List.map_cons, List.map_cons]
    refine .cons ?_ ih
    dsimp only
    split
    · exact .rf _
    · exact h
theorem Le.clr (h : Le ρ ρ2) (ix : List Nat) : Le (DL.clr ix ρ) (DL.clr ix ρ2) := clr_le h ix
def dem1 (i : Nat) (ρ : En) : En := match ρ[i]? with
  | some (.ow o) => ρ.set i (.va o.d)
  | _ => ρ
theorem dem_cons (i : Nat) (ix : List Nat) (ρ : En) : DL.dem (i :: ix) ρ = DL.dem ix (dem1 i ρ) := by
  conv => lhs; unfold DL.dem
  unfold dem1
  cases ρ[i]? with
  | none => rfl
  | some s => cases s <;> rfl
theorem Le.dem1 (i : Nat) (h : Le ρ ρ2) : Le (DL.dem1 i ρ) (DL.dem1 i ρ2) := by
  unfold DL.dem1
  cases e : ρ[i]? with
  | none =>
    have : ρ2[i]? = none := by
      rw [List.getElem?_eq_none_iff] at e ⊢
      rw [h.len]
      exact e
    rw [this]
    exact h
  | some s =>
    obtain ⟨s2, e2, l⟩ := h.get e
    rw [e2]
    cases l with
    | no _ n => cases s2 with
      | ow o => exact h.setR (le_n _) e
      | _ => exact h
    | rf => cases s with
      | ow o => exact h.set (.rf _) i
      | _ => exact h
    | ow o => exact h.setR (.rf _) e
theorem Le.dem : ∀ (ix : List Nat) {ρ ρ2 : En}, Le ρ ρ2 → Le (DL.dem ix ρ) (DL.dem ix ρ2)
  | [], ρ, ρ2, h => h
  | i :: ix, ρ, ρ2, h => by
    rw [dem_cons, dem_cons]
    exact Le.dem ix (h.dem1 i)
theorem dem_ow : ∀ (ix : List Nat) (ρ : En) (i : Nat) (o : Ow), i ∈ ix → (DL.dem ix ρ)[i]? ≠ some (.ow o) := by
  have mono : ∀ (ix : List Nat) (ρ : En) (i : Nat), (∀ o, ρ[i]? ≠ some (.ow o)) → ∀ o, (DL.dem ix ρ)[i]? ≠ some (.ow o) := by
    intro ix
    induction ix with
    | nil => intro ρ i h; exact h
    | cons j ix ih =>
      intro ρ i h
      unfold DL.dem
      split
      · rename_i o w
        refine ih _ i fun o2 z => ?_
        by_cases hj : j = i
        · subst hj
          exact h _ w
        · rw [List.getElem?_set_ne hj] at z
          exact h _ z
      · exact ih _ i h
  intro ix
  induction ix with
  | nil => intro ρ i o h; cases h
  | cons j ix ih =>
    intro ρ i o h
    unfold DL.dem
    rcases List.mem_cons.mp h with rfl | h
    · split
      · rename_i o1 w
        refine mono ix _ _ (fun o2 z => ?_) o
        rw [List.getElem?_set_self (List.getElem?_eq_some_iff.mp w).1] at z
        cases z
      · rename_i w
        exact mono ix _ _ (fun o2 z => w o2 z) o
    · split <;> exact ih _ i o h
theorem rst_le {ix : List Nat} {a a2 : En} (ha : Le a a2) (hn : ∀ i ∈ ix, ∀ o, a2[i]? ≠ some (.ow o)) : ∀ {ρ ρ2 : En} {k : Nat}, Le ρ ρ2 → Le ((ρ.zipIdx k).map fun q => if q.2 ∈ ix then svd a[q.2]? else q.1) ((ρ2.zipIdx k).map fun q => if q.2 ∈ ix then svd a2[q.2]? else q.1) := by
  intro ρ ρ2 k h
  induction h generalizing k with
  | nil => exact .nil
  | cons h t ih =>
    rw [List.zipIdx_cons, List.zipIdx_cons, List.map_cons, List.map_cons]
    refine .cons ?_ ih
    dsimp only
    split
    · rename_i hk
      cases e : a[k]? with
      | none => cases e2 : a2[k]? with
        | none => exact .rf _
        | some s2 => cases s2 <;> first | exact .rf _ | exact le_n _
      | some s =>
        obtain ⟨s2, e2, l⟩ := ha.get e
        rw [e2]
        cases l with
        | no _ n => cases s2 <;> first | exact .rf _ | exact le_n _
        | rf => exact .rf _
        | ow o => exact absurd e2 (hn _ hk _)
    · exact h
theorem Le.rst {ix : List Nat} {a a2 : En} (ha : Le a a2) (h : Le ρ ρ2) : Le (DL.rst ix (DL.dem ix a) ρ) (DL.rst ix (DL.dem ix a2) ρ2) := rst_le (Le.dem ix ha) (fun i hi o => dem_ow ix a2 i o hi) h
def lcP (f : D → Option (Option D)) : List D → Option (List D)
  | [] => some []
  | d :: ds => (f d).bind fun r => (lcP f ds).map fun ys => r.toList ++ ys
def lcS (f : D → σ → Option (Option D × σ)) : List D → σ → Option (List D × σ)
  | [], s => some ([], s)
  | d :: ds, s => (f d s).bind fun r => (lcS f ds r.2).map fun q => (r.1.toList ++ q.1, q.2)
def szG (ys : List D) : Option Unit := if ys.length ≤ 16777216 then some () else none
theorem szG_some {ys : List D} (h : szG ys = some ()) : ys.length ≤ 16777216 := by
  unfold szG at h
  split at h
  · assumption
  · cases h
theorem lcS_ok {el : Mm D} {ix : List Nat} {f : D → σ → Option (Option D × σ)} (hb : ∀ d s r, f d s = some r → ∃ ρ2 b ρ3, asg t d (e s) = some ρ2 ∧ Ev tt ρ2 b ρ3 ∧ ((b = false ∧ r.1 = none ∧ Le (e r.2) (clr ix ρ3)) ∨ ∃ y ρ4, b = true ∧ r.1 = some y ∧ Ev el ρ3 y ρ4 ∧ Le (e r.2) (clr ix ρ4))) :
    ∀ {ds acc : List D} {s0 : σ} {r : List D × σ} {ρ2 : En}, Le (e s0) ρ2 → lcS f ds s0 = some r → acc.length + r.1.length ≤ 16777216 → ∃ ρ3, lcF ix t tt el ds acc ρ2 = some (acc ++ r.1, ρ3) ∧ Le (e r.2) ρ3
  | [], acc, s0, r, ρ2, g, h, hz => by cases h; exact ⟨ρ2, by rw [List.append_nil]; rfl, g⟩
  | d :: ds, acc, s0, r, ρ2, g, h, hz => by
    obtain ⟨q, e1, h⟩ := bs h
    obtain ⟨w, e2, rfl⟩ := Option.map_eq_some_iff.mp h
    obtain ⟨ρa, b, ρb, ea, ev, hc⟩ := hb d s0 q e1
    obtain ⟨ρc, ec, gc⟩ := asg_le t d ea g
    obtain ⟨ρd, ed, gd⟩ := ev ρc gc
    unfold lcF
    rw [ec]
    dsimp only
    rw [ed]
    rcases hc with ⟨rfl, hq, hl⟩ | ⟨y, ρ4, rfl, hq, ev2, hl⟩
    · rw [hq] at hz ⊢
      obtain ⟨ρ3, e3, g3⟩ := lcS_ok hb (acc := acc) (hl.trans (gd.clr ix)) e2 (by simpa using hz)
      exact ⟨ρ3, e3, g3⟩
    · rw [hq] at hz ⊢
      obtain ⟨ρe, ee, ge⟩ := ev2 ρd gd
      dsimp only [Option.toList] at hz ⊢
      rw [ee]
      dsimp only
      rw [List.length_append, List.length_singleton] at hz
      rw [if_pos (by omega)]
      obtain ⟨ρ3, e3, g3⟩ := lcS_ok hb (acc := acc ++ [y]) (hl.trans (ge.clr ix)) e2 (by rw [List.length_append, List.length_singleton]; omega)
      exact ⟨ρ3, by rw [e3, List.append_assoc], g3⟩
theorem v_lcS {el : Mm D} {ix : List Nat} {f : D → σ → Option (Option D × σ)} {r : List D × σ} {u : Unit} (e : σ → En) (hi : Ev it ρ ds ρ1) (hl : Le (e s0) (clr ix (dem ix ρ1))) (h : lcS f ds s0 = some r) (hz : szG r.1 = some u)
    (hb : ∀ d s r, f d s = some r → ∃ ρ2 b ρ3, asg t d (e s) = some ρ2 ∧ Ev tt ρ2 b ρ3 ∧ ((b = false ∧ r.1 = none ∧ Le (e r.2) (clr ix ρ3)) ∨ ∃ y ρ4, b = true ∧ r.1 = some y ∧ Ev el ρ3 y ρ4 ∧ Le (e r.2) (clr ix ρ4))) :
    Ev (mLc it ix t tt el) ρ (.lst r.1) (rst ix (dem ix ρ1) (e r.2)) := fun ρ2 g => by
  obtain ⟨ρ3, e3, g3⟩ := hi ρ2 g
  obtain ⟨ρ4, e4, g4⟩ := lcS_ok hb (acc := []) (hl.trans ((Le.dem ix g3).clr ix)) h (by have := szG_some hz; simpa using this)
  refine ⟨_, ?_, Le.rst g3 g4⟩
  unfold mLc
  rw [e3]
  dsimp only
  rw [e4]
  rfl
theorem lcP_S {f : D → Option (Option D)} : ∀ {ds ys : List D}, lcP f ds = some ys → lcS (fun d (_ : Unit) => (f d).map fun r => (r, ())) ds () = some (ys, ())
  | [], ys, h => by cases h; rfl
  | d :: ds, ys, h => by
    obtain ⟨q, e1, h⟩ := bs h
    obtain ⟨w, e2, rfl⟩ := Option.map_eq_some_iff.mp h
    have e3 := lcP_S e2
    unfold lcS
    rw [e1, Option.map_some, Option.bind_some, e3, Option.map_some]
theorem v_lcP {el : Mm D} {ix : List Nat} {f : D → Option (Option D)} {ys : List D} {u : Unit} {ρ0 : En} (hi : Ev it ρ ds ρ1) (hl : Le ρ0 (clr ix (dem ix ρ1))) (h : lcP f ds = some ys) (hz : szG ys = some u)
    (hb : ∀ d r, f d = some r → ∃ ρ2 b ρ3, asg t d ρ0 = some ρ2 ∧ Ev tt ρ2 b ρ3 ∧ ((b = false ∧ r = none ∧ Le ρ0 (clr ix ρ3)) ∨ ∃ y ρ4, b = true ∧ r = some y ∧ Ev el ρ3 y ρ4 ∧ Le ρ0 (clr ix ρ4))) :
    Ev (mLc it ix t tt el) ρ (.lst ys) (rst ix (dem ix ρ1) ρ0) :=
  v_lcS (r := (ys, ())) (fun _ => ρ0) hi hl (lcP_S h) hz fun d s r q => by
    obtain ⟨r', e, rfl⟩ := Option.map_eq_some_iff.mp q
    exact hb d r' e
def dcP (f : D → Option (Option (Key × D))) : List D → List Key → List D → Option (List Key × List D)
  | [], ks, acc => some (ks, acc)
  | d :: ds, ks, acc => (f d).bind fun r => match r with
    | none => dcP f ds ks acc
    | some q => if ks.length < 16777216 then dcP f ds (putKs ks q.1) (putDs ks acc q.1 q.2) else none
theorem dcP_ok {mk el : Mm D} {ix : List Nat} {ρ0 : En} {f : D → Option (Option (Key × D))} (hb : ∀ d r, f d = some r → ∃ ρ2 b ρ3, asg t d ρ0 = some ρ2 ∧ Ev tt ρ2 b ρ3 ∧ ((b = false ∧ r = none ∧ Le ρ0 (clr ix ρ3)) ∨ ∃ x k y ρ4 ρ5, b = true ∧ keyOf x = some k ∧ r = some (k, y) ∧ Ev mk ρ3 x ρ4 ∧ Ev el ρ4 y ρ5 ∧ Le ρ0 (clr ix ρ5))) :
    ∀ {ds : List D} {ks : List Key} {acc : List D} {r : List Key × List D} {ρ2 : En}, Le ρ0 ρ2 → dcP f ds ks acc = some r → ∃ ρ3, dcF ix t tt mk el ds ks acc ρ2 = some (r, ρ3) ∧ Le ρ0 ρ3
  | [], ks, acc, r, ρ2, g, h => by cases h; exact ⟨ρ2, rfl, g⟩
  | d :: ds, ks, acc, r, ρ2, g, h => by
    obtain ⟨q, e1, h⟩ := bs h
    obtain ⟨ρa, b, ρb, ea, ev, hc⟩ := hb d q e1
    obtain ⟨ρc, ec, gc⟩ := asg_le t d ea g
    obtain ⟨ρd, ed, gd⟩ := ev ρc gc
    unfold dcF
    rw [ec]
    dsimp only
    rw [ed]
    rcases hc with ⟨rfl, rfl, hl⟩ | ⟨x, k, y, ρ4, ρ5, rfl, hk, rfl, ev2, ev3, hl⟩
    · exact dcP_ok hb (hl.trans (gd.clr ix)) h
    · obtain ⟨ρe, ee, ge⟩ := ev2 ρd gd
      obtain ⟨ρf, ef, gf⟩ := ev3 ρe ge
      dsimp only at h ⊢
      rw [ee]
      dsimp only
      rw [ef]
      dsimp only
      rw [hk]
      dsimp only
      split at h
      · rename_i hz
        rw [if_pos hz]
        exact dcP_ok hb (hl.trans (gf.clr ix)) h
      · cases h
theorem v_dcP {mk el : Mm D} {ix : List Nat} {f : D → Option (Option (Key × D))} {r : List Key × List D} {ρ0 : En} (hi : Ev it ρ ds ρ1) (hl : Le ρ0 (clr ix (dem ix ρ1))) (h : dcP f ds [] [] = some r)
    (hb : ∀ d r, f d = some r → ∃ ρ2 b ρ3, asg t d ρ0 = some ρ2 ∧ Ev tt ρ2 b ρ3 ∧ ((b = false ∧ r = none ∧ Le ρ0 (clr ix ρ3)) ∨ ∃ x k y ρ4 ρ5, b = true ∧ keyOf x = some k ∧ r = some (k, y) ∧ Ev mk ρ3 x ρ4 ∧ Ev el ρ4 y ρ5 ∧ Le ρ0 (clr ix ρ5))) :
    Ev (mDc it ix t tt mk el) ρ (.dct r.1 r.2) (rst ix (dem ix ρ1) ρ0) := fun ρ2 g => by
  obtain ⟨ρ3, e3, g3⟩ := hi ρ2 g
  obtain ⟨ρ4, e4, g4⟩ := dcP_ok hb (hl.trans ((Le.dem ix g3).clr ix)) h
  refine ⟨_, ?_, Le.rst g3 g4⟩
  unfold mDc
  rw [e3]
  dsimp only
  rw [e4]
end
end DL

set_option Elab.async false
set_option linter.all false
set_option maxRecDepth 100000
namespace DL
open PySem PySem.Spec PyProof.Rows L2
section
variable {α β : Type} {s s2 s3 : Sl} {ρ ρ1 ρ2 ρ3 ρ' ρ'' : En} {i j n : Nat} {d x y z : D} {o o1 o2 : Ow} {ds es : List D} {m m' : Mm D} {as ks : List Ar} {xs ys : List Sm} {fm : Fm} {r : Rs}
theorem v_a0 : Ev (aR []) ρ [] ρ := v_ret
theorem v_av (h : Ev m ρ x ρ1) (h2 : Ev (aR as) ρ1 xs ρ') : Ev (aR (.v m :: as)) ρ (.inl x :: xs) ρ' := v_bd h (v_bd h2 v_ret)
theorem v_ao {k : Ow → Sl} (h : ρ[i]? = some s) (w : Own1 s o k) (h2 : Ev (aR as) ρ xs ρ') : Ev (aR (.o i :: as)) ρ (.inr i :: xs) ρ' := fun ρ2 g => by
  obtain ⟨ρ3, e, l⟩ := (v_bd (f := fun xs => ret (Sum.inr i :: xs)) h2 v_ret) ρ2 g
  refine ⟨ρ3, ?_, l⟩
  unfold aR
  rw [ow1_get h w g]
  exact e
theorem fill_inl : ∀ ds : List D, (ds.map Sum.inl).mapM (fill1 ρ) = some (ds.map .va)
  | [] => rfl
  | d :: ds => by
    rw [List.map_cons, List.mapM_cons, fill_inl ds]
    rfl
theorem ioOne_inl : ∀ ds : List D, ioOne (ds.map .inl) = true
  | [] => rfl
  | d :: ds => ioOne_inl ds
theorem ioS_inl : ∀ ds : List D, ioS (ds.map .inl) = none
  | [] => rfl
  | d :: ds => ioS_inl ds
theorem ioS_app : ∀ (ds es : List D), ioS (ds.map .inl ++ .inr i :: es.map .inl) = some i
  | [], es => rfl
  | d :: ds, es => ioS_app ds es
theorem ioOne_app : ∀ (ds es : List D), ioOne (ds.map .inl ++ .inr i :: es.map .inl) = true
  | [], es => by
    show (ioS (es.map .inl)).isNone = true
    rw [ioS_inl]
    rfl
  | d :: ds, es => ioOne_app ds es
theorem fill_app (h : getO i ρ = some o) : ∀ (ds es : List D), (ds.map Sum.inl ++ Sum.inr i :: es.map Sum.inl : List Sm).mapM (fill1 ρ) = some (ds.map .va ++ .io o :: es.map .va)
  | [], es => by
    rw [List.map_nil, List.nil_append, List.mapM_cons, fill_inl es]
    show ((getO i ρ).map Sl.io).bind (fun a => some (a :: es.map .va)) = _
    rw [h]
    rfl
  | d :: ds, es => by
    rw [List.map_cons, List.cons_append, List.mapM_cons, fill_app h ds es]
    rfl
theorem callV (hn : ds.length = n) (hf : fm (ds.map .va) = some (r, none)) : callF n fm (ds.map .inl) ρ = some (r, ρ) := by
  unfold callF
  rw [if_pos ⟨ioOne_inl ds, by rw [List.length_map, hn]⟩, fill_inl]
  dsimp only
  rw [hf]
  dsimp only
  unfold putIo
  rw [ioS_inl]
  rfl
theorem v_callV (ds : List D) (h : Ev (aR as) ρ (ds.map .inl) ρ1) (hn : ds.length = n) (hf : fm (ds.map .va) = some (r, none)) : Ev (mCallR n fm as) ρ r ρ1 := fun ρ2 g => by
  obtain ⟨ρ3, e, l⟩ := h ρ2 g
  exact ⟨ρ3, by unfold mCallR; rw [e]; exact callV hn hf, l⟩
theorem v_callI {k : Ow → Sl} (ds es : List D) (h : Ev (aR as) ρ (ds.map .inl ++ .inr i :: es.map .inl) ρ1) (hs : ρ1[i]? = some s) (w : Own1 s o k) (hn : (ds ++ es).length + 1 = n) (hf : fm (ds.map .va ++ .io o :: es.map .va) = some (r, some o2)) : Ev (mCallR n fm as) ρ r (ρ1.set i (k o2)) := fun ρ2 g => by
  obtain ⟨ρ3, e, l⟩ := h ρ2 g
  refine ⟨putO i o2 ρ3, ?_, ow1_put hs w l⟩
  unfold mCallR
  rw [e]
  dsimp only
  unfold callF
  rw [if_pos ⟨ioOne_app ds es, by rw [List.length_append, List.length_cons, List.length_map, List.length_map, ← hn, List.length_append]; omega⟩, fill_app (ow1_get hs w l)]
  dsimp only
  rw [hf]
  dsimp only
  unfold putIo
  rw [ioS_app]
  rfl
theorem permG_map {α β : Type} (f : α → β) (l : List α) : ∀ pm : List Nat, permG pm (l.map f) = (permG pm l).map f
  | [] => rfl
  | i :: pm => by
    have ih := permG_map f l pm
    unfold permG at ih ⊢
    rw [List.filterMap_cons, List.filterMap_cons, List.getElem?_map]
    cases l[i]? with
    | none => exact ih
    | some x => show f x :: _ = _; rw [ih]; rfl
theorem v_callK {pm : List Nat} (ds es qs : List D) (h : Ev (aR as) ρ (ds.map .inl) ρ1) (h2 : Ev (aR ks) ρ1 (es.map .inl) ρ') (hp : permG pm (ds ++ es) = qs) (hn : qs.length = n) (hf : fm (qs.map .va) = some (r, none)) : Ev (mCallK n fm as ks pm) ρ r ρ' := fun ρ2 g => by
  obtain ⟨ρ3, e, l⟩ := h ρ2 g
  obtain ⟨ρ4, e4, l4⟩ := h2 ρ3 l
  refine ⟨ρ4, ?_, l4⟩
  unfold mCallK
  rw [e]
  dsimp only
  rw [e4]
  dsimp only
  rw [← List.map_append, permG_map, hp]
  exact callV hn hf
theorem v_asV {m : En → Option (Rs × En)} (h : Ev m ρ (.va d) ρ1) : Ev (asV m) ρ d ρ1 := fun ρ2 g => by
  obtain ⟨ρ3, e, l⟩ := h ρ2 g
  exact ⟨ρ3, by unfold asV; rw [e], l⟩
theorem v_asO {m : En → Option (Rs × En)} (h : Ev m ρ (.ow o) ρ1) : Ev (asO m) ρ o ρ1 := fun ρ2 g => by
  obtain ⟨ρ3, e, l⟩ := h ρ2 g
  exact ⟨ρ3, by unfold asO; rw [e], l⟩
/-! ### a def -/
def RtV (d : D) (f : Fl) : Prop := f = .rv d ∨ (f = .nx ∧ d = .non)
def FV (d : D) (f : Fl) (_ : En) : Prop := RtV d f
def FO (o : Ow) (f : Fl) (_ : En) : Prop := f = .ro o
def FVI (i : Nat) (t : D × Ow) (f : Fl) (ρ' : En) : Prop := RtV t.1 f ∧ ρ'[i]? = some (.io t.2)
def FOI (i : Nat) (t : Ow × Ow) (f : Fl) (ρ' : En) : Prop := f = .ro t.1 ∧ ρ'[i]? = some (.io t.2)
theorem io_le (g : Le ρ ρ2) (h : ρ[i]? = some (.io o)) : ρ2[i]? = some (.io o) := by
  obtain ⟨s2, e, l⟩ := g.get h
  cases l with
  | rf => exact e
theorem fn_V {b : Ms} {ps : List Sl} (hio : ioIx ps = none) (h : EvI b (ps ++ List.replicate (n - ps.length) .no) (FV d)) : runF n b ps = some (.va d, none) := by
  obtain ⟨f, ρ3, ρ', e, l, p⟩ := h _ (Le.refl _)
  unfold runF
  rw [e]
  rcases p with rfl | ⟨rfl, rfl⟩ <;> (dsimp only; unfold ioOut; rw [hio])
theorem fn_O {b : Ms} {ps : List Sl} (hio : ioIx ps = none) (h : EvI b (ps ++ List.replicate (n - ps.length) .no) (FO o)) : runF n b ps = some (.ow o, none) := by
  obtain ⟨f, ρ3, ρ', e, l, p⟩ := h _ (Le.refl _)
  unfold runF
  rw [e]
  unfold FO at p
  subst p
  dsimp only
  unfold ioOut
  rw [hio]
theorem fn_VI {b : Ms} {ps : List Sl} {t : D × Ow} (hio : ioIx ps = some i) (h : EvI b (ps ++ List.replicate (n - ps.length) .no) (FVI i t)) : runF n b ps = some (.va t.1, some t.2) := by
  obtain ⟨f, ρ3, ρ', e, l, p, q⟩ := h _ (Le.refl _)
  replace q := io_le l q
  obtain ⟨t1, t2⟩ := t
  unfold runF
  rw [e]
  dsimp only at p q ⊢
  rcases p with rfl | ⟨rfl, rfl⟩ <;> (dsimp only; unfold ioOut; rw [hio]; dsimp only; rw [q])
theorem fn_OI {b : Ms} {ps : List Sl} {t : Ow × Ow} (hio : ioIx ps = some i) (h : EvI b (ps ++ List.replicate (n - ps.length) .no) (FOI i t)) : runF n b ps = some (.ow t.1, some t.2) := by
  obtain ⟨f, ρ3, ρ', e, l, p, q⟩ := h _ (Le.refl _)
  replace q := io_le l q
  obtain ⟨t1, t2⟩ := t
  unfold runF
  rw [e]
  dsimp only at p q ⊢
  subst p
  dsimp only
  unfold ioOut
  rw [hio]
  dsimp only
  rw [q]
end
end DL
namespace DL
open PySem PySem.Spec PyProof.Rows L2
/-! ### for the printed proofs -/
theorem Ev.val {α : Type} {m : En → Option (α × En)} {ρ ρ' : En} {x y : α} (h : Ev m ρ x ρ') (e : x = y) : Ev m ρ y ρ' := by subst e; exact h
theorem le_ow {d : D} {o : Ow} (h : d = o.d) : SlLe (.va d) (.ow o) := by subst h; exact .ow o
def smB {β ε : Type} (k : β → Option ε) : Sum β ε → Option ε
  | .inl s => k s
  | .inr x => some x
section
variable {α β γ ε σ : Type} {ρ ρ1 ρ2 ρ' : En} {b : Bool} {m m' : Ms} {P P' : Fl → En → Prop} {t : Mm Bool} {f : Fl}
theorem cdT {A B z : α} (q : b = true) (h : cond b A B = z) : A = z := by subst q; exact h
theorem cdF {A B z : α} (q : b = false) (h : cond b A B = z) : B = z := by subst q; exact h
theorem b2 (b : Bool) : b = true ∨ b = false := by cases b <;> simp
theorem evi_T (h : Ev t ρ b ρ1) (q : b = true) (h1 : EvI m ρ1 P) : EvI (mIfS t m m') ρ P := by subst q; exact evi_ifT h h1
theorem evi_F (h : Ev t ρ b ρ1) (q : b = false) (h1 : EvI m' ρ1 P) : EvI (mIfS t m m') ρ P := by subst q; exact evi_ifF h h1
theorem vv_T (h : Ev t ρ b ρ1) (q : b = true) (h1 : Ev m ρ1 f ρ') : Ev (mIfS t m m') ρ f ρ' := by subst q; exact v_ifT h h1
theorem vv_F (h : Ev t ρ b ρ1) (q : b = false) (h1 : Ev m' ρ1 f ρ') : Ev (mIfS t m m') ρ f ρ' := by subst q; exact v_ifF h h1
theorem evi_mid {e : σ → En} {I : ε → Fl → En → Prop} {r : Sum σ ε} (h : EvI m ρ (SmI e I r)) (h1 : ∀ s, r = .inl s → EvI m' (e s) P) (h2 : ∀ x f ρ', r = .inr x → f ≠ .nx → I x f ρ' → P f ρ') : EvI (mSeq m m') ρ P := by
  cases r with
  | inl s => exact evi_seq (EvI.nx h) (h1 s rfl)
  | inr x =>
    intro ρ2 g
    obtain ⟨f, ρ3, ρ', e1, l, n, p⟩ := h ρ2 g
    refine ⟨f, ρ3, ρ', ?_, l, h2 x f ρ' rfl n p⟩
    unfold mSeq
    rw [e1]
    cases f <;> first | rfl | exact absurd rfl n
theorem evi_end {e : σ → En} {I : ε → Fl → En → Prop} {r : Sum σ ε} (h : EvI m ρ (SmI e I r)) (h1 : ∀ s ρ', r = .inl s → Le (e s) ρ' → P .nx ρ') (h2 : ∀ x f ρ', r = .inr x → f ≠ .nx → I x f ρ' → P f ρ') : EvI m ρ P := by
  intro ρ2 g
  obtain ⟨f, ρ3, ρ', e1, l, q⟩ := h ρ2 g
  cases r with
  | inl s => obtain ⟨rfl, l2⟩ := q; exact ⟨.nx, ρ3, ρ', e1, l, h1 s ρ' rfl l2⟩
  | inr x => exact ⟨f, ρ3, ρ', e1, l, h2 x f ρ' rfl q.1 q.2⟩
theorem smK {k : β → Option ε} {r : Sum β ε} {z : ε} {s : β} (h : smB k r = some z) (q : r = .inl s) : k s = some z := by subst q; exact h
theorem smX {k : β → Option ε} {r : Sum β ε} {z : ε} {x : ε} (h : smB k r = some z) (q : r = .inr x) : x = z := by subst q; cases h; rfl
end
end DL

set_option Elab.async false
set_option linter.all false
set_option maxRecDepth 100000
namespace DL
open PySem PySem.Spec PyProof.Rows L2
section
variable {ρ ρ1 : En} {xs : List D} {z : D}
theorem v_callA {m : Mm (List D)} {g : List D → Option D} (h : Ev m ρ xs ρ1) (e : g xs = some z) : Ev (mCall m g) ρ z ρ1 := v_bd h (v_lf e)
end
end DL

set_option Elab.async false
set_option linter.all false
set_option maxRecDepth 100000
namespace DL
open PySem PySem.Spec PyProof.Rows L2

def mBreak : Ms := fun ρ => some (.bk, ρ)
def mContinue : Ms := fun ρ => some (.ct, ρ)
section
variable {α β : Type} {m m' : Mm D} {ρ : En} {i j : Nat} {x y d : D} {o : Ow} {a b : Opd}
@[simp] theorem ev_bd {m : Mm α} {f : α → Mm β} : bd m f ρ = (m ρ).bind fun p => f p.1 p.2 := by
  unfold bd
  cases m ρ <;> rfl
@[simp] theorem ev_ret {x : α} : ret x ρ = some (x, ρ) := rfl
@[simp] theorem ev_lf {o : Option α} : lf o ρ = o.map fun x => (x, ρ) := by
  unfold lf
  cases o <;> rfl
@[simp] theorem ev_C : mC d ρ = some (d, ρ) := rfl
def slV (i : Nat) (ρ : En) : Option Sl → Option (D × En)
  | some (.va d) => some (d, ρ)
  | some (.ow o) => some (o.d, ρ.set i (.va o.d))
  | _ => none
def slB (ρ : En) : Option Sl → Option (D × En)
  | some (.va d) => some (d, ρ)
  | some (.ow o) => some (o.d, ρ)
  | some (.io o) => some (o.d, ρ)
  | _ => none
@[simp] theorem slV_va : slV i ρ (some (.va d)) = some (d, ρ) := rfl
@[simp] theorem slV_ow : slV i ρ (some (.ow o)) = some (o.d, ρ.set i (.va o.d)) := rfl
@[simp] theorem slB_va : slB ρ (some (.va d)) = some (d, ρ) := rfl
@[simp] theorem slB_ow : slB ρ (some (.ow o)) = some (o.d, ρ) := rfl
@[simp] theorem slB_io : slB ρ (some (.io o)) = some (o.d, ρ) := rfl
@[simp] theorem ev_var : mVar i ρ = slV i ρ ρ[i]? := by
  unfold mVar slV
  rfl
@[simp] theorem ev_bor : mBor i ρ = slB ρ ρ[i]? := by
  unfold mBor slB
  rfl
@[simp] theorem od_l {ds : List D} : (Ow.lst ds).d = .lst ds := rfl
@[simp] theorem od_d {ks : List Key} {ds : List D} : (Ow.dct ks ds).d = .dct ks ds := rfl
@[simp] theorem ev_m1n {f : D → Option α} : m1 (.n i) f ρ = (mBor i ρ).bind fun p => (f p.1).map fun x => (x, p.2) := by simp [m1]
@[simp] theorem ev_m1e {f : D → Option α} : m1 (.e m) f ρ = (m ρ).bind fun p => (f p.1).map fun x => (x, p.2) := by simp [m1]
@[simp] theorem ev_m2nn {f : D → D → Option α} : m2 (.n i) (.n j) f ρ = (mBor i ρ).bind fun p => (mBor j p.2).bind fun q => (f p.1 q.1).map fun x => (x, q.2) := by simp [m2]
@[simp] theorem ev_m2ne {f : D → D → Option α} : m2 (.n i) (.e m') f ρ = (mBor i ρ).bind fun p0 => (m' p0.2).bind fun q => (mBor i q.2).bind fun p => (f p.1 q.1).map fun x => (x, p.2) := by simp [m2]
@[simp] theorem ev_m2en {f : D → D → Option α} : m2 (.e m) (.n j) f ρ = (m ρ).bind fun p => (mBor j p.2).bind fun q => (f p.1 q.1).map fun x => (x, q.2) := by simp [m2]
@[simp] theorem ev_m2ee {f : D → D → Option α} : m2 (.e m) (.e m') f ρ = (m ρ).bind fun p => (m' p.2).bind fun q => (f p.1 q.1).map fun x => (x, q.2) := by simp [m2]
@[simp] theorem ev_Ov {m : Mm Ow} : mOv m ρ = (m ρ).map fun p => (p.1.d, p.2) := by
  unfold mOv
  rw [ev_bd]
  cases m ρ <;> rfl
@[simp] theorem ev_Tb : mTb m ρ = (m ρ).bind fun p => (asB p.1).map fun b => (b, p.2) := by
  unfold mTb
  simp
@[simp] theorem asB_bl {b : Bool} : asB (.bl b) = some b := rfl
@[simp] theorem ev_not {t : Mm Bool} : mNot t ρ = (t ρ).map fun p => (!p.1, p.2) := by
  unfold mNot
  rw [ev_bd]
  cases t ρ <;> rfl
@[simp] theorem ev_and {t u : Mm Bool} : mAnd t u ρ = (t ρ).bind fun p => if p.1 then u p.2 else some (false, p.2) := by
  unfold mAnd
  rw [ev_bd]
  congr
  funext p
  cases p.1 <;> rfl
@[simp] theorem ev_or {t u : Mm Bool} : mOr t u ρ = (t ρ).bind fun p => if p.1 then some (true, p.2) else u p.2 := by
  unfold mOr
  rw [ev_bd]
  congr
  funext p
  cases p.1 <;> rfl
@[simp] theorem ev_if {t : Mm Bool} {m m' : Mm α} : mIf t m m' ρ = (t ρ).bind fun p => if p.1 then m p.2 else m' p.2 := by
  unfold mIf
  rw [ev_bd]
  congr
  funext p
  cases p.1 <;> rfl
@[simp] theorem ev_andV : mAndV m m' ρ = (m ρ).bind fun p => (dTru p.1).bind fun b => if b then m' p.2 else some (p.1, p.2) := by
  unfold mAndV
  simp
  congr
  funext p
  cases dTru p.1 with
  | none => rfl
  | some b => cases b <;> rfl
@[simp] theorem ev_nil : mNil ρ = some ([], ρ) := rfl
@[simp] theorem ev_cons {m' : Mm (List D)} : mCons m m' ρ = (m ρ).bind fun p => (m' p.2).map fun q => (p.1 :: q.1, q.2) := by
  unfold mCons
  simp
  congr
  funext p
  cases m' p.2 <;> rfl
@[simp] theorem ev_tup {m : Mm (List D)} : mTup m ρ = (m ρ).bind fun p => if szOk p.1 then some (.tup p.1, p.2) else none := by
  unfold mTup
  rw [ev_bd]
  congr
  funext p
  cases szOk p.1 <;> rfl
@[simp] theorem ev_lst {m : Mm (List D)} : mLst m ρ = (m ρ).bind fun p => if szOk p.1 then some (.lst p.1, p.2) else none := by
  unfold mLst
  rw [ev_bd]
  congr
  funext p
  cases szOk p.1 <;> rfl
@[simp] theorem ev_dct0 : mDct0 ρ = some (.dct [] [], ρ) := rfl
@[simp] theorem ev_it : mIt m ρ = (m ρ).bind fun p => (itemsOf p.1).map fun x => (x, p.2) := by
  unfold mIt
  simp
@[simp] theorem ev_rng {f : List D → Option (List D)} {m : Mm (List D)} : mRng f m ρ = (m ρ).bind fun p => (f p.1).map fun x => (x, p.2) := by
  unfold mRng
  simp
/-! statements -/
def flS (b : Ms) : Option (Fl × En) → Option (Fl × En)
  | some (.nx, ρ1) => b ρ1
  | r => r
@[simp] theorem flS_nx {b : Ms} : flS b (some (.nx, ρ)) = b ρ := rfl
@[simp] theorem flS_rv {b : Ms} : flS b (some (.rv d, ρ)) = some (.rv d, ρ) := rfl
@[simp] theorem flS_ro {b : Ms} : flS b (some (.ro o, ρ)) = some (.ro o, ρ) := rfl
@[simp] theorem flS_bk {b : Ms} : flS b (some (.bk, ρ)) = some (.bk, ρ) := rfl
@[simp] theorem flS_ct {b : Ms} : flS b (some (.ct, ρ)) = some (.ct, ρ) := rfl
@[simp] theorem flS_none {b : Ms} : flS b none = none := rfl
@[simp] theorem ev_seq {a b : Ms} : mSeq a b ρ = flS b (a ρ) := by
  unfold mSeq flS
  rfl
@[simp] theorem ev_skip : mSkip ρ = some (.nx, ρ) := rfl
@[simp] theorem ev_break : mBreak ρ = some (.bk, ρ) := rfl
@[simp] theorem ev_continue : mContinue ρ = some (.ct, ρ) := rfl
@[simp] theorem ev_expr : mExpr m ρ = (m ρ).map fun p => (.nx, p.2) := by
  unfold mExpr
  cases m ρ <;> rfl
@[simp] theorem ev_mret : mRet m ρ = (m ρ).map fun p => (.rv p.1, p.2) := by
  unfold mRet
  cases m ρ <;> rfl
@[simp] theorem ev_mretO {m : Mm Ow} : mRetO m ρ = (m ρ).map fun p => (.ro p.1, p.2) := by
  unfold mRetO
  cases m ρ <;> rfl
@[simp] theorem ev_ifs {t : Mm Bool} {a b : Ms} : mIfS t a b ρ = (t ρ).bind fun p => if p.1 then a p.2 else b p.2 := by
  unfold mIfS
  cases e : t ρ with
  | none => rfl
  | some p => obtain ⟨b, ρ1⟩ := p; cases b <;> rfl
@[simp] theorem ev_asg {t : Tg} : mAsg m t ρ = (m ρ).bind fun p => (asg t p.1 p.2).map fun ρ2 => (.nx, ρ2) := by
  unfold mAsg
  cases m ρ <;> rfl
@[simp] theorem ev_setO {m : Mm Ow} : mSetO m i ρ = (m ρ).bind fun p => (stO i p.1 p.2).map fun ρ2 => (.nx, ρ2) := by
  unfold mSetO
  cases m ρ <;> rfl
def stS (i : Nat) (s : Sl) (ρ : En) : Option Sl → Option En
  | some (.io _) => none
  | some _ => some (ρ.set i s)
  | none => none
@[simp] theorem stS_va {s : Sl} : stS i s ρ (some (.va d)) = some (ρ.set i s) := rfl
@[simp] theorem stS_ow {s : Sl} : stS i s ρ (some (.ow o)) = some (ρ.set i s) := rfl
@[simp] theorem stS_no {s : Sl} : stS i s ρ (some .no) = some (ρ.set i s) := rfl
@[simp] theorem ev_stO : stO i o ρ = stS i (.ow o) ρ ρ[i]? := by
  unfold stO stS
  rfl
@[simp] theorem ev_stV : stV i d ρ = stS i (.va d) ρ ρ[i]? := by
  unfold stV stS
  rfl
@[simp] theorem ev_asgn : asg (.nm i) d ρ = stV i d ρ := by unfold asg; rfl
@[simp] theorem ev_asgt {ts : List Tg} {ds : List D} : asg (.tup ts) (.tup ds) ρ = asgL ts ds ρ := by conv => lhs; unfold asg
@[simp] theorem ev_asgL0 : asgL [] [] ρ = some ρ := by unfold asgL; rfl
@[simp] theorem ev_asgL {t : Tg} {ts : List Tg} {ds : List D} : asgL (t :: ts) (d :: ds) ρ = (asg t d ρ).bind fun ρ1 => asgL ts ds ρ1 := by conv => lhs; unfold asgL
def gO : Option Sl → Option Ow
  | some (.ow o) => some o
  | some (.io o) => some o
  | _ => none
@[simp] theorem gO_ow : gO (some (.ow o)) = some o := rfl
@[simp] theorem gO_io : gO (some (.io o)) = some o := rfl
@[simp] theorem ev_getO : getO i ρ = gO ρ[i]? := by
  unfold getO gO
  rfl
@[simp] theorem put_ow {o2 : Ow} : (Sl.ow o).put o2 = .ow o2 := rfl
@[simp] theorem put_io {o2 : Ow} : (Sl.io o).put o2 = .io o2 := rfl
@[simp] theorem ev_putO {o : Ow} : putO i o ρ = ρ.set i ((ρ.getD i .no).put o) := rfl
def lsO : Option Ow → Option (List D)
  | some (.lst ds) => some ds
  | _ => none
@[simp] theorem lsO_l {ds : List D} : lsO (some (.lst ds)) = some ds := rfl
@[simp] theorem ev_getL : getL i ρ = lsO (getO i ρ) := by
  unfold getL lsO
  rfl
@[simp] theorem ev_setIx {m mk : Mm D} : mSetIx m i mk ρ = (m ρ).bind fun p => (getO i p.2).bind fun _ => (mk p.2).bind fun k => (getO i k.2).bind fun o => (setO o k.1 p.1).map fun o2 => (.nx, putO i o2 k.2) := by
  unfold mSetIx
  cases e1 : m ρ with
  | none => rfl
  | some p =>
    obtain ⟨d, ρ1⟩ := p
    dsimp only [Option.bind]
    cases e2 : getO i ρ1 with
    | none => rfl
    | some o1 =>
      dsimp only
      cases e3 : mk ρ1 with
      | none => rfl
      | some k =>
        obtain ⟨kd, ρ2⟩ := k
        dsimp only
        cases e4 : getO i ρ2 with
        | none => rfl
        | some o =>
          dsimp only
          cases setO o kd d <;> rfl
@[simp] theorem ev_M1 {f : List D → D → Option (D × List D)} : mM1 i m f ρ = (getL i ρ).bind fun _ => (m ρ).bind fun p => (getL i p.2).bind fun ds => (f ds p.1).map fun r => (r.1, putO i (.lst r.2) p.2) := by
  unfold mM1
  cases e1 : getL i ρ with
  | none => rfl
  | some _ =>
    dsimp only [Option.bind]
    cases e2 : m ρ with
    | none => rfl
    | some p =>
      obtain ⟨x, ρ1⟩ := p
      dsimp only
      cases e3 : getL i ρ1 with
      | none => rfl
      | some ds =>
        dsimp only
        cases f ds x <;> rfl
@[simp] theorem ev_M0 {f : List D → Option (D × List D)} : mM0 i f ρ = (getL i ρ).bind fun ds => (f ds).map fun r => (r.1, putO i (.lst r.2) ρ) := by
  unfold mM0
  cases e1 : getL i ρ with
  | none => rfl
  | some ds =>
    dsimp only [Option.bind]
    cases f ds <;> rfl
@[simp] theorem ev_augIx {mk : Mm D} {f : D → D → Option D} : mAugIx i mk m f ρ = (getO i ρ).bind fun _ => (mk ρ).bind fun k => (getO i k.2).bind fun o1 => (dIx o1.d k.1).bind fun x => (m k.2).bind fun p => (f x p.1).bind fun z => (getO i p.2).bind fun o => (setO o k.1 z).map fun o2 => (.nx, putO i o2 p.2) := by
  unfold mAugIx
  cases e1 : getO i ρ with
  | none => rfl
  | some o0 =>
    dsimp only [Option.bind]
    cases e2 : mk ρ with
    | none => rfl
    | some k =>
      obtain ⟨kd, ρ1⟩ := k
      dsimp only
      cases e3 : getO i ρ1 with
      | none => rfl
      | some o1 =>
        dsimp only
        cases e4 : dIx o1.d kd with
        | none => rfl
        | some x =>
          dsimp only
          cases e5 : m ρ1 with
          | none => rfl
          | some p =>
            obtain ⟨y, ρ2⟩ := p
            dsimp only
            cases e6 : f x y with
            | none => rfl
            | some z =>
              dsimp only
              cases e7 : getO i ρ2 with
              | none => rfl
              | some o =>
                dsimp only
                cases setO o kd z <;> rfl
@[simp] theorem ev_for {it : Mm (List D)} {t : Tg} {b : Ms} : mFor it t b ρ = (it ρ).bind fun p => forF t b p.1 p.2 := by
  unfold mFor
  cases it ρ <;> rfl
@[simp] theorem ev_lc {it : Mm (List D)} {ix : List Nat} {t : Tg} {tt : Mm Bool} {el : Mm D} : mLc it ix t tt el ρ = (it ρ).bind fun p => (lcF ix t tt el p.1 [] (clr ix (dem ix p.2))).map fun q => (.lst q.1, rst ix (dem ix p.2) q.2) := by
  unfold mLc
  cases it ρ with
  | none => rfl
  | some p =>
    obtain ⟨ds, ρ1⟩ := p
    dsimp only [Option.bind]
    cases lcF ix t tt el ds [] (clr ix (dem ix ρ1)) <;> rfl
@[simp] theorem ev_dc {it : Mm (List D)} {ix : List Nat} {t : Tg} {tt : Mm Bool} {mk el : Mm D} : mDc it ix t tt mk el ρ = (it ρ).bind fun p => (dcF ix t tt mk el p.1 [] [] (clr ix (dem ix p.2))).map fun q => (.dct q.1.1 q.1.2, rst ix (dem ix p.2) q.2) := by
  unfold mDc
  cases it ρ with
  | none => rfl
  | some p =>
    obtain ⟨ds, ρ1⟩ := p
    dsimp only [Option.bind]
    cases dcF ix t tt mk el ds [] [] (clr ix (dem ix ρ1)) <;> rfl
def outF (ps : List Sl) : Option (Fl × En) → Option (Rs × Option Ow)
  | some (.nx, ρ) => ioOut ps ρ (.va .non)
  | some (.rv d, ρ) => ioOut ps ρ (.va d)
  | some (.ro o, ρ) => ioOut ps ρ (.ow o)
  | _ => none
@[simp] theorem outF_nx {ps : List Sl} : outF ps (some (.nx, ρ)) = ioOut ps ρ (.va .non) := rfl
@[simp] theorem outF_rv {ps : List Sl} : outF ps (some (.rv d, ρ)) = ioOut ps ρ (.va d) := rfl
@[simp] theorem outF_ro {ps : List Sl} : outF ps (some (.ro o, ρ)) = ioOut ps ρ (.ow o) := rfl
@[simp] theorem ev_runF {n : Nat} {b : Ms} {ps : List Sl} : runF n b ps = outF ps (b (ps ++ List.replicate (n - ps.length) .no)) := by
  unfold runF outF
  all_goals rfl
@[simp] theorem ioIx_nil : ioIx [] = none := rfl
@[simp] theorem ioIx_io {ps : List Sl} : ioIx (.io o :: ps) = some 0 := rfl
@[simp] theorem ioIx_va {ps : List Sl} : ioIx (.va d :: ps) = (ioIx ps).map (· + 1) := rfl
def ioG (r : Rs) : Option Sl → Option (Rs × Option Ow)
  | some (.io o) => some (r, some o)
  | _ => none
@[simp] theorem ioG_io {r : Rs} : ioG r (some (.io o)) = some (r, some o) := rfl
theorem ioOut_none {ps : List Sl} {r : Rs} (h : ioIx ps = none) : ioOut ps ρ r = some (r, none) := by
  unfold ioOut
  rw [h]
theorem ioOut_some {ps : List Sl} {r : Rs} (h : ioIx ps = some i) : ioOut ps ρ r = ioG r ρ[i]? := by
  unfold ioOut ioG
  rw [h]
  all_goals rfl
/-! calls -/
@[simp] theorem ev_ar0 : aR [] ρ = some ([], ρ) := rfl
@[simp] theorem ev_arv {as : List Ar} : aR (.v m :: as) ρ = (m ρ).bind fun p => (aR as p.2).map fun q => (.inl p.1 :: q.1, q.2) := by
  conv => lhs; unfold aR
  simp
  congr
  funext p
  cases aR as p.2 <;> rfl
@[simp] theorem ev_aro {as : List Ar} : aR (.o i :: as) ρ = (getO i ρ).bind fun _ => (aR as ρ).map fun q => (.inr i :: q.1, q.2) := by
  conv => lhs; unfold aR
  cases getO i ρ with
  | none => rfl
  | some o =>
    simp
    cases aR as ρ <;> rfl
@[simp] theorem ev_callR {n : Nat} {fm : Fm} {as : List Ar} : mCallR n fm as ρ = (aR as ρ).bind fun p => callF n fm p.1 p.2 := by
  unfold mCallR
  cases aR as ρ <;> rfl
theorem inl_facts : ∀ ds : List D, ioOne (ds.map .inl) = true ∧ ioS (ds.map .inl) = none ∧ (ds.map Sum.inl).mapM (fill1 ρ) = some (ds.map .va)
  | [] => ⟨rfl, rfl, rfl⟩
  | d :: ds => by
    obtain ⟨i1, i2, i3⟩ := inl_facts ds
    refine ⟨i1, i2, ?_⟩
    rw [List.map_cons, List.mapM_cons, i3]
    rfl
theorem callF_io {fm : Fm} {ds : List D} {n : Nat} (h : ds.length + 1 = n) : callF n fm (.inr i :: ds.map .inl) ρ = (getO i ρ).bind fun o => (fm (.io o :: ds.map .va)).bind fun r => r.2.map fun o' => (r.1, putO i o' ρ) := by
  obtain ⟨i1, i2, i3⟩ := inl_facts (ρ := ρ) ds
  have io : ioOne (.inr i :: ds.map .inl) = true := by
    show (ioS (ds.map .inl)).isNone = true
    rw [i2]
    rfl
  have is : ioS (.inr i :: ds.map .inl) = some i := rfl
  have hf : fill1 ρ (.inr i) = (getO i ρ).map .io := rfl
  unfold callF
  rw [if_pos ⟨io, by rw [List.length_cons, List.length_map]; exact h⟩, List.mapM_cons, i3, hf]
  cases e : getO i ρ with
  | none => rfl
  | some o =>
    show (match fm (.io o :: ds.map .va) with
      | some (r, oo) => (putIo (.inr i :: ds.map .inl) oo ρ).map fun ρ' => (r, ρ')
      | none => none) = (fm (.io o :: ds.map .va)).bind _
    cases fm (.io o :: ds.map .va) with
    | none => rfl
    | some r => obtain ⟨r, oo⟩ := r; cases oo <;> rfl
@[simp] theorem callF_io0 {fm : Fm} : callF 1 fm [.inr i] ρ = (getO i ρ).bind fun o => (fm [.io o]).bind fun r => r.2.map fun o' => (r.1, putO i o' ρ) := callF_io (ds := []) rfl
@[simp] theorem callF_io1 {fm : Fm} : callF 2 fm [.inr i, .inl d] ρ = (getO i ρ).bind fun o => (fm [.io o, .va d]).bind fun r => r.2.map fun o' => (r.1, putO i o' ρ) := callF_io (ds := [d]) rfl
@[simp] theorem callF_io2 {fm : Fm} : callF 3 fm [.inr i, .inl d, .inl x] ρ = (getO i ρ).bind fun o => (fm [.io o, .va d, .va x]).bind fun r => r.2.map fun o' => (r.1, putO i o' ρ) := callF_io (ds := [d, x]) rfl
theorem callF_all {fm : Fm} {n : Nat} {ds : List D} (h : ds.length = n) : callF n fm (ds.map .inl) ρ = (fm (ds.map .va)).map fun r => (r.1, ρ) := by
  obtain ⟨i1, i2, i3⟩ := inl_facts (ρ := ρ) ds
  unfold callF
  rw [if_pos ⟨i1, by rw [List.length_map]; exact h⟩, i3]
  dsimp only
  unfold putIo
  rw [i2]
  cases fm (ds.map .va) with
  | none => rfl
  | some r => obtain ⟨r, oo⟩ := r; cases oo <;> rfl
@[simp] theorem callF_1 {fm : Fm} {a : D} : callF 1 fm [.inl a] ρ = (fm [.va a]).map fun r => (r.1, ρ) := callF_all (ds := [a]) rfl
@[simp] theorem callF_2 {fm : Fm} {a b : D} : callF 2 fm [.inl a, .inl b] ρ = (fm [.va a, .va b]).map fun r => (r.1, ρ) := callF_all (ds := [a, b]) rfl
@[simp] theorem callF_3 {fm : Fm} {a b c : D} : callF 3 fm [.inl a, .inl b, .inl c] ρ = (fm [.va a, .va b, .va c]).map fun r => (r.1, ρ) := callF_all (ds := [a, b, c]) rfl
@[simp] theorem callF_4 {fm : Fm} {a b c d : D} : callF 4 fm [.inl a, .inl b, .inl c, .inl d] ρ = (fm [.va a, .va b, .va c, .va d]).map fun r => (r.1, ρ) := callF_all (ds := [a, b, c, d]) rfl
@[simp] theorem callF_5 {fm : Fm} {a b c d e : D} : callF 5 fm [.inl a, .inl b, .inl c, .inl d, .inl e] ρ = (fm [.va a, .va b, .va c, .va d, .va e]).map fun r => (r.1, ρ) := callF_all (ds := [a, b, c, d, e]) rfl
def rsV : Option (Rs × En) → Option (D × En)
  | some (.va d, ρ1) => some (d, ρ1)
  | _ => none
def rsO : Option (Rs × En) → Option (Ow × En)
  | some (.ow d, ρ1) => some (d, ρ1)
  | _ => none
@[simp] theorem rsV_va : rsV (some (.va d, ρ)) = some (d, ρ) := rfl
@[simp] theorem rsO_ow : rsO (some (.ow o, ρ)) = some (o, ρ) := rfl
@[simp] theorem ev_asV {m : En → Option (Rs × En)} : asV m ρ = rsV (m ρ) := by
  unfold asV rsV
  rfl
@[simp] theorem ev_asO {m : En → Option (Rs × En)} : asO m ρ = rsO (m ρ) := by
  unfold asO rsO
  rfl
end
end DL

set_option Elab.async false
set_option linter.all false
set_option maxRecDepth 100000
namespace DL
open PySem PySem.Spec PyProof.Rows L2
theorem log_small {i : Int} {n : Nat} (h0 : -(2 ^ n : Int) < i) (h : i < 2 ^ n) : i.natAbs.log2 ≤ n := by
  by_cases e : i.natAbs = 0
  · rw [e]; simp
  · have : i.natAbs < 2 ^ n := by
      have e2 : ((2 ^ n : Nat) : Int) = (2 : Int) ^ n := by simp
      omega
    exact Nat.le_of_lt ((Nat.log2_lt e).mpr this)
theorem dMul_ok {i j : Int} (h : i.natAbs.log2 ≤ 100000) (h2 : j.natAbs.log2 ≤ 100000) : dMul (.int i) (.int j) = some (.int (i * j)) := by
  unfold dMul
  exact if_pos (by omega)
@[simp] theorem dMod_ok {i j : Int} (h : 0 < j) : dMod (.int i) (.int j) = some (.int (i % j)) := by
  unfold dMod
  exact if_pos h
theorem dFdiv_ok {i j : Int} (h : 0 < j) (h2 : j.natAbs.log2 ≤ 1000) : dFdiv (.int i) (.int j) = some (.int (i / j)) := by
  unfold dFdiv
  exact if_pos ⟨h, by omega⟩
@[simp] theorem dAdd_ii {i j : Int} : dAdd (.int i) (.int j) = some (.int (i + j)) := rfl
@[simp] theorem dLt_ii {i j : Int} : dLt (.int i) (.int j) = some (.bl (decide (i < j))) := rfl
@[simp] theorem dGt_ii {i j : Int} : dGt (.int i) (.int j) = some (.bl (decide (j < i))) := rfl
@[simp] theorem dGe_ii {i j : Int} : dGe (.int i) (.int j) = some (.bl (decide (j ≤ i))) := rfl
@[simp] theorem dInt_i {i : Int} : dInt (.int i) = some (.int i) := rfl
@[simp] theorem dInt_b {b : Bool} : dInt (.bl b) = some (.int (if b then 1 else 0)) := rfl
@[simp] theorem dAbs_i {i : Int} : dAbs (.int i) = some (.int (if i < 0 then -i else i)) := rfl
@[simp] theorem dNeg_i {i : Int} : dNeg (.int i) = some (.int (-i)) := rfl
@[simp] theorem dEq_ii {i j : Int} : dEq (.int i) (.int j) = some (.bl (i == j)) := rfl
@[simp] theorem dEq_ss {i j : Str} : dEq (.str i) (.str j) = some (.bl (i == j)) := rfl
@[simp] theorem dNe_ss {i j : Str} : dNe (.str i) (.str j) = some (.bl (!(i == j))) := rfl
@[simp] theorem dNe_ii {i j : Int} : dNe (.int i) (.int j) = some (.bl (!(i == j))) := rfl
@[simp] theorem dLen_l {ds : List D} : dLen (.lst ds) = some (.int ds.length) := rfl
@[simp] theorem dLen_t {ds : List D} : dLen (.tup ds) = some (.int ds.length) := rfl
theorem ixN_nat {n i : Nat} (h : i < n) : ixN n (i : Int) = some i := by
  unfold ixN
  rw [if_pos (by omega), if_pos (by omega)]
  simp
theorem dAt_nat {α : Type} {xs : List α} {i : Nat} {v : α} (h : xs[i]? = some v) : dAt xs (i : Int) = some v := atI_nat h
@[simp] theorem dIx_li {ds : List D} {i : Int} : dIx (.lst ds) (.int i) = dAt ds i := rfl
@[simp] theorem dIx_ti {ds : List D} {i : Int} : dIx (.tup ds) (.int i) = dAt ds i := rfl
@[simp] theorem dAt0 {x : D} {ds : List D} : dAt (x :: ds) 0 = some x := dAt_nat (i := 0) rfl
@[simp] theorem dAt1 {x y : D} {ds : List D} : dAt (x :: y :: ds) 1 = some y := dAt_nat (i := 1) rfl
@[simp] theorem dAt2 {x y z : D} {ds : List D} : dAt (x :: y :: z :: ds) 2 = some z := dAt_nat (i := 2) rfl
@[simp] theorem dAt3 {x y z w : D} {ds : List D} : dAt (x :: y :: z :: w :: ds) 3 = some w := dAt_nat (i := 3) rfl
@[simp] theorem setO_l {ds : List D} {i : Int} {d : D} : setO (.lst ds) (.int i) d = (ixN ds.length i).map fun j => .lst (ds.set j d) := rfl
@[simp] theorem ixN40 : ixN (0 + 1 + 1 + 1 + 1) 0 = some 0 := ixN_nat (i := 0) (by decide)
@[simp] theorem ixN41 : ixN (0 + 1 + 1 + 1 + 1) 1 = some 1 := ixN_nat (i := 1) (by decide)
@[simp] theorem ixN42 : ixN (0 + 1 + 1 + 1 + 1) 2 = some 2 := ixN_nat (i := 2) (by decide)
@[simp] theorem ixN43 : ixN (0 + 1 + 1 + 1 + 1) 3 = some 3 := ixN_nat (i := 3) (by decide)
theorem mul_seed {s : Int} (h0 : 0 ≤ s) (h1 : s < 2147483543) : dMul (.int s) (.int 41203) = some (.int (s * 41203)) :=
  dMul_ok (Nat.le_trans (log_small (n := 31) (by omega) (by omega)) (by decide)) (by decide)
theorem mul_cell (x : Int) : dMul (.int (x % 999763)) (.int 9209) = some (.int (x % 999763 * 9209)) :=
  dMul_ok (Nat.le_trans (log_small (n := 31) (by omega) (by omega)) (by decide)) (by decide)
theorem mul_pos' {s : Int} (h0 : 0 ≤ s) (h1 : s ≤ 64) : dMul (.int s) (.int 70003) = some (.int (s * 70003)) :=
  dMul_ok (Nat.le_trans (log_small (n := 31) (by omega) (by omega)) (by decide)) (by decide)
theorem pow18 : dPow (.int 10) (.int 18) = some (.int 1000000000000000000) := by
  show (if (0 : Int) ≤ 18 ∧ (18 : Int) ≤ 1000000 ∧ (10 : Int).natAbs < 18446744073709551616 then some (D.int ((10 : Int) ^ (18 : Int).toNat)) else none) = _
  rw [if_pos ⟨by decide, by decide, by decide⟩]
  rfl
theorem div18 (x : Int) : dFdiv (.int x) (.int 1000000000000000000) = some (.int (x / 1000000000000000000)) := dFdiv_ok (by decide) (by decide +kernel)
theorem div1009 (x : Int) : dFdiv (.int x) (.int 1009) = some (.int (x / 1009)) := dFdiv_ok (by decide) (by decide +kernel)
@[simp] theorem gAddI_ii {i j : Int} : gAddI (.int i) (.int j) = some (.int (i + j)) := rfl
theorem ioIx2 {o : Ow} {d : D} : ioIx [.io o, .va d] = some 0 := rfl

/-! ### loops -/
theorem forF_nx {t : Tg} {b : Ms} {d : D} {ds : List D} {ρ ρ1 ρ2 : En} (e1 : asg t d ρ = some ρ1) (e2 : b ρ1 = some (.nx, ρ2)) : forF t b (d :: ds) ρ = forF t b ds ρ2 := by
  conv => lhs; unfold forF
  rw [e1]
  dsimp only
  rw [e2]
theorem forF_rv {t : Tg} {b : Ms} {d x : D} {ds : List D} {ρ ρ1 ρ2 : En} (e1 : asg t d ρ = some ρ1) (e2 : b ρ1 = some (.rv x, ρ2)) : forF t b (d :: ds) ρ = some (.rv x, ρ2) := by
  conv => lhs; unfold forF
  rw [e1]
  dsimp only
  rw [e2]
theorem whF_nx {t : Mm Bool} {b : Ms} {n : Nat} {ρ ρ1 ρ2 : En} (e1 : t ρ = some (true, ρ1)) (e2 : b ρ1 = some (.nx, ρ2)) : whF t b (n + 1) ρ = whF t b n ρ2 := by
  conv => lhs; unfold whF
  rw [e1]
  dsimp only
  rw [e2]
theorem whF_end {t : Mm Bool} {b : Ms} {n : Nat} {ρ ρ1 : En} (e1 : t ρ = some (false, ρ1)) : whF t b (n + 1) ρ = some (.nx, ρ1) := by
  conv => lhs; unfold whF
  rw [e1]
theorem forF_inv {t : Tg} {b : Ms} (I : List D → En → Prop) (h : ∀ d ds ρ, I (d :: ds) ρ → ∃ ρ1 f ρ2, asg t d ρ = some ρ1 ∧ b ρ1 = some (f, ρ2) ∧ (f = .nx ∨ f = .ct) ∧ I ds ρ2) :
    ∀ {ds : List D} {ρ : En}, I ds ρ → ∃ ρ', forF t b ds ρ = some (.nx, ρ') ∧ I [] ρ'
  | [], ρ, i => ⟨ρ, by unfold forF; rfl, i⟩
  | d :: ds, ρ, i => by
    obtain ⟨ρ1, f, ρ2, e1, e2, hf, i2⟩ := h d ds ρ i
    obtain ⟨ρ', e3, i3⟩ := forF_inv I h i2
    refine ⟨ρ', ?_, i3⟩
    unfold forF
    rw [e1]
    dsimp only
    rw [e2]
    rcases hf with hf | hf <;> (subst hf; exact e3)
theorem lcF_inv {ix : List Nat} {t : Tg} {tt : Mm Bool} {el : Mm D} (I : List D → List D → En → Prop)
    (h : ∀ d ds acc ρ, I (d :: ds) acc ρ → ∃ ρ1 b ρ2, asg t d ρ = some ρ1 ∧ tt ρ1 = some (b, ρ2) ∧ ((b = false ∧ I ds acc (clr ix ρ2)) ∨ (b = true ∧ ∃ y ρ3, el ρ2 = some (y, ρ3) ∧ acc.length < 16777216 ∧ I ds (acc ++ [y]) (clr ix ρ3)))) :
    ∀ {ds acc : List D} {ρ : En}, I ds acc ρ → ∃ acc' ρ', lcF ix t tt el ds acc ρ = some (acc', ρ') ∧ I [] acc' ρ'
  | [], acc, ρ, i => ⟨acc, ρ, by unfold lcF; rfl, i⟩
  | d :: ds, acc, ρ, i => by
    obtain ⟨ρ1, b, ρ2, e1, e2, hf⟩ := h d ds acc ρ i
    rcases hf with ⟨hb, i2⟩ | ⟨hb, y, ρ3, e3, hl, i2⟩
    · obtain ⟨acc', ρ', e4, i3⟩ := lcF_inv I h i2
      refine ⟨acc', ρ', ?_, i3⟩
      unfold lcF
      rw [e1]
      dsimp only
      rw [e2, hb]
      exact e4
    · obtain ⟨acc', ρ', e4, i3⟩ := lcF_inv I h i2
      refine ⟨acc', ρ', ?_, i3⟩
      unfold lcF
      rw [e1]
      dsimp only
      rw [e2, hb]
      dsimp only
      rw [e3]
      dsimp only
      rw [if_pos hl]
      exact e4
/-- a comprehension that leaves its surroundings as they are -/
theorem lcF_pure {ix : List Nat} {t : Tg} {tt : Mm Bool} {el : Mm D} {ρ0 : En} (g : D → Option D) :
    ∀ {ds acc : List D}, (∀ d ∈ ds, ∃ ρ1 b ρ2, asg t d ρ0 = some ρ1 ∧ tt ρ1 = some (b, ρ2) ∧ ((b = false ∧ g d = none ∧ clr ix ρ2 = ρ0) ∨ (b = true ∧ ∃ y ρ3, el ρ2 = some (y, ρ3) ∧ g d = some y ∧ clr ix ρ3 = ρ0))) →
      acc.length + ds.length ≤ 16777216 → lcF ix t tt el ds acc ρ0 = some (acc ++ ds.filterMap g, ρ0)
  | [], acc, h, hl => by
    unfold lcF
    rw [List.filterMap_nil, List.append_nil]
  | d :: ds, acc, h, hl => by
    rw [List.length_cons] at hl
    obtain ⟨ρ1, b, ρ2, e1, e2, hf⟩ := h d List.mem_cons_self
    have ht : ∀ d ∈ ds, _ := fun d hd => h d (List.mem_cons_of_mem _ hd)
    unfold lcF
    rw [e1]
    dsimp only
    rw [e2]
    rcases hf with ⟨hb, hg, hc⟩ | ⟨hb, y, ρ3, e3, hg, hc⟩
    · subst hb
      dsimp only
      rw [hc, lcF_pure g ht (by omega), List.filterMap_cons, hg]
    · subst hb
      dsimp only
      rw [e3]
      dsimp only
      rw [if_pos (by omega), hc, lcF_pure g ht (by rw [List.length_append, List.length_singleton]; omega), List.filterMap_cons, hg, List.append_assoc]
      rfl
theorem dcF_pure {ix : List Nat} {t : Tg} {tt : Mm Bool} {mk el : Mm D} {ρ0 : En} (g : D → Key × D) :
    ∀ {ds : List D} {ks : List Key} {acc : List D}, (∀ d ∈ ds, ∃ ρ1 ρ2 x ρ3 y ρ4, asg t d ρ0 = some ρ1 ∧ tt ρ1 = some (true, ρ2) ∧ mk ρ2 = some (x, ρ3) ∧ keyOf x = some (g d).1 ∧ el ρ3 = some (y, ρ4) ∧ (g d).2 = y ∧ clr ix ρ4 = ρ0) →
      ks.length + ds.length ≤ 16777216 → dcF ix t tt mk el ds ks acc ρ0 = some (mergeD ks acc (ds.map g), ρ0)
  | [], ks, acc, h, hl => by
    unfold dcF mergeD
    rfl
  | d :: ds, ks, acc, h, hl => by
    rw [List.length_cons] at hl
    obtain ⟨ρ1, ρ2, x, ρ3, y, ρ4, e1, e2, e3, e4, e5, e6, e7⟩ := h d List.mem_cons_self
    have ht : ∀ d ∈ ds, _ := fun d hd => h d (List.mem_cons_of_mem _ hd)
    unfold dcF
    rw [e1]
    dsimp only
    rw [e2]
    dsimp only
    rw [e3]
    dsimp only
    rw [e5]
    dsimp only
    rw [e4]
    dsimp only
    have hlen : (putKs ks (g d).1).length ≤ ks.length + 1 := by
      unfold putKs
      split
      · omega
      · rw [List.length_append, List.length_singleton]
        omega
    rw [if_pos (by omega), e7, dcF_pure g ht (by omega), List.map_cons]
    conv => rhs; unfold mergeD
    rw [e6]
theorem forF_idx {t : Tg} {b : Ms} {ds : List D} (I : Nat → En → Prop) (h : ∀ k d ρ, ds[k]? = some d → I k ρ → ∃ ρ1 f ρ2, asg t d ρ = some ρ1 ∧ b ρ1 = some (f, ρ2) ∧ (f = .nx ∨ f = .ct) ∧ I (k + 1) ρ2) {ρ : En} (i : I 0 ρ) :
    ∃ ρ', forF t b ds ρ = some (.nx, ρ') ∧ I ds.length ρ' := by
  obtain ⟨ρ', e, k, h1, h2, h3⟩ := forF_inv (t := t) (b := b) (fun rest ρ => ∃ k, rest = ds.drop k ∧ k ≤ ds.length ∧ I k ρ) (fun d rest ρ ⟨k, h1, h2, h3⟩ => by
    have hk : ds[k]? = some d := by
      have := congrArg (fun l => l[0]?) h1
      simpa using this.symm
    obtain ⟨ρ1, f, ρ2, e1, e2, e3, e4⟩ := h k d ρ hk h3
    have hlt := (List.getElem?_eq_some_iff.mp hk).1
    refine ⟨ρ1, f, ρ2, e1, e2, e3, k + 1, ?_, hlt, e4⟩
    have := congrArg List.tail h1
    simpa using this) (ds := ds) (ρ := ρ) ⟨0, by rw [List.drop_zero], Nat.zero_le _, i⟩
  have hk : k = ds.length := by
    have := congrArg List.length h1
    rw [List.length_drop, List.length_nil] at this
    omega
  subst hk
  exact ⟨ρ', e, h3⟩
theorem rngD_get {lo : Int} {n k : Nat} {d : D} (h : (rngD lo n)[k]? = some d) : k < n ∧ d = .int (lo + (k : Int)) := by
  unfold rngD at h
  rw [List.getElem?_map] at h
  obtain ⟨m, q1, rfl⟩ := Option.map_eq_some_iff.mp h
  obtain ⟨h1, h2⟩ := List.getElem?_eq_some_iff.mp q1
  rw [List.length_range] at h1
  rw [List.getElem_range] at h2
  subst h2
  exact ⟨h1, rfl⟩
theorem rngD_len {lo : Int} {n : Nat} : (rngD lo n).length = n := by
  unfold rngD
  rw [List.length_map, List.length_range]
theorem forF_rng {t : Tg} {b : Ms} {n : Nat} (I : Nat → En → Prop) (h : ∀ k ρ, k < n → I k ρ → ∃ ρ1 f ρ2, asg t (.int (k : Int)) ρ = some ρ1 ∧ b ρ1 = some (f, ρ2) ∧ (f = .nx ∨ f = .ct) ∧ I (k + 1) ρ2) {ρ : En} (i : I 0 ρ) :
    ∃ ρ', forF t b (rngD 0 n) ρ = some (.nx, ρ') ∧ I n ρ' := by
  have q := forF_idx (t := t) (b := b) (ds := rngD 0 n) I (fun k d ρ hk i => by
    obtain ⟨h1, rfl⟩ := rngD_get hk
    rw [Int.zero_add]
    exact h k ρ h1 i) i
  rw [rngD_len] at q
  exact q
theorem lcF_idx {ix : List Nat} {t : Tg} {tt : Mm Bool} {el : Mm D} {ds : List D} (I : Nat → List D → En → Prop)
    (h : ∀ k d acc ρ, ds[k]? = some d → I k acc ρ → ∃ ρ1 b ρ2, asg t d ρ = some ρ1 ∧ tt ρ1 = some (b, ρ2) ∧ ((b = false ∧ I (k + 1) acc (clr ix ρ2)) ∨ (b = true ∧ ∃ y ρ3, el ρ2 = some (y, ρ3) ∧ acc.length < 16777216 ∧ I (k + 1) (acc ++ [y]) (clr ix ρ3)))) {ρ : En} (i : I 0 [] ρ) :
    ∃ acc ρ', lcF ix t tt el ds [] ρ = some (acc, ρ') ∧ I ds.length acc ρ' := by
  obtain ⟨acc, ρ', e, k, h1, h2, h3⟩ := lcF_inv (ix := ix) (t := t) (tt := tt) (el := el) (fun rest acc ρ => ∃ k, rest = ds.drop k ∧ k ≤ ds.length ∧ I k acc ρ) (fun d rest acc ρ ⟨k, h1, h2, h3⟩ => by
    have hk : ds[k]? = some d := by
      have := congrArg (fun l => l[0]?) h1
      simpa using this.symm
    obtain ⟨ρ1, b, ρ2, e1, e2, e3⟩ := h k d acc ρ hk h3
    have hlt := (List.getElem?_eq_some_iff.mp hk).1
    have hr : rest = ds.drop (k + 1) := by
      have := congrArg List.tail h1
      simpa using this
    refine ⟨ρ1, b, ρ2, e1, e2, ?_⟩
    rcases e3 with ⟨e3, e4⟩ | ⟨e3, y, ρ3, e4, e5, e6⟩
    · exact .inl ⟨e3, k + 1, hr, hlt, e4⟩
    · exact .inr ⟨e3, y, ρ3, e4, e5, k + 1, hr, hlt, e6⟩) (ds := ds) (acc := []) (ρ := ρ) ⟨0, by rw [List.drop_zero], Nat.zero_le _, i⟩
  have hk : k = ds.length := by
    have := congrArg List.length h1
    rw [List.length_drop, List.length_nil] at this
    omega
  subst hk
  exact ⟨acc, ρ', e, h3⟩
/-! ### dicts -/
theorem hasK_mem {ks : List Key} {k : Key} : hasK ks k = true ↔ k ∈ ks := by
  unfold hasK
  rw [List.any_eq_true]
  exact ⟨fun ⟨x, h1, h2⟩ => by rw [← of_decide_eq_true h2]; exact h1, fun h => ⟨k, h, decide_eq_true rfl⟩⟩
theorem hasK_not {ks : List Key} {k : Key} (h : k ∉ ks) : hasK ks k = false := by
  cases e : hasK ks k with
  | false => rfl
  | true => exact absurd (hasK_mem.mp e) h
theorem mergeD_nodup : ∀ {qs : List (Key × D)} {ks : List Key} {ds : List D}, (ks ++ qs.map (·.1)).Nodup → mergeD ks ds qs = (ks ++ qs.map (·.1), ds ++ qs.map (·.2))
  | [], ks, ds, h => by
    unfold mergeD
    rw [List.map_nil, List.map_nil, List.append_nil, List.append_nil]
  | q :: qs, ks, ds, h => by
    unfold mergeD
    have hk : q.1 ∉ ks := fun z => by
      rw [List.map_cons] at h
      have h2 := (List.nodup_append.mp h).2.2 q.1 z q.1 List.mem_cons_self
      exact h2 rfl
    unfold putKs putDs
    rw [hasK_not hk]
    simp only [Bool.false_eq_true, if_false]
    rw [mergeD_nodup (by rw [List.append_assoc]; exact h), List.append_assoc, List.append_assoc]
    rfl
/-- a dict by its keys and a function -/
theorem lk_fun {α : Type} {f : α → Key} {g : α → D} : ∀ {xs : List α} {x : α}, x ∈ xs → (∀ y ∈ xs, f y = f x → y = x) → lk (xs.map f) (xs.map g) (f x) = some (g x)
  | [], x, h, _ => by cases h
  | y :: xs, x, h, inj => by
    rw [List.map_cons, List.map_cons]
    show (if f y = f x then some (g y) else lk (xs.map f) (xs.map g) (f x)) = _
    by_cases e : f y = f x
    · rw [if_pos e, inj y List.mem_cons_self e]
    · rw [if_neg e]
      have hx : x ∈ xs := (List.mem_cons.mp h).resolve_left fun z => e (by rw [z])
      exact lk_fun hx fun z hz => inj z (List.mem_cons_of_mem _ hz)
theorem putDs_fun {α : Type} {f : α → Key} {g : α → D} {xs : List α} {k : Key} {d : D} (h : k ∈ xs.map f) : putKs (xs.map f) k = xs.map f ∧ putDs (xs.map f) (xs.map g) k d = xs.map fun x => if f x = k then d else g x := by
  unfold putKs putDs
  rw [hasK_mem.mpr h]
  refine ⟨rfl, ?_⟩
  simp only [if_true]
  rw [List.zip_map', List.map_map]
  rfl
/-! ### membership, order of texts -/
theorem eqF_str (a b : Str) : eqF (.str a) (.str b) = decide (a = b) := by
  show (a == b) = _
  rw [beq_dec]
theorem inF_strs (a : Str) (xs : List Str) : inF (.str a) (xs.map .str) = decide (a ∈ xs) := by
  unfold inF
  rw [List.any_map, Bool.eq_iff_iff, List.any_eq_true, decide_eq_true_eq]
  constructor
  · rintro ⟨y, h1, h2⟩
    have h2 : eqF (.str y) (.str a) = true := h2
    rw [eqF_str, decide_eq_true_eq] at h2
    exact h2 ▸ h1
  · intro h
    refine ⟨a, h, ?_⟩
    show eqF (.str a) (.str a) = true
    rw [eqF_str, decide_eq_true rfl]
theorem flD_strs (xs : List Str) : (xs.map D.str).all flD = true := by
  rw [List.all_map, List.all_eq_true]
  intro _ _
  rfl
theorem dIn_l (a : Str) (xs : List Str) : dIn (.str a) (.lst (xs.map .str)) = some (.bl (decide (a ∈ xs))) := by
  show ((if (flD (.str a) && (xs.map D.str).all flD) = true then some (inF (.str a) (xs.map .str)) else none).map D.bl) = _
  rw [if_pos (by rw [flD_strs]; rfl), inF_strs]
  rfl
theorem dIn_t (a : Str) (xs : List Str) : dIn (.str a) (.tup (xs.map .str)) = some (.bl (decide (a ∈ xs))) := dIn_l a xs
theorem dIn_d (a : Str) (xs : List Str) (ds : List D) : dIn (.str a) (.dct (xs.map .inr) ds) = some (.bl (decide (a ∈ xs))) := by
  show (some (hasK (xs.map .inr) (.inr a))).map D.bl = _
  rw [Option.map_some]
  congr 2
  rw [Bool.eq_iff_iff, hasK_mem, decide_eq_true_eq, List.mem_map]
  exact ⟨fun ⟨y, h1, h2⟩ => by cases h2; exact h1, fun h => ⟨a, h, rfl⟩⟩
theorem dNotIn_l (a : Str) (xs : List Str) : dNotIn (.str a) (.lst (xs.map .str)) = some (.bl (!decide (a ∈ xs))) := by
  show ((if (flD (.str a) && (xs.map D.str).all flD) = true then some (inF (.str a) (xs.map .str)) else none).map fun b => D.bl !b) = _
  rw [if_pos (by rw [flD_strs]; rfl), inF_strs]
  rfl
theorem dNotIn_t (a : Str) (xs : List Str) : dNotIn (.str a) (.tup (xs.map .str)) = some (.bl (!decide (a ∈ xs))) := dNotIn_l a xs
theorem dNotIn_d (a : Str) (xs : List Str) (ds : List D) : dNotIn (.str a) (.dct (xs.map .inr) ds) = some (.bl (!decide (a ∈ xs))) := by
  have h := dIn_d a xs ds
  unfold dIn at h
  unfold dNotIn
  cases e : dInB (.str a) (.dct (xs.map .inr) ds) with
  | none => rw [e] at h; cases h
  | some b => rw [e] at h; cases h; rfl
/-- texts in order -/
def srt (xs : List Str) : List Str := xs.mergeSort fun a b => leD (.str a) (.str b)
theorem srt_map (xs : List Str) : (xs.map D.str).mergeSort leD = (srt xs).map D.str := (PySem.W.sort_maps (r := fun a b => leD (.str a) (.str b)) (s := leD) D.str (fun _ _ _ _ => rfl)).symm
theorem srt_perm (xs : List Str) : (srt xs).Perm xs := List.mergeSort_perm _ _
theorem srt_mem {xs : List Str} {a : Str} : a ∈ srt xs ↔ a ∈ xs := (srt_perm xs).mem_iff
theorem plL_strs : ∀ xs : List Str, plL (xs.map D.str) = true
  | [] => by unfold plL; rfl
  | x :: xs => by
    show ((D.str x).pl && plL (xs.map D.str)) = true
    rw [plL_strs xs]
    rfl
theorem sortOk_strs (xs : List Str) : sortOk (xs.map .str) = true := by
  unfold sortOk
  rw [Bool.and_eq_true, Bool.and_eq_true, Bool.and_eq_true]
  refine ⟨⟨⟨plL_strs xs, ?_⟩, ?_⟩, ?_⟩
  · unfold alikeB
    rw [List.all_map, List.all_eq_true]
    intro a _
    show ((xs.map D.str).all fun e => PySem.W.alike (D.str a).py e.py) = true
    rw [List.all_map, List.all_eq_true]
    intro b _
    show PySem.W.alike (D.str a).py (D.str b).py = true
    unfold D.py
    rfl
  · rw [List.all_map, List.all_eq_true]
    intro a _
    show decide ((D.str a).py.depth ≤ 60) = true
    unfold D.py
    rfl
  · rw [Bool.or_eq_true]
    right
    rw [List.all_map, List.all_eq_true]
    intro a _
    rfl
theorem dSort_strs (xs : List Str) : dSort (.lst (xs.map .str)) = some (.lst ((srt xs).map .str)) := by
  show (if sortOk (xs.map .str) = true then some (Ow.lst ((xs.map D.str).mergeSort leD)) else none) = _
  rw [if_pos (sortOk_strs xs), srt_map]
theorem strsOf_inr : ∀ xs : List Str, strsOf (xs.map .inr) = some xs
  | [] => rfl
  | x :: xs => by
    show (strsOf (xs.map .inr)).map (x :: ·) = _
    rw [strsOf_inr xs]
    rfl
theorem dSort_dct (xs : List Str) (ds : List D) (h : xs.length < 64) : dSort (.dct (xs.map .inr) ds) = some (.lst ((srt xs).map .str)) := by
  show (strsOf (xs.map .inr)).bind (fun xs => if xs.length < 64 then some (Ow.lst ((xs.map D.str).mergeSort leD)) else none) = _
  rw [strsOf_inr, Option.bind_some, if_pos h, srt_map]
/-- tuples of texts -/
def stD (w : List Str) : D := .tup (w.map .str)
theorem alike_strs : ∀ a b : List Str, PySem.W.alikeAll (pyL (a.map D.str)) (pyL (b.map D.str)) = true
  | [], [] => by unfold pyL; rfl
  | [], y :: b => by unfold pyL; rfl
  | x :: a, [] => by unfold pyL; rfl
  | x :: a, y :: b => by
    show PySem.W.alikeAll (pyL (D.str x :: a.map D.str)) (pyL (D.str y :: b.map D.str)) = true
    unfold pyL
    rw [PySem.W.alikeAll, alike_strs a b]
    unfold D.py
    rfl
theorem depth_strs : ∀ a : List Str, PyData.depthAll (pyL (a.map D.str)) ≤ 1
  | [] => by unfold pyL PyData.depthAll; decide
  | x :: a => by
    have := depth_strs a
    show PyData.depthAll (pyL (D.str x :: a.map D.str)) ≤ 1
    unfold pyL PyData.depthAll D.py PyData.depth
    omega
theorem sortOk_ways (ws : List (List Str)) : sortOk (ws.map stD) = true := by
  unfold sortOk
  rw [Bool.and_eq_true, Bool.and_eq_true, Bool.and_eq_true]
  refine ⟨⟨⟨?_, ?_⟩, ?_⟩, ?_⟩
  · induction ws with
    | nil => unfold plL; rfl
    | cons w ws ih =>
      show ((stD w).pl && plL (ws.map stD)) = true
      rw [ih, Bool.and_true]
      unfold stD D.pl
      exact plL_strs w
  · unfold alikeB
    rw [List.all_map, List.all_eq_true]
    intro a _
    show ((ws.map stD).all fun e => PySem.W.alike (stD a).py e.py) = true
    rw [List.all_map, List.all_eq_true]
    intro b _
    show PySem.W.alike (stD a).py (stD b).py = true
    unfold stD D.py
    exact alike_strs a b
  · rw [List.all_map, List.all_eq_true]
    intro a _
    show decide ((stD a).py.depth ≤ 60) = true
    rw [decide_eq_true_eq]
    have := depth_strs a
    unfold stD D.py PyData.depth
    omega
  · rw [Bool.or_eq_true]
    left
    rw [List.all_map, List.all_eq_true]
    intro a _
    rfl
def srtW (ws : List (List Str)) : List (List Str) := ws.mergeSort fun a b => leD (stD a) (stD b)
theorem dSort_ways (ws : List (List Str)) : dSort (.lst (ws.map stD)) = some (.lst ((srtW ws).map stD)) := by
  show (if sortOk (ws.map stD) = true then some (Ow.lst ((ws.map stD).mergeSort leD)) else none) = _
  rw [if_pos (sortOk_ways ws)]
  rw [← PySem.W.sort_maps (r := fun a b => leD (stD a) (stD b)) (s := leD) stD (fun _ _ _ _ => rfl)]
  rfl
theorem py_tup (ds : List D) : (D.tup ds).py = .tuple (pyL ds) := by rw [D.py]
theorem py_str (x : Str) : (D.str x).py = .str x := by rw [D.py]
theorem py_nil : pyL [] = [] := by rw [pyL]
theorem py_cons (d : D) (ds : List D) : pyL (d :: ds) = d.py :: pyL ds := by rw [pyL]
theorem pl_tup (ds : List D) : (D.tup ds).pl = plL ds := by rw [D.pl]
theorem pl_str (x : Str) : (D.str x).pl = true := rfl
theorem pl_nil : plL [] = true := by rw [plL]
theorem pl_cons (d : D) (ds : List D) : plL (d :: ds) = (d.pl && plL ds) := by rw [plL]
/-! ### rows of a text and a tuple of texts -/
abbrev Row := Str × List Str
def rowD (r : Row) : D := .tup [.str r.1, stD r.2]
def ladD (L : List Row) : D := .tup (L.map rowD)
theorem sortOk_rows (L : List Row) : sortOk (L.map rowD) = true := by
  unfold sortOk
  rw [Bool.and_eq_true, Bool.and_eq_true, Bool.and_eq_true]
  refine ⟨⟨⟨?_, ?_⟩, ?_⟩, ?_⟩
  · induction L with
    | nil => unfold plL; rfl
    | cons w ws ih =>
      show ((rowD w).pl && plL (ws.map rowD)) = true
      rw [ih, Bool.and_true]
      rw [rowD, stD, pl_tup, pl_cons, pl_cons, pl_nil, pl_tup, plL_strs, pl_str]
      rfl
  · unfold alikeB
    rw [List.all_map, List.all_eq_true]
    intro a _
    show ((L.map rowD).all fun e => PySem.W.alike (rowD a).py e.py) = true
    rw [List.all_map, List.all_eq_true]
    intro b _
    show PySem.W.alike (rowD a).py (rowD b).py = true
    have h := alike_strs a.2 b.2
    have e3 : (rowD a).py = .tuple [.str a.1, .tuple (pyL (a.2.map D.str))] := by rw [rowD, stD, py_tup, py_cons, py_cons, py_nil, py_tup, py_str]
    have e4 : (rowD b).py = .tuple [.str b.1, .tuple (pyL (b.2.map D.str))] := by rw [rowD, stD, py_tup, py_cons, py_cons, py_nil, py_tup, py_str]
    rw [e3, e4]
    rw [PySem.W.alike, PySem.W.alikeAll, PySem.W.alikeAll, PySem.W.alike, PySem.W.alike, h]
    rfl
  · rw [List.all_map, List.all_eq_true]
    intro a _
    show decide ((rowD a).py.depth ≤ 60) = true
    rw [decide_eq_true_eq]
    have := depth_strs a.2
    rw [rowD, stD, py_tup, py_cons, py_cons, py_nil, py_tup, py_str, PyData.depth, PyData.depthAll, PyData.depthAll, PyData.depthAll, PyData.depth, PyData.depth]
    omega
  · rw [Bool.or_eq_true]
    left
    rw [List.all_map, List.all_eq_true]
    intro a _
    rfl
def srtR (L : List Row) : List Row := L.mergeSort fun a b => leD (rowD a) (rowD b)
theorem srtR_perm (L : List Row) : (srtR L).Perm L := List.mergeSort_perm _ _
theorem dSort_rows (L : List Row) : dSort (.lst (L.map rowD)) = some (.lst ((srtR L).map rowD)) := by
  show (if sortOk (L.map rowD) = true then some (Ow.lst ((L.map rowD).mergeSort leD)) else none) = _
  rw [if_pos (sortOk_rows L)]
  rw [← PySem.W.sort_maps (r := fun a b => leD (rowD a) (rowD b)) (s := leD) rowD (fun _ _ _ _ => rfl)]
  rfl
end DL

set_option Elab.async false
set_option linter.all false
set_option maxRecDepth 100000
namespace DL
open PySem PySem.Spec PyProof.Rows L2
/-! ### ladders: rows of a kind and its bosses -/
def keys (L : List Row) : List Str := L.map (·.1)
theorem keys_len (L : List Row) : (keys L).length = L.length := List.length_map ..
def bo : List Row → Str → Option (List Str)
  | [], _ => none
  | r :: L, k => if r.1 = k then some r.2 else bo L k
theorem bo_mem : ∀ {L : List Row} {k : Str} {bs : List Str}, bo L k = some bs → (k, bs) ∈ L
  | [], _, _, h => by cases h
  | r :: L, k, bs, h => by
    unfold bo at h
    split at h
    · rename_i e
      cases h
      subst e
      exact List.mem_cons_self
    · exact List.mem_cons_of_mem _ (bo_mem h)
theorem bo_key : ∀ {L : List Row} {k : Str}, k ∈ keys L → ∃ bs, bo L k = some bs
  | [], _, h => by cases h
  | r :: L, k, h => by
    unfold bo
    by_cases e : r.1 = k
    · exact ⟨_, if_pos e⟩
    · rw [if_neg e]
      exact bo_key ((List.mem_cons.mp (show k ∈ r.1 :: keys L from h)).resolve_left fun z => e z.symm)
structure LOk (L : List Row) : Prop where
  nd : (keys L).Nodup
  ne : ("" : Str) ∉ keys L
  inn : ∀ r ∈ L, ∀ b ∈ r.2, b = "" ∨ b ∈ keys L
  bnd : ∀ r ∈ L, r.2.Nodup
  len : L.length ≤ 5
theorem LOk.inn' {L : List Row} (h : LOk L) {k b : Str} {bs : List Str} (e : bo L k = some bs) (hb : b ∈ bs) (hn : b ≠ "") : b ∈ keys L := (h.inn _ (bo_mem e) b hb).resolve_left hn
theorem LOk.bnd' {L : List Row} (h : LOk L) {k : Str} {bs : List Str} (e : bo L k = some bs) : bs.Nodup := h.bnd _ (bo_mem e)
theorem LOk.blen {L : List Row} (h : LOk L) {k : Str} {bs : List Str} (e : bo L k = some bs) : bs.length ≤ 6 := by
  have h1 : bs ⊆ "" :: keys L := fun b hb => by
    rcases h.inn _ (bo_mem e) b hb with z | z
    · exact z ▸ List.mem_cons_self
    · exact List.mem_cons_of_mem _ z
  have h2 := (h.bnd' e).length_le_of_subset h1
  have := h.len
  rw [List.length_cons, keys_len] at h2
  omega
def dctKs (L : List Row) : List Key := (keys L).map .inr
def dctDs (L : List Row) : List D := L.map fun r => stD r.2
theorem pairsOf_lad : ∀ L : List Row, pairsOf (L.map rowD) = some (L.map fun r => (.inr r.1, stD r.2))
  | [] => rfl
  | r :: L => by
    show (some (Sum.inr r.1)).bind (fun k => (pairsOf (L.map rowD)).map ((k, stD r.2) :: ·)) = _
    rw [pairsOf_lad L]
    rfl
theorem dDict_lad {L : List Row} (h : (keys L).Nodup) : dDict (ladD L) = some (.dct (dctKs L) (dctDs L)) := by
  show (pairsOf (L.map rowD)).map (fun qs => Ow.dct (mergeD [] [] qs).1 (mergeD [] [] qs).2) = _
  rw [pairsOf_lad, Option.map_some, mergeD_nodup]
  · unfold dctKs dctDs keys
    simp [List.map_map, Function.comp_def]
  · rw [List.nil_append, List.map_map]
    have : ((fun q : Key × D => q.1) ∘ fun r : Row => ((Sum.inr r.1 : Key), stD r.2)) = (Sum.inr ∘ fun r : Row => r.1) := rfl
    rw [this, ← List.map_map]
    exact List.Pairwise.map _ (fun a b h z => h (Sum.inr.inj z)) h
theorem lk_lad : ∀ (L : List Row) (k : Str), lk (dctKs L) (dctDs L) (.inr k) = (bo L k).map stD
  | [], k => rfl
  | r :: L, k => by
    show (if (Sum.inr r.1 : Key) = .inr k then some (stD r.2) else lk (dctKs L) (dctDs L) (.inr k)) = _
    unfold bo
    by_cases e : r.1 = k
    · rw [if_pos (by rw [e]), if_pos e]
      rfl
    · rw [if_neg (fun z => e (Sum.inr.inj z)), if_neg e]
      exact lk_lad L k
theorem dIx_lad (L : List Row) (k : Str) : dIx (.dct (dctKs L) (dctDs L)) (.str k) = (bo L k).map stD := by
  show (some (Sum.inr k)).bind (fun k => lk (dctKs L) (dctDs L) k) = _
  rw [Option.bind_some, lk_lad]
/-! ### the walk upwards: what is found, what waits -/
abbrev FW := List Str × List Str
def vis (s : FW) (b : Str) : FW := if b ≠ "" ∧ b ∉ s.1 then (s.1 ++ [b], s.2 ++ [b]) else s
inductive Dfs (L : List Row) : FW → List Str → Prop where
  | nil (f : List Str) : Dfs L (f, []) f
  | step (f w : List Str) (k : Str) (bs r : List Str) (e : bo L k = some bs) (h : Dfs L (bs.foldl vis (f, w)) r) : Dfs L (f, w ++ [k]) r
/-- found and waiting are kinds -/
structure FOk (L : List Row) (s : FW) : Prop where
  nd : s.1.Nodup
  f : ∀ b ∈ s.1, b ∈ keys L
  w : ∀ b ∈ s.2, b ∈ keys L
theorem FOk.len {L : List Row} {s : FW} (h : FOk L s) : s.1.length ≤ L.length := by
  have := h.nd.length_le_of_subset (l₂ := keys L) h.f
  rwa [keys_len] at this
theorem vis_le (s : FW) (b : Str) : (vis s b).2.length ≤ s.2.length + 1 := by
  unfold vis
  split
  · rw [List.length_append]
    exact Nat.le_refl _
  · omega
theorem vis_ok {L : List Row} {s : FW} {b : Str} (h : FOk L s) (hb : b = "" ∨ b ∈ keys L) : FOk L (vis s b) ∧ (vis s b).2.length + s.1.length = s.2.length + (vis s b).1.length ∧ s.1.length ≤ (vis s b).1.length := by
  unfold vis
  split
  · rename_i q
    have hk := hb.resolve_left q.1
    refine ⟨⟨List.nodup_append.mpr ⟨h.nd, List.pairwise_singleton _ _, fun a ha c hc z => q.2 ?_⟩, fun a ha => ?_, fun a ha => ?_⟩, ?_⟩
    · rw [List.mem_singleton] at hc
      rw [← hc, ← z]
      exact ha
    · rcases List.mem_append.mp ha with ha | ha
      · exact h.f a ha
      · rw [List.mem_singleton] at ha
        exact ha ▸ hk
    · rcases List.mem_append.mp ha with ha | ha
      · exact h.w a ha
      · rw [List.mem_singleton] at ha
        exact ha ▸ hk
    · simp
      omega
  · exact ⟨h, rfl, Nat.le_refl _⟩
theorem visL_ok {L : List Row} : ∀ {bs : List Str} {s : FW}, FOk L s → (∀ b ∈ bs, b = "" ∨ b ∈ keys L) → FOk L (bs.foldl vis s) ∧ (bs.foldl vis s).2.length + s.1.length = s.2.length + (bs.foldl vis s).1.length ∧ s.1.length ≤ (bs.foldl vis s).1.length
  | [], s, h, _ => ⟨h, rfl, Nat.le_refl _⟩
  | b :: bs, s, h, hb => by
    obtain ⟨h1, h2, h5⟩ := vis_ok h (hb b List.mem_cons_self)
    obtain ⟨h3, h4, h6⟩ := visL_ok h1 fun c hc => hb c (List.mem_cons_of_mem _ hc)
    refine ⟨h3, ?_⟩
    rw [List.foldl_cons]
    constructor <;> omega
theorem dfs_ex {L : List Row} (hL : LOk L) : ∀ (n : Nat) (s : FW), FOk L s → 2 * (L.length - s.1.length) + s.2.length ≤ n → ∃ r, Dfs L s r ∧ r.Nodup ∧ ∀ b ∈ r, b ∈ keys L
  | n, (f, []), h, _ => ⟨f, .nil f, h.nd, h.f⟩
  | 0, (f, k :: w), h, hn => by simp at hn
  | n + 1, (f, k :: w), h, hn => by
    obtain ⟨w', k', e⟩ : ∃ w' k', k :: w = w' ++ [k'] := ⟨_, _, (List.dropLast_concat_getLast (List.cons_ne_nil k w)).symm⟩
    rw [e] at h hn ⊢
    obtain ⟨bs, eb⟩ := bo_key (h.w k' (List.mem_append_right _ (List.mem_singleton_self _)))
    have h0 : FOk L (f, w') := ⟨h.nd, h.f, fun b hb => h.w b (List.mem_append_left _ hb)⟩
    obtain ⟨h1, h2, h5⟩ := visL_ok h0 (hL.inn _ (bo_mem eb))
    have h3 := h1.len
    have h4 := h0.len
    obtain ⟨r, d, g1, g2⟩ := dfs_ex hL n (bs.foldl vis (f, w')) h1 (by
      dsimp only at h4 hn h2 h5 h3
      rw [List.length_append, List.length_singleton] at hn
      omega)
    exact ⟨r, .step f w' k' bs r eb d, g1, g2⟩
theorem reach_ex {L : List Row} (hL : LOk L) {k : Str} (hk : k ∈ keys L) : ∃ r, Dfs L ([], [k]) r ∧ r.Nodup ∧ ∀ b ∈ r, b ∈ keys L :=
  dfs_ex hL _ ([], [k]) ⟨.nil, (fun b h => by cases h), fun b h => by rw [List.mem_singleton] at h; exact h ▸ hk⟩ (Nat.le_refl _)
end DL

set_option Elab.async false
set_option linter.all false
set_option maxRecDepth 100000
namespace DL
open PySem PySem.Spec PyProof.Rows L2
/-! ### texts and rows of texts in order -/
def leS (a b : Str) : Bool := leD (.str a) (.str b)
theorem leS_refl (a : Str) : leS a a = true := by
  have := leD_total.total (.str a) (.str a)
  rcases this with h | h <;> exact h
theorem leS_total (a b : Str) : leS a b = true ∨ leS b a = true := leD_total.total _ _
theorem leS_trans {a b c : Str} (h : leS a b = true) (g : leS b c = true) : leS a c = true := leD_total.trans _ _ _ h g
theorem leS_anti {a b : Str} (h : leS a b = true) (g : leS b a = true) : a = b := leD_antisymm_str h g
def leW : List Str → List Str → Bool
  | [], _ => true
  | _ :: _, [] => false
  | a :: u, b :: v => if a = b then leW u v else leS a b
theorem leW_refl : ∀ u, leW u u = true
  | [] => rfl
  | a :: u => by unfold leW; rw [if_pos rfl]; exact leW_refl u
theorem leW_total : ∀ u v, leW u v = true ∨ leW v u = true
  | [], _ => .inl rfl
  | _ :: _, [] => .inr rfl
  | a :: u, b :: v => by
    unfold leW
    by_cases e : a = b
    · rw [if_pos e, if_pos e.symm]; exact leW_total u v
    · rw [if_neg e, if_neg (fun z => e z.symm)]; exact leS_total a b
theorem leW_anti : ∀ {u v}, leW u v = true → leW v u = true → u = v
  | [], [], _, _ => rfl
  | [], _ :: _, _, h => by cases h
  | _ :: _, [], h, _ => by cases h
  | a :: u, b :: v, h, g => by
    unfold leW at h g
    by_cases e : a = b
    · rw [if_pos e] at h
      rw [if_pos e.symm] at g
      rw [e, leW_anti h g]
    · rw [if_neg e] at h
      rw [if_neg fun z => e z.symm] at g
      exact absurd (leS_anti h g) e
theorem leW_trans : ∀ {u v w}, leW u v = true → leW v w = true → leW u w = true
  | [], _, _, _, _ => rfl
  | _ :: _, [], _, h, _ => by cases h
  | _ :: _, _ :: _, [], _, h => by cases h
  | a :: u, b :: v, c :: w, h, g => by
    unfold leW at h g ⊢
    by_cases e : a = b
    · rw [if_pos e] at h
      by_cases e2 : b = c
      · rw [if_pos e2] at g
        rw [if_pos (e.trans e2)]
        exact leW_trans h g
      · rw [if_neg e2] at g
        rw [if_neg (by rw [e]; exact e2), e]
        exact g
    · rw [if_neg e] at h
      by_cases e2 : b = c
      · rw [if_neg (by rw [← e2]; exact e), ← e2]
        exact h
      · rw [if_neg e2] at g
        by_cases e3 : a = c
        · rw [← e3] at g
          exact absurd (leS_anti h g) e
        · rw [if_neg e3]
          exact leS_trans h g
theorem leW_snoc : ∀ {u v : List Str} (b : Str), u.length = v.length → leW u v = true → leW (u ++ [b]) (v ++ [b]) = true
  | [], [], b, _, _ => leW_refl _
  | [], _ :: _, _, h, _ => by cases h
  | _ :: _, [], _, h, _ => by cases h
  | a :: u, c :: v, b, h, g => by
    unfold leW at g
    show leW (a :: (u ++ [b])) (c :: (v ++ [b])) = true
    unfold leW
    by_cases e : a = c
    · rw [if_pos e] at g ⊢
      exact leW_snoc b (by simpa using h) g
    · rw [if_neg e] at g ⊢
      exact g
theorem rowLt_strs : ∀ u v : List Str, PySem.W.rowLt (v.map .str) (u.map .str) = !leW u v
  | [], [] => PyProof.Rows.lex_irrefl _
  | [], b :: v => by
    have e : PySem.W.rowLt (PyData.str b :: v.map .str) [] = false := by
      unfold PySem.W.rowLt
      rw [PySem.W.toks_all_cons]
      simp only [PySem.W.keyToksAll]
      rw [PyProof.Rows.lex_diff (O := itemOrd) (by simp)]
      rfl
    simpa [leW] using e
  | a :: u, [] => by
    have e : PySem.W.rowLt [] (PyData.str a :: u.map .str) = true := by
      unfold PySem.W.rowLt
      rw [PySem.W.toks_all_cons]
      simp only [PySem.W.keyToksAll]
      rw [PyProof.Rows.lex_diff (O := itemOrd) (by simp)]
      rfl
    simpa [leW] using e
  | a :: u, b :: v => by
    have e : PySem.W.rowLt (PyData.str b :: v.map .str) (PyData.str a :: u.map .str) = if b = a then PySem.W.rowLt (v.map .str) (u.map .str) else PySem.W.dataLt (.str b) (.str a) := by
      unfold PySem.W.rowLt
      rw [PySem.W.dataLt_cons (by simp [PySem.W.alike])]
      simp only [PyData.eqv, beq_iff_eq]
    show PySem.W.rowLt (PyData.str b :: v.map .str) (PyData.str a :: u.map .str) = _
    rw [e]
    unfold leW
    by_cases h : a = b
    · rw [if_pos h.symm, if_pos h, rowLt_strs u v]
    · rw [if_neg h, if_neg fun z => h z.symm, dataLt_leD]
      rfl
theorem py_strs (u : List Str) : pyL (u.map D.str) = u.map PyData.str := by
  rw [pyL_map, List.map_map]
  exact List.map_congr_left fun x _ => py_str x
theorem leD_stD (u v : List Str) : leD (stD u) (stD v) = leW u v := by
  show (!PySem.W.dataLt (stD v).py (stD u).py) = _
  unfold stD
  rw [py_tup, py_tup, py_strs, py_strs, PySem.W.dataLt_tuple]
  show (!PySem.W.rowLt (v.map .str) (u.map .str)) = _
  rw [rowLt_strs, Bool.not_not]
/-- shorter, or as long and not behind -/
def leK (u v : List Str) : Prop := u.length < v.length ∨ (u.length = v.length ∧ leW u v = true)
theorem leK.len {u v : List Str} (h : leK u v) : u.length ≤ v.length := by
  rcases h with h | ⟨h, _⟩ <;> omega
theorem leK.anti {u v : List Str} (h : leK u v) (g : leK v u) : u = v := by
  rcases h with h | ⟨h1, h2⟩
  · have := g.len; omega
  · rcases g with g | ⟨_, g⟩
    · omega
    · exact leW_anti h2 g
theorem leK.trans {u v w : List Str} (h : leK u v) (g : leK v w) : leK u w := by
  rcases h with h | ⟨h1, h2⟩
  · have := g.len; exact .inl (by omega)
  · rcases g with g | ⟨g1, g2⟩
    · exact .inl (by omega)
    · exact .inr ⟨by omega, leW_trans h2 g2⟩
theorem leK.refl (u : List Str) : leK u u := .inr ⟨rfl, leW_refl u⟩
theorem leK.total (u v : List Str) : leK u v ∨ leK v u := by
  rcases Nat.lt_trichotomy u.length v.length with h | h | h
  · exact .inl (.inl h)
  · rcases leW_total u v with g | g
    · exact .inl (.inr ⟨h, g⟩)
    · exact .inr (.inr ⟨h.symm, g⟩)
  · exact .inr (.inl h)
/-! ### paths -/
section
variable {nb : Str → List Str} {g : Str → Prop} {k b c : Str} {ws us : List Str} {n : Nat}
def Path (nb : Str → List Str) : Str → List Str → Prop
  | _, [] => True
  | k, b :: ws => b ∈ nb k ∧ Path nb b ws
def endp : Str → List Str → Str
  | k, [] => k
  | _, b :: ws => endp b ws
theorem endp_snoc : ∀ (k : Str) (ws : List Str) (b : Str), endp k (ws ++ [b]) = b
  | k, [], b => rfl
  | k, c :: ws, b => endp_snoc c ws b
theorem path_snoc : ∀ {k : Str} {ws : List Str} {b : Str}, Path nb k (ws ++ [b]) ↔ Path nb k ws ∧ b ∈ nb (endp k ws)
  | k, [], b => by simp [Path, endp]
  | k, c :: ws, b => by
    show c ∈ nb k ∧ Path nb c (ws ++ [b]) ↔ (c ∈ nb k ∧ Path nb c ws) ∧ b ∈ nb (endp c ws)
    rw [path_snoc, and_assoc]
def Way (nb : Str → List Str) (g : Str → Prop) (k : Str) (ws : List Str) : Prop := Path nb k ws ∧ g (endp k ws)
def Best (nb : Str → List Str) (g : Str → Prop) (k : Str) (ws : List Str) : Prop := Way nb g k ws ∧ ∀ us, Way nb g k us → leK ws us
theorem Best.one (h : Best nb g k ws) (q : Best nb g k us) : ws = us := (h.2 _ q.1).anti (q.2 _ h.1)
theorem Way.cons (h : b ∈ nb k) (w : Way nb g b ws) : Way nb g k (b :: ws) := ⟨⟨h, w.1⟩, w.2⟩
theorem Way.of_cons (w : Way nb g k (b :: ws)) : b ∈ nb k ∧ Way nb g b ws := ⟨w.1.1, w.1.2, w.2⟩
/-- the shortest way has n steps -/
def Dst (nb : Str → List Str) (g : Str → Prop) (k : Str) (n : Nat) : Prop := (∃ ws, Way nb g k ws ∧ ws.length = n) ∧ ∀ us, Way nb g k us → n ≤ us.length
theorem Dst.one {m : Nat} (h : Dst nb g k n) (q : Dst nb g k m) : n = m := by
  obtain ⟨⟨w, a, e⟩, h2⟩ := h
  obtain ⟨⟨w', a', e'⟩, h2'⟩ := q
  have := h2 _ a'
  have := h2' _ a
  omega
theorem Dst.zero (h : g k) : Dst nb g k 0 := ⟨⟨[], ⟨trivial, h⟩, rfl⟩, fun _ _ => Nat.zero_le _⟩
theorem Dst.of_zero (h : Dst nb g k 0) : g k := by
  obtain ⟨⟨w, a, e⟩, _⟩ := h
  rw [List.length_eq_zero_iff.mp e] at a
  exact a.2
/-- one step down -/
theorem Dst.down (h : Dst nb g k (n + 1)) : ∃ b ∈ nb k, Dst nb g b n := by
  obtain ⟨⟨w, a, e⟩, h2⟩ := h
  cases w with
  | nil => cases e
  | cons b ws =>
    obtain ⟨a1, a2⟩ := a.of_cons
    refine ⟨b, a1, ⟨ws, a2, by simpa using e⟩, fun us hu => ?_⟩
    have := h2 _ (hu.cons a1)
    rw [List.length_cons] at this
    omega
theorem Dst.up (hb : b ∈ nb k) (h : Dst nb g b n) (hk : ∀ us, Way nb g k us → n < us.length) : Dst nb g k (n + 1) := by
  obtain ⟨⟨w, a, e⟩, h2⟩ := h
  exact ⟨⟨b :: w, a.cons hb, by rw [List.length_cons, e]⟩, fun us hu => hk us hu⟩
theorem best_nil (h : g k) : Best nb g k [] := ⟨⟨trivial, h⟩, fun us _ => by
  cases us with
  | nil => exact .refl _
  | cons b us => exact .inl (by simp)⟩
theorem Best.dst (h : Best nb g k ws) : Dst nb g k ws.length := ⟨⟨ws, h.1, rfl⟩, fun us hu => (h.2 us hu).len⟩
/-- the least next one, then its best way -/
theorem best_cons (hk : Dst nb g k (n + 1)) (hb : b ∈ nb k) (db : Dst nb g b n) (lb : ∀ c ∈ nb k, Dst nb g c n → leS b c = true) (h : Best nb g b ws) : Best nb g k (b :: ws) := by
  have el : ws.length = n := h.dst.one db
  refine ⟨h.1.cons hb, fun us hu => ?_⟩
  have l1 := hk.2 us hu
  cases us with
  | nil => simp at l1
  | cons c us =>
    obtain ⟨a1, a2⟩ := hu.of_cons
    rw [List.length_cons] at l1
    by_cases hl : us.length = n
    · have dc : Dst nb g c n := ⟨⟨us, a2, hl⟩, fun vs hv => by
        have := hk.2 _ (hv.cons a1)
        rw [List.length_cons] at this
        omega⟩
      refine .inr ⟨by rw [List.length_cons, List.length_cons, el, hl], ?_⟩
      unfold leW
      by_cases e : b = c
      · rw [if_pos e]
        rcases h.2 us (by rw [e]; exact a2) with q | q
        · omega
        · exact q.2
      · rw [if_neg e]
        exact lb c a1 dc
    · exact .inl (by rw [List.length_cons, List.length_cons]; omega)
end
end DL

set_option Elab.async false
set_option linter.all false
set_option maxRecDepth 100000
namespace DL
open PySem PySem.Spec PyProof.Rows L2
/-! ### the search layer by layer -/
abbrev WM := List (Str × List Str)
abbrev Ly := List (List Str × Str)
def wk (W : WM) : List Str := W.map (·.1)
def pairD (p : List Str × Str) : D := .tup [stD p.1, .str p.2]
def leP2 (p q : List Str × Str) : Bool := leD (pairD p) (pairD q)
def srtP (l : Ly) : Ly := l.mergeSort leP2
theorem srtP_mem {l : Ly} {p} : p ∈ srtP l ↔ p ∈ l := (List.mergeSort_perm _ _).mem_iff
theorem srtP_pw (l : Ly) : (srtP l).Pairwise fun p q => leP2 p q = true :=
  List.pairwise_mergeSort (le := leP2) (fun a b c => leD_total.trans (pairD a) (pairD b) (pairD c)) (fun a b => by rw [Bool.or_eq_true]; exact leD_total.total (pairD a) (pairD b)) l
theorem leP2_leW {p q : List Str × Str} (h : leP2 p q = true) : leW p.1 q.1 = true := by
  have e : leP2 p q = !(if PyData.eqv (stD q.1).py (stD p.1).py = true then (if PyData.eqv (.str q.2) (.str p.2) = true then false else PySem.W.dataLt (.str q.2) (.str p.2)) else PySem.W.dataLt (stD q.1).py (stD p.1).py) := by
    show (!PySem.W.dataLt (pairD q).py (pairD p).py) = _
    unfold pairD
    rw [py_tup, py_tup, py_cons, py_cons, py_cons, py_cons, py_nil, py_str, py_str, PySem.W.dataLt_pair]
    · unfold stD
      rw [py_tup, py_tup]
      simp only [PySem.W.alike]
      exact alike_strs _ _
    · simp [PySem.W.alike]
  rcases leW_total p.1 q.1 with g | g
  · exact g
  · by_cases z : p.1 = q.1
    · rw [z]; exact leW_refl _
    · have n : leD (stD p.1) (stD q.1) = false := by
        rw [leD_stD]
        cases w : leW p.1 q.1 with
        | false => rfl
        | true => exact absurd (leW_anti w g) z
      have n2 : PySem.W.dataLt (stD q.1).py (stD p.1).py = true := by
        have : (!PySem.W.dataLt (stD q.1).py (stD p.1).py) = false := n
        simpa using this
      have n3 : PyData.eqv (stD q.1).py (stD p.1).py = false := by
        cases w : PyData.eqv (stD q.1).py (stD p.1).py with
        | false => rfl
        | true =>
          have := (PySem.W.toks_eqv (stD q.1).py (stD p.1).py (by
            unfold stD
            rw [py_tup, py_tup]
            simp only [PySem.W.alike]
            exact alike_strs _ _)).1 w
          unfold PySem.W.dataLt at n2
          rw [this, PyProof.Rows.lex_irrefl] at n2
          cases n2
      rw [e, n3, if_neg (by simp), n2] at h
      cases h
def put1 (s : WM × Ly) (p : List Str × Str) : WM × Ly := if p.2 ∈ wk s.1 then s else (s.1 ++ [(p.2, p.1)], s.2 ++ [p])
theorem put1_ok : ∀ {S : Ly} {A : WM} {l : Ly}, S.Pairwise (fun p q => leP2 p q = true) → ∃ N : Ly, S.foldl put1 (A, l) = (A ++ N.map (fun p => (p.2, p.1)), l ++ N) ∧ (N.map (·.2)).Nodup ∧
    (∀ x ∈ N, x ∈ S ∧ x.2 ∉ wk A ∧ ∀ p ∈ S, p.2 = x.2 → leW x.1 p.1 = true) ∧ ∀ p ∈ S, p.2 ∈ wk A ∨ p.2 ∈ N.map (·.2)
  | [], A, l, _ => ⟨[], by simp, by simp, (fun x h => by cases h), fun p h => by cases h⟩
  | p :: S, A, l, h => by
    have hp : ∀ q ∈ S, leP2 p q = true := fun q hq => (List.pairwise_cons.mp h).1 q hq
    have ht := List.Pairwise.of_cons h
    by_cases e : p.2 ∈ wk A
    · obtain ⟨N, h1, h2, h3, h4⟩ := put1_ok (A := A) (l := l) ht
      refine ⟨N, ?_, h2, fun x hx => ?_, fun q hq => ?_⟩
      · show S.foldl put1 (put1 (A, l) p) = _
        unfold put1
        rw [if_pos e]
        exact h1
      · obtain ⟨g1, g2, g3⟩ := h3 x hx
        refine ⟨List.mem_cons_of_mem _ g1, g2, fun q hq eq => ?_⟩
        rcases List.mem_cons.mp hq with z | z
        · rw [z] at eq
          exact absurd (eq ▸ e) g2
        · exact g3 q z eq
      · rcases List.mem_cons.mp hq with z | z
        · rw [z]; exact .inl e
        · exact h4 q z
    · obtain ⟨N, h1, h2, h3, h4⟩ := put1_ok (A := A ++ [(p.2, p.1)]) (l := l ++ [p]) ht
      have ek : wk (A ++ [(p.2, p.1)]) = wk A ++ [p.2] := by unfold wk; simp
      refine ⟨p :: N, ?_, ?_, fun x hx => ?_, fun q hq => ?_⟩
      · show S.foldl put1 (put1 (A, l) p) = _
        unfold put1
        rw [if_neg e]
        show S.foldl put1 (A ++ [(p.2, p.1)], l ++ [p]) = _
        rw [h1]
        simp
      · rw [List.map_cons]
        refine List.nodup_cons.mpr ⟨fun z => ?_, h2⟩
        obtain ⟨x, hx, ex⟩ := List.mem_map.mp z
        obtain ⟨_, g2, _⟩ := h3 x hx
        rw [ek] at g2
        exact g2 (by rw [ex]; simp)
      · rcases List.mem_cons.mp hx with z | z
        · rw [z]
          refine ⟨List.mem_cons_self, e, fun q hq eq => ?_⟩
          rcases List.mem_cons.mp hq with y | y
          · rw [y]; exact leW_refl _
          · exact leP2_leW (hp q y)
        · obtain ⟨g1, g2, g3⟩ := h3 x z
          rw [ek] at g2
          refine ⟨List.mem_cons_of_mem _ g1, fun y => g2 (by simp [y]), fun q hq eq => ?_⟩
          rcases List.mem_cons.mp hq with y | y
          · rw [y] at eq
            exact absurd (by simp [← eq]) g2
          · exact g3 q y eq
      · rcases List.mem_cons.mp hq with z | z
        · rw [z]; exact .inr (by simp)
        · rcases h4 q z with y | y
          · rw [ek] at y
            rcases List.mem_append.mp y with y | y
            · exact .inl y
            · exact .inr (by rw [List.mem_singleton.mp y]; simp)
          · exact .inr (by rw [List.map_cons]; exact List.mem_cons_of_mem _ y)
section
variable {nb : Str → List Str} {k : Str}
def stepF (nb : Str → List Str) (W : WM) (lay : Ly) : Ly := lay.flatMap fun p => ((nb p.2).filter fun b => decide (b ∉ wk W)).map fun b => (p.1 ++ [b], b)
def nxt (nb : Str → List Str) (s : WM × Ly) : WM × Ly := (srtP (stepF nb s.1 s.2)).foldl put1 (s.1, [])
inductive Bfs (nb : Str → List Str) : WM × Ly → WM → Prop where
  | done (W) : Bfs nb (W, []) W
  | step {s r} : s.2 ≠ [] → Bfs nb (nxt nb s) r → Bfs nb s r
structure BI (nb : Str → List Str) (k : Str) (m : Nat) (s : WM × Ly) : Prop where
  least : ∀ q ∈ s.1, Path nb k q.2 ∧ endp k q.2 = q.1 ∧ q.2 ≠ [] ∧ q.2.length ≤ m ∧ ∀ us, Path nb k us → us ≠ [] → endp k us = q.1 → leK q.2 us
  full : ∀ us, Path nb k us → us ≠ [] → us.length ≤ m → endp k us ∈ wk s.1
  nd : (wk s.1).Nodup
  la : ∀ p ∈ s.2, Path nb k p.1 ∧ endp k p.1 = p.2 ∧ p.1.length = m
  lb : ∀ us, Path nb k us → us.length = m → (∃ q ∈ s.1, q.1 = endp k us ∧ q.2.length < m) ∨ ∃ p ∈ s.2, p.2 = endp k us ∧ leW p.1 us = true
theorem bi_start : BI nb k 0 ([], [([], k)]) := by
  refine ⟨(fun q h => by cases h), (fun us _ hn hl => absurd (List.length_eq_zero_iff.mp (Nat.le_zero.mp hl)) hn), List.nodup_nil, fun p hp => ?_, fun us _ hl => .inr ⟨([], k), List.mem_cons_self, ?_⟩⟩
  · rw [List.mem_singleton.mp hp]
    exact ⟨trivial, rfl, rfl⟩
  · rw [List.length_eq_zero_iff.mp hl]
    exact ⟨rfl, rfl⟩
theorem mem_wk {W : WM} {b : Str} : b ∈ wk W ↔ ∃ q ∈ W, q.1 = b := List.mem_map
theorem stepF_mem {W : WM} {lay : Ly} {w : List Str} {b : Str} : (w, b) ∈ stepF nb W lay ↔ ∃ p ∈ lay, b ∈ nb p.2 ∧ b ∉ wk W ∧ w = p.1 ++ [b] := by
  unfold stepF
  rw [List.mem_flatMap]
  constructor
  · rintro ⟨p, hp, h⟩
    obtain ⟨c, hc, e⟩ := List.mem_map.mp h
    obtain ⟨h1, h2⟩ := List.mem_filter.mp hc
    cases e
    exact ⟨p, hp, h1, of_decide_eq_true h2, rfl⟩
  · rintro ⟨p, hp, h1, h2, rfl⟩
    exact ⟨p, hp, List.mem_map.mpr ⟨b, List.mem_filter.mpr ⟨h1, decide_eq_true h2⟩, rfl⟩⟩
theorem snoc_of {us : List Str} (h : us ≠ []) : ∃ vs b, us = vs ++ [b] := ⟨us.dropLast, us.getLast h, (List.dropLast_concat_getLast h).symm⟩
theorem BI.step {m : Nat} {s : WM × Ly} (I : BI nb k m s) : BI nb k (m + 1) (nxt nb s) ∧ ∃ N : Ly, nxt nb s = (s.1 ++ N.map (fun p => (p.2, p.1)), N) ∧ ∀ x ∈ N, ∃ p ∈ s.2, x.2 ∈ nb p.2 := by
  obtain ⟨W, lay⟩ := s
  obtain ⟨N, h1, h2, h3, h4⟩ := put1_ok (A := W) (l := []) (srtP_pw (stepF nb W lay))
  rw [List.nil_append] at h1
  have e : nxt nb (W, lay) = (W ++ N.map (fun p => (p.2, p.1)), N) := h1
  have sound : ∀ x ∈ N, Path nb k x.1 ∧ endp k x.1 = x.2 ∧ x.1.length = m + 1 ∧ x.2 ∉ wk W ∧ ∃ p ∈ lay, x.2 ∈ nb p.2 := fun x hx => by
    obtain ⟨g1, g2, _⟩ := h3 x hx
    obtain ⟨p, hp, a1, a2, a3⟩ := stepF_mem.mp (srtP_mem.mp g1 : (x.1, x.2) ∈ _)
    obtain ⟨b1, b2, b3⟩ := I.la p hp
    rw [a3]
    exact ⟨path_snoc.mpr ⟨b1, by rw [b2]; exact a1⟩, endp_snoc _ _ _, by rw [List.length_append, b3]; rfl, g2, p, hp, a1⟩
  have cand : ∀ us, Path nb k us → us.length = m + 1 → endp k us ∉ wk W → ∃ p ∈ stepF nb W lay, p.2 = endp k us ∧ leW p.1 us = true := fun us hp hl hn => by
    obtain ⟨vs, b, rfl⟩ := snoc_of (us := us) (fun z => by rw [z] at hl; cases hl)
    obtain ⟨p1, p2⟩ := path_snoc.mp hp
    rw [endp_snoc] at hn ⊢
    have lv : vs.length = m := by rw [List.length_append] at hl; simpa using hl
    rcases I.lb vs p1 lv with ⟨q, hq, e1, e2⟩ | ⟨p, hp2, e1, e2⟩
    · obtain ⟨c1, c2, c3, c4, c5⟩ := I.least q hq
      have := I.full (q.2 ++ [b]) (path_snoc.mpr ⟨c1, by rw [c2, e1]; exact p2⟩) (by simp) (by rw [List.length_append]; show q.2.length + 1 ≤ m; omega)
      rw [endp_snoc] at this
      exact absurd this hn
    · obtain ⟨b1, b2, b3⟩ := I.la p hp2
      exact ⟨(p.1 ++ [b], b), stepF_mem.mpr ⟨p, hp2, by rw [e1]; exact p2, hn, rfl⟩, rfl, leW_snoc b (by rw [b3, lv]) e2⟩
  have kN : ∀ {b : Str}, b ∈ wk (W ++ N.map fun p => (p.2, p.1)) ↔ b ∈ wk W ∨ b ∈ N.map (·.2) := fun {b} => by
    unfold wk
    rw [List.map_append, List.map_map, List.mem_append]
    rfl
  have cov : ∀ us, Path nb k us → us.length = m + 1 → endp k us ∈ wk W ∨ ∃ x ∈ N, x.2 = endp k us ∧ leW x.1 us = true := fun us hp hl => by
    by_cases hn : endp k us ∈ wk W
    · exact .inl hn
    · obtain ⟨p, g1, g2, g3⟩ := cand us hp hl hn
      rcases h4 p (srtP_mem.mpr g1) with z | z
      · rw [g2] at z; exact absurd z hn
      · obtain ⟨x, hx, ex⟩ := List.mem_map.mp z
        exact .inr ⟨x, hx, ex.trans g2, leW_trans ((h3 x hx).2.2 p (srtP_mem.mpr g1) ex.symm) g3⟩
  refine ⟨?_, N, e, fun x hx => (sound x hx).2.2.2.2⟩
  rw [e]
  refine ⟨fun q hq => ?_, fun us hp hn hl => ?_, ?_, fun p hp => ?_, fun us hp hl => ?_⟩
  · rcases List.mem_append.mp hq with z | z
    · obtain ⟨c1, c2, c3, c4, c5⟩ := I.least q z
      exact ⟨c1, c2, c3, by omega, c5⟩
    · obtain ⟨x, hx, rfl⟩ := List.mem_map.mp z
      obtain ⟨c1, c2, c3, c4, _⟩ := sound x hx
      refine ⟨c1, c2, (fun z => by have z : x.1 = [] := z; rw [z] at c3; cases c3), Nat.le_of_eq c3, fun us hp hn he => ?_⟩
      show leK x.1 us
      rcases Nat.lt_trichotomy us.length (m + 1) with h | h | h
      · have := I.full us hp hn (by omega)
        rw [he] at this
        exact absurd this c4
      · rcases cov us hp h with z | ⟨y, hy, ey, ly⟩
        · rw [he] at z; exact absurd z c4
        · obtain ⟨g1, _, g3⟩ := h3 x hx
          refine .inr ⟨by rw [c3, h], leW_trans (g3 y (h3 y hy).1 (ey.trans he)) ly⟩
      · exact .inl (by rw [c3]; exact h)
  · show endp k us ∈ wk _
    rw [kN]
    rcases Nat.lt_or_ge us.length (m + 1) with h | h
    · exact .inl (I.full us hp hn (by omega))
    · rcases cov us hp (by omega) with z | ⟨y, hy, ey, _⟩
      · exact .inl z
      · exact .inr (List.mem_map.mpr ⟨y, hy, ey⟩)
  · show (wk (W ++ N.map fun p => (p.2, p.1))).Nodup
    unfold wk
    rw [List.map_append, List.map_map]
    refine List.nodup_append.mpr ⟨I.nd, h2, fun a ha b hb e => ?_⟩
    obtain ⟨x, hx, ex⟩ := List.mem_map.mp hb
    exact (sound x hx).2.2.2.1 (by rw [show x.2 = b from ex, ← e]; exact ha)
  · obtain ⟨c1, c2, c3, _⟩ := sound p hp
    exact ⟨c1, c2, c3⟩
  · rcases cov us hp hl with z | ⟨y, hy, ey, ly⟩
    · obtain ⟨q, hq, eq⟩ := mem_wk.mp z
      obtain ⟨_, _, _, c4, _⟩ := I.least q hq
      exact .inl ⟨q, List.mem_append_left _ hq, eq, by omega⟩
    · exact .inr ⟨y, hy, ey, ly⟩
/-- what is found in the end -/
structure Found (nb : Str → List Str) (k : Str) (W : WM) : Prop where
  least : ∀ q ∈ W, Path nb k q.2 ∧ endp k q.2 = q.1 ∧ q.2 ≠ [] ∧ ∀ us, Path nb k us → us ≠ [] → endp k us = q.1 → leK q.2 us
  all : ∀ us, Path nb k us → us ≠ [] → endp k us ∈ wk W
  nd : (wk W).Nodup
theorem BI.found {m : Nat} {W : WM} (I : BI nb k m (W, [])) : Found nb k W := by
  refine ⟨fun q hq => ?_, fun us => ?_, I.nd⟩
  · obtain ⟨c1, c2, c3, _, c5⟩ := I.least q hq
    exact ⟨c1, c2, c3, c5⟩
  · generalize hn : us.length = n
    induction n using Nat.strongRecOn generalizing us with
    | _ n ih =>
      intro hp h0
      rcases Nat.lt_or_ge m us.length with h | h
      · obtain ⟨vs, b, rfl⟩ := snoc_of h0
        obtain ⟨p1, p2⟩ := path_snoc.mp hp
        rw [List.length_append] at hn h
        have hn : vs.length + 1 = n := hn
        have h : m < vs.length + 1 := h
        rw [endp_snoc]
        by_cases hv : vs = []
        · rcases I.lb [] trivial (by rw [hv] at h; simp at h; exact h.symm) with ⟨q, _, _, z⟩ | ⟨p, z, _⟩
          · rw [hv] at h
            simp at h
            omega
          · cases z
        · obtain ⟨q, hq, eq⟩ := mem_wk.mp (ih vs.length (by omega) vs rfl p1 hv)
          obtain ⟨c1, c2, c3, c4, c5⟩ := I.least q hq
          have lt : q.2.length < m := by
            rcases Nat.lt_or_ge q.2.length m with z | z
            · exact z
            · rcases I.lb q.2 c1 (by omega) with ⟨q', hq', e1, e2⟩ | ⟨p, y, _⟩
              · obtain ⟨d1, d2, d3, _, _⟩ := I.least q' hq'
                have := (c5 q'.2 d1 d3 (by rw [d2, e1, c2])).len
                omega
              · cases y
          have := I.full (q.2 ++ [b]) (path_snoc.mpr ⟨c1, by rw [c2, eq]; exact p2⟩) (by simp) (by rw [List.length_append]; show q.2.length + 1 ≤ m; omega)
          rw [endp_snoc] at this
          exact this
      · exact I.full us hp h0 h
theorem bfs_ok {s : WM × Ly} {W : WM} {m : Nat} (I : BI nb k m s) (h : Bfs nb s W) : Found nb k W := by
  induction h generalizing m with
  | done W => exact I.found
  | step _ _ ih => exact ih I.step.1
/-- it ends, where all stays within names -/
theorem bfs_ex {names : List Str} (hn : ∀ c, ∀ b ∈ nb c, b ∈ names) : ∀ (n : Nat) {s : WM × Ly} {m : Nat}, BI nb k m s → (∀ q ∈ s.1, q.1 ∈ names) → names.length - s.1.length < n → ∃ W, Bfs nb s W
  | 0, s, m, _, _, h => by omega
  | n + 1, s, m, I, hk, h => by
    by_cases e : s.2 = []
    · obtain ⟨W, l⟩ := s
      have e : l = [] := e
      subst e
      exact ⟨W, .done W⟩
    · obtain ⟨I', N, eN, hN⟩ := I.step
      by_cases eN0 : N = []
      · subst eN0
        refine ⟨s.1, .step e ?_⟩
        rw [eN]
        simp only [List.map_nil, List.append_nil]
        exact .done _
      · have hk' : ∀ q ∈ (nxt nb s).1, q.1 ∈ names := fun q hq => by
          rw [eN] at hq
          rcases List.mem_append.mp hq with z | z
          · exact hk q z
          · obtain ⟨x, hx, rfl⟩ := List.mem_map.mp z
            obtain ⟨p, _, hp⟩ := hN x hx
            exact hn _ _ hp
        have l1 : (nxt nb s).1.length = s.1.length + N.length := by rw [eN]; simp
        have l2 : 0 < N.length := List.length_pos_iff.mpr eN0
        have l3 : (nxt nb s).1.length ≤ names.length := by
          have := I'.nd.length_le_of_subset (l₂ := names) fun b hb => by
            obtain ⟨q, hq, rfl⟩ := mem_wk.mp hb
            exact hk' q hq
          unfold wk at this
          rw [List.length_map] at this
          exact this
        obtain ⟨W, hW⟩ := bfs_ex hn n I' hk' (by omega)
        exact ⟨W, .step e hW⟩
end
end DL

set_option Elab.async false
set_option linter.all false
set_option maxRecDepth 100000
set_option maxHeartbeats 0
namespace DL
open PySem PySem.Spec PyProof.Rows L2
def top (i : Nat) : Stmt := PySem.Challenge.pw_whoeversigns_k01_ways.main.body.getD i (.Pass ⟨0, 0, 0, 0⟩)
structure Bt (mg : Str → Option Value) : Prop where
  b_abs : mg "abs" = none
  b_bool : mg "bool" = none
  b_dict : mg "dict" = none
  b_int : mg "int" = none
  b_isinstance : mg "isinstance" = none
  b_len : mg "len" = none
  b_list : mg "list" = none
  b_max : mg "max" = none
  b_min : mg "min" = none
  b_range : mg "range" = none
  b_sorted : mg "sorted" = none
  b_str : mg "str" = none
  b_tuple : mg "tuple" = none
abbrev st_next_layers : Stmt := top 1
abbrev st_short_way : Stmt := top 2
abbrev st_has_way : Stmt := top 3
abbrev st_longest_needed : Stmt := top 5
abbrev st_must_pass : Stmt := top 6
abbrev st__law_fount : Stmt := top 8
abbrev st__law_dip : Stmt := top 9
abbrev st__law_stirred : Stmt := top 10
abbrev st__law_same : Stmt := top 11
abbrev st__law_words : Stmt := top 12
abbrev st__law_ladder : Stmt := top 13
abbrev st__law_way : Stmt := top 14
abbrev st__law_asked : Stmt := top 15
abbrev st__law_looked : Stmt := top 16
abbrev st__law_line : Stmt := top 17
abbrev st_law : Stmt := top 18
/-! ### mirrors -/
noncomputable section
-- next_layers(ladder, kind, bars): slots 0 ladder, 1 kind, 2 bars, 3 table, 4 ways, 5 layer, 6 found, 7 way, 8 one, 9 boss -> V
def l1_next_layers : Ms := (mIfS (mAnd (mTb (m2 (.n 9) (.e (mC (.str ""))) dNe)) (mAnd (mTb (m2 (.n 9) (.n 2) dNotIn)) (mTb (m2 (.n 9) (.n 4) dNotIn))))
  (mExpr (mM1 6 (mTup (mCons (m2 (.n 7) (.e (mTup (mCons (mVar 9) mNil))) dAdd) (mCons (mVar 9) mNil))) fApp))
  mSkip)
def l2_next_layers : Ms := (mFor (mIt (m2 (.n 3) (.n 8) dIx)) (.nm 9)
  l1_next_layers)
def l3_next_layers : Ms := (mIfS (mTb (m2 (.n 8) (.n 4) dNotIn))
  (mSeq (mSetIx (mVar 7) 4 (mVar 8))
  (mExpr (mM1 5 (mTup (mCons (mVar 7) (mCons (mVar 8) mNil))) fApp)))
  mSkip)
def l4_next_layers : Ms := (mSeq (mSetO (mLst mNil) 6)
  (mSeq (mFor (mIt (mVar 5)) (.tup [(.nm 7), (.nm 8)])
  l2_next_layers)
  (mSeq (mSetO (mLst mNil) 5)
  (mFor (mIt (mOv (m1 (.n 6) dSort))) (.tup [(.nm 7), (.nm 8)])
  l3_next_layers))))
def m_next_layers : Ms := (mSeq (mSetO (m1 (.n 0) dDict) 3)
  (mSeq (mSetO mDct0 4)
  (mSeq (mSetO (mLst (mCons (mTup (mCons (mTup mNil) (mCons (mVar 1) mNil))) mNil)) 5)
  (mSeq (mWhile (m1 (.n 5) dTru)
  l4_next_layers)
  (mRet (mVar 4))))))
def f_next_layers : Fm := runF 10 m_next_layers
-- short_way(ladder, kind, aim, bars): slots 0 ladder, 1 kind, 2 aim, 3 bars, 4 table, 5 found, 6 one, 7 way -> V
def m_short_way : Ms := (mSeq (mSetO (m1 (.n 0) dDict) 4)
  (mSeq (mIfS (mTb (m2 (.n 2) (.e (m2 (.n 4) (.n 1) dIx)) dIn))
  (mRet (mTup mNil))
  mSkip)
  (mSeq (mSetO (mLc (mItems (asV (mCallR 3 f_next_layers [.v (mVar 0), .v (mVar 1), .v (mVar 3)]))) [6, 7] (.tup [(.nm 6), (.nm 7)]) (mTb (m2 (.n 2) (.e (m2 (.n 4) (.n 6) dIx)) dIn)) (mVar 7)) 5)
  (mRet (mIf (m1 (.n 5) dTru) (m1 (.n 5) dMinW) (mC .non))))))
def f_short_way : Fm := runF 8 m_short_way
-- has_way(ladder, kind, aim, bars): slots 0 ladder, 1 kind, 2 aim, 3 bars -> V
def m_has_way : Ms := (mRet (m2 (.e (asV (mCallR 4 f_short_way [.v (mVar 0), .v (mVar 1), .v (mVar 2), .v (mVar 3)]))) (.e (mC .non)) dNotN))
def f_has_way : Fm := runF 4 m_has_way
-- longest_needed(ladder): slots 0 ladder, 1 kind, 2 bosses -> V
def m_longest_needed : Ms := (mRet (m1 (.e (mOv (mLc (mIt (mVar 0)) [1, 2] (.tup [(.nm 1), (.nm 2)]) (ret true) (m1 (.e (asV (mCallR 4 f_short_way [.v (mVar 0), .v (mVar 1), .v (mC (.str "")), .v (mTup mNil)]))) dLen)))) dMax1))
def f_longest_needed : Fm := runF 3 m_longest_needed
-- must_pass(ladder, kind): slots 0 ladder, 1 kind, 2 others, 3 one, 4 bosses -> V
def m_must_pass : Ms := (mSeq (mSetO (mLc (mIt (mVar 0)) [3, 4] (.tup [(.nm 3), (.nm 4)]) (mTb (m2 (.n 3) (.n 1) dNe)) (mVar 3)) 2)
  (mRet (m1 (.e (mOv (mLc (mIt (mVar 2)) [3] (.nm 3) (mNot (m1 (.e (asV (mCallR 4 f_has_way [.v (mVar 0), .v (mVar 1), .v (mC (.str "")), .v (mTup (mCons (mVar 3) mNil))]))) dTru)) (mVar 3)))) dTuple)))
def f_must_pass : Fm := runF 5 m_must_pass
-- _law_fount(script): slots 0 script, 1 deep, 2 worth, 3 cell, 4 size -> O
def l1__law_fount : Ms := (mSeq (mAsg (m2 (.e (m1 (.e (m1 (.n 3) dInt)) dAbs)) (.e (m2 (.e (mC (.int 1))) (.e (mC (.int 1500))) dShl)) dMod) (.nm 4))
  (mSeq (mAsg (m2 (.e (m1 (.e (m2 (.e (m2 (.e (m2 (.n 2) (.e (mC (.int 47303))) dMul)) (.e (m2 (.n 4) (.e (mC (.int 999983))) dMod)) dAdd)) (.e (mC (.int 13))) dAdd)) dInt)) (.e (mC (.int 2147483423))) dMod) (.nm 2))
  (mIfS (mTb (m2 (.n 4) (.e (m2 (.e (mC (.int 10))) (.e (mC (.int 18))) dPow)) dGe))
  (mAsg (m2 (.n 1) (.n 4) dAdd) (.nm 1))
  mSkip)))
def m__law_fount : Ms := (mSeq (mAsg (mC (.int 0)) (.nm 1))
  (mSeq (mAsg (mC (.int 40169)) (.nm 2))
  (mSeq (mFor (mIt (mOv (mSl (.n 0) mPn (mPs (mC (.int 63))) dSlL))) (.nm 3)
  l1__law_fount)
  (mRetO (mLst (mCons (mVar 1) (mCons (mVar 2) (mCons (m2 (.e (m1 (.e (m2 (.n 2) (.e (mC (.int 11))) dFdiv)) dInt)) (.e (mC (.int 2003))) dMod) mNil))))))))
def f__law_fount : Fm := runF 5 m__law_fount
-- _law_dip(fount, many, spot): slots 0 fount, 1 many, 2 spot, 3 told, 4 habit io fount -> V
def m__law_dip : Ms := (mSeq (mIfS (mTb (m2 (.e (m2 (.n 0) (.e (mC (.int 0))) dIx)) (.e (mC (.int 0))) dGt))
  (mSeq (mAsg (m2 (.e (m1 (.e (m2 (.n 0) (.e (mC (.int 0))) dIx)) dInt)) (.n 1) dMod) (.nm 3))
  (mSeq (mSetIx (m2 (.e (m2 (.n 0) (.e (mC (.int 0))) dIx)) (.n 1) dFdiv) 0 (mC (.int 0)))
  (mRet (mVar 3))))
  mSkip)
  (mSeq (mSetIx (m2 (.e (m1 (.e (m2 (.e (m2 (.e (m2 (.n 0) (.e (mC (.int 1))) dIx)) (.e (mC (.int 42611))) dMul)) (.e (mC (.int 3079))) dAdd)) dInt)) (.e (mC (.int 2147483423))) dMod) 0 (mC (.int 1)))
  (mSeq (mAsg (mIf (m1 (.n 2) dTru) (m2 (.e (m1 (.e (m2 (.e (m2 (.e (m2 (.n 0) (.e (mC (.int 2))) dIx)) (.e (m2 (.e (m2 (.e (mC (.int 2))) (.n 2) dMul)) (.e (mC (.int 1))) dAdd)) dFdiv)) (.n 2) dAdd)) dInt)) (.e (mC (.int 11))) dMod) (mC (.int 10))) (.nm 4))
  (mSeq (mIfS (mTb (m2 (.n 4) (.e (mC (.int 0))) dEq))
  (mRet (mC (.int 0)))
  mSkip)
  (mSeq (mIfS (mTb (m2 (.n 4) (.e (mC (.int 1))) dEq))
  (mRet (m2 (.n 1) (.e (mC (.int 1))) dSub))
  mSkip)
  (mSeq (mIfS (mTb (m2 (.n 4) (.e (mC (.int 2))) dEq))
  (mRet (m2 (.e (m1 (.e (m2 (.n 0) (.e (mC (.int 2))) dIx)) dInt)) (.n 1) dMod))
  mSkip)
  (mRet (m2 (.e (m1 (.e (m2 (.e (m2 (.n 0) (.e (mC (.int 1))) dIx)) (.e (mC (.int 4079))) dFdiv)) dInt)) (.n 1) dMod))))))))
def f__law_dip : Fm := runF 5 m__law_dip
-- _law_stirred(fount, things): slots 0 fount, 1 things, 2 left, 3 out io fount -> V
def l1__law_stirred : Ms := (mExpr (mM1 3 (mM1 2 (asV (mCallR 3 f__law_dip [.o 0, .v (m1 (.n 2) dLen), cAr (.int 0)])) fPopAt) fApp))
def m__law_stirred : Ms := (mSeq (mSetO (m1 (.n 1) dList) 2)
  (mSeq (mSetO (mLst mNil) 3)
  (mSeq (mWhile (m1 (.n 2) dTru)
  l1__law_stirred)
  (mRet (mVar 3)))))
def f__law_stirred : Fm := runF 4 m__law_stirred
-- _law_same(told, due): slots 0 told, 1 due, 2 left, 3 one, 4 two, 5 at -> V
def l1__law_same : Ms := (mSeq (mAsg (mM0 2 fPop) (.tup [(.nm 3), (.nm 4)]))
  (mIfS (m1 (.e (m1 (.n 4) (dIsiL ["tuple", "list"]))) dTru)
  (mSeq (mIfS (mOr (mNot (m1 (.e (m1 (.n 3) (dIsiL ["tuple", "list"]))) dTru)) (mOr (mTb (m2 (.e (m1 (.n 3) (dIsi "list"))) (.e (m1 (.n 4) (dIsi "list"))) dNe)) (mTb (m2 (.e (m1 (.n 3) dLen)) (.e (m1 (.n 4) dLen)) dNe))))
  (mRet (mC (.bl false)))
  mSkip)
  (mSetO (m2 (.n 2) (.e (mOv (mLc (mRng rng1 (mCons (m1 (.n 4) dLen) mNil)) [5] (.nm 5) (ret true) (mTup (mCons (m2 (.n 3) (.n 5) dIx) (mCons (m2 (.n 4) (.n 5) dIx) mNil)))))) dCat) 2))
  (mIfS (mOr (mTb (m2 (.n 4) (.e (mC .non)) dIsN)) (m1 (.e (m1 (.n 4) (dIsi "bool"))) dTru))
  (mIfS (mOr (mTb (m2 (.e (m2 (.n 3) (.e (mC .non)) dIsN)) (.e (m2 (.n 4) (.e (mC .non)) dIsN)) dNe)) (mOr (mTb (m2 (.e (m1 (.n 3) (dIsi "bool"))) (.e (m1 (.n 4) (dIsi "bool"))) dNe)) (mTb (m2 (.n 3) (.n 4) dNe))))
  (mRet (mC (.bl false)))
  mSkip)
  (mIfS (m1 (.e (m1 (.n 4) (dIsi "int"))) dTru)
  (mIfS (mOr (mNot (m1 (.e (m1 (.n 3) (dIsi "int"))) dTru)) (mOr (m1 (.e (m1 (.n 3) (dIsi "bool"))) dTru) (mTb (m2 (.n 3) (.n 4) dNe))))
  (mRet (mC (.bl false)))
  mSkip)
  (mIfS (mOr (mNot (m1 (.e (m1 (.n 4) (dIsi "str"))) dTru)) (mOr (mNot (m1 (.e (m1 (.n 3) (dIsi "str"))) dTru)) (mTb (m2 (.n 3) (.n 4) dNe))))
  (mRet (mC (.bl false)))
  mSkip)))))
def m__law_same : Ms := (mSeq (mSetO (mLst (mCons (mTup (mCons (mVar 0) (mCons (mVar 1) mNil))) mNil)) 2)
  (mSeq (mWhile (m1 (.n 2) dTru)
  l1__law_same)
  (mRet (mC (.bl true)))))
def f__law_same : Fm := runF 6 m__law_same
-- _law_words(fount, many): slots 0 fount, 1 many, 2 found, 3 at, 4 word io fount -> V
def l1__law_words : Ms := (mSeq (mAsg (m2 (.e (m2 (.e (mC (.str "hcpdwgsmrkbnfltv"))) (.e (asV (mCallR 3 f__law_dip [.o 0, .v (mC (.int 16)), cAr (.int 0)]))) dIx)) (.e (m2 (.e (mOv (mLst (mCons (mC (.str "")) (mCons (mC (.str "7")) (mCons (mC (.str "oss")) (mCons (mC (.str "a0")) (mCons (mC (.str "ead")) (mCons (mC (.str "")) (mCons (mC (.str "zz99zz9")) (mCons (mC (.str "taff")) mNil))))))))))) (.e (asV (mCallR 3 f__law_dip [.o 0, .v (mC (.int 8)), .v (mC (.int 7))]))) dIx)) dAdd) (.nm 4))
  (mExpr (mM1 2 (mIf (mTb (m2 (.n 4) (.n 2) dNotIn)) (mVar 4) (m2 (.e (mC (.str "j"))) (.e (m1 (.e (m2 (.e (mC (.int 100))) (.n 3) dAdd)) dStr)) dAdd)) fApp)))
def m__law_words : Ms := (mSeq (mSetO (mLst mNil) 2)
  (mSeq (mFor (mRng rng1 (mCons (mVar 1) mNil)) (.nm 3)
  l1__law_words)
  (mRet (mVar 2))))
def f__law_words : Fm := runF 5 m__law_words
-- _law_ladder(fount, most): slots 0 fount, 1 most, 2 names, 3 rows, 4 at, 5 bosses, 6 lap, 7 boss io fount -> V
def l1__law_ladder : Ms := (mSeq (mAsg (m2 (.e (mOv (m2 (.n 2) (.e (mOv (mLst (mCons (mC (.str "")) mNil)))) dCat))) (.e (asV (mCallR 3 f__law_dip [.o 0, .v (m2 (.e (m1 (.n 2) dLen)) (.e (mC (.int 1))) dAdd), cAr (.int 0)]))) dIx) (.nm 7))
  (mIfS (mTb (m2 (.n 7) (.n 5) dNotIn))
  (mExpr (mM1 5 (mVar 7) fApp))
  mSkip))
def l2__law_ladder : Ms := (mSeq (mSetO (mIf (mOr (mTb (m2 (.n 4) (.e (mC (.int 0))) dEq)) (mTb (m2 (.e (asV (mCallR 3 f__law_dip [.o 0, .v (mC (.int 4)), cAr (.int 0)]))) (.e (mC (.int 0))) dEq))) (mLst (mCons (mC (.str "")) mNil)) (mLst (mCons (m2 (.n 2) (.e (asV (mCallR 3 f__law_dip [.o 0, .v (mVar 4), cAr (.int 0)]))) dIx) mNil))) 5)
  (mSeq (mFor (mRng rng1 (mCons (asV (mCallR 3 f__law_dip [.o 0, .v (mC (.int 3)), .v (mC (.int 4))])) mNil)) (.nm 6)
  l1__law_ladder)
  (mExpr (mM1 3 (mTup (mCons (m2 (.n 2) (.n 4) dIx) (mCons (m1 (.e (mOv (m1 (.n 5) dSort))) dTuple) mNil))) fApp))))
def m__law_ladder : Ms := (mSeq (mAsg (asV (mCallR 2 f__law_stirred [.o 0, .v (asV (mCallR 2 f__law_words [.o 0, .v (m2 (.e (mC (.int 1))) (.e (asV (mCallR 3 f__law_dip [.o 0, .v (mVar 1), .v (mC (.int 3))]))) dAdd)]))])) (.nm 2))
  (mSeq (mSetO (mLst mNil) 3)
  (mSeq (mFor (mRng rng1 (mCons (m1 (.n 2) dLen) mNil)) (.nm 4)
  l2__law_ladder)
  (mRet (m1 (.e (mOv (m1 (.n 3) dSort))) dTuple)))))
def f__law_ladder : Fm := runF 8 m__law_ladder
-- _law_way(ladder, kind, aim, bars): slots 0 ladder, 1 kind, 2 aim, 3 bars, 4 table, 5 far, 6 changed, 7 step, 8 name, 9 way, 10 here, 11 boss -> V
def l1__law_way : Ms := (mIfS (mAnd (mTb (m2 (.n 8) (.n 5) dNotIn)) (mTb (m2 (.e (m1 (.e (mOv (mLc (mIt (m2 (.n 4) (.n 8) dIx)) [11] (.nm 11) (mAnd (mTb (m2 (.n 11) (.n 5) dIn)) (mAnd (mTb (m2 (.e (m2 (.n 5) (.n 11) dIx)) (.e (m2 (.n 7) (.e (mC (.int 1))) dSub)) dEq)) (mTb (m2 (.n 11) (.n 3) dNotIn)))) (mVar 11)))) dLen)) (.e (mC (.int 0))) dGt)))
  (mSeq (mSetIx (mVar 7) 5 (mVar 8))
  (mAsg (mC (.bl true)) (.nm 6)))
  mSkip)
def l2__law_way : Ms := (mSeq (mAsg (mC (.bl false)) (.nm 6))
  (mSeq (mAug 7 (mC (.int 1)) gAddI)
  (mFor (mIt (mVar 4)) (.nm 8)
  l1__law_way)))
def l3__law_way : Ms := (mSeq (mAsg (m1 (.e (mOv (mLc (mIt (m2 (.n 4) (.n 10) dIx)) [11] (.nm 11) (mAnd (mTb (m2 (.n 11) (.n 5) dIn)) (mAnd (mTb (m2 (.n 11) (.n 3) dNotIn)) (mTb (m2 (.e (m2 (.n 5) (.n 11) dIx)) (.e (m2 (.e (m2 (.n 5) (.n 10) dIx)) (.e (mC (.int 1))) dSub)) dEq)))) (mVar 11)))) dMin1) (.nm 10))
  (mExpr (mM1 9 (mVar 10) fApp)))
def m__law_way : Ms := (mSeq (mSetO (m1 (.n 0) dDict) 4)
  (mSeq (mSetO (m1 (.e (mOv (mLc (mIt (mVar 4)) [8] (.nm 8) (mTb (m2 (.n 2) (.e (m2 (.n 4) (.n 8) dIx)) dIn)) (mTup (mCons (mVar 8) (mCons (mC (.int 0)) mNil)))))) dDict) 5)
  (mSeq (mAsg (mC (.bl true)) (.nm 6))
  (mSeq (mAsg (mC (.int 0)) (.nm 7))
  (mSeq (mWhile (m1 (.n 6) dTru)
  l2__law_way)
  (mSeq (mIfS (mTb (m2 (.n 1) (.n 5) dNotIn))
  (mRet (mC .non))
  mSkip)
  (mSeq (mSetO (mLst mNil) 9)
  (mSeq (mAsg (mVar 1) (.nm 10))
  (mSeq (mWhile (mTb (m2 (.e (m2 (.n 5) (.n 10) dIx)) (.e (mC (.int 0))) dGt))
  l3__law_way)
  (mRet (m1 (.n 9) dTuple)))))))))))
def f__law_way : Fm := runF 12 m__law_way
-- _law_asked(ladder, kind, aim, bars): slots 0 ladder, 1 kind, 2 aim, 3 bars, 4 due, 5 told -> V
def m__law_asked : Ms := (mSeq (mAsg (asV (mCallR 4 f__law_way [.v (mVar 0), .v (mVar 1), .v (mVar 2), .v (mVar 3)])) (.nm 4))
  (mSeq (mAsg (asV (mCallR 4 f_has_way [.v (mVar 0), .v (mVar 1), .v (mVar 2), .v (mVar 3)])) (.nm 5))
  (mRet (mAndV (m1 (.n 5) (dIsi "bool")) (mAndV (m2 (.n 5) (.e (m2 (.n 4) (.e (mC .non)) dNotN)) dEq) (asV (mCallR 2 f__law_same [.v (asV (mCallR 4 f_short_way [.v (mVar 0), .v (mVar 1), .v (mVar 2), .v (mVar 3)])), .v (mVar 4)])))))))
def f__law_asked : Fm := runF 6 m__law_asked
-- _law_looked(ladder): slots 0 ladder, 1 names, 2 name, 3 due, 4 bosses, 5 other -> V
def l1__law_looked : Ms := (mSeq (mSetO (mLc (mIt (mVar 1)) [5] (.nm 5) (mAnd (mTb (m2 (.n 5) (.n 2) dNe)) (mTb (m2 (.e (asV (mCallR 4 f__law_way [.v (mVar 0), .v (mVar 2), .v (mC (.str "")), .v (mTup (mCons (mVar 5) mNil))]))) (.e (mC .non)) dIsN))) (mVar 5)) 3)
  (mIfS (mNot (m1 (.e (asV (mCallR 2 f__law_same [.v (asV (mCallK 2 f_must_pass [] [.v (mVar 0), .v (mVar 2)] [0, 1])), .v (m1 (.n 3) dTuple)]))) dTru))
  (mRet (mC (.bl false)))
  mSkip))
def m__law_looked : Ms := (mSeq (mSetO (mLc (mIt (mVar 0)) [2, 4] (.tup [(.nm 2), (.nm 4)]) (ret true) (mVar 2)) 1)
  (mSeq (mIfS (mNot (m1 (.e (asV (mCallR 2 f__law_same [.v (asV (mCallR 1 f_longest_needed [.v (mVar 0)])), .v (m1 (.e (mOv (mLc (mIt (mVar 1)) [2] (.nm 2) (ret true) (m1 (.e (asV (mCallR 4 f__law_way [.v (mVar 0), .v (mVar 2), .v (mC (.str "")), .v (mTup mNil)]))) dLen)))) dMax1)]))) dTru))
  (mRet (mC (.bl false)))
  mSkip)
  (mSeq (mFor (mIt (mVar 1)) (.nm 2)
  l1__law_looked)
  (mRet (mC (.bl true))))))
def f__law_looked : Fm := runF 6 m__law_looked
-- _law_line(fount): slots 0 fount, 1 names, 2 rows, 3 ladder, 4 bar, 5 a, 6 b, 7 c, 8 d, 9 less, 10 more, 11 two, 12 at io fount -> V
def m__law_line : Ms := (mSeq (mAsg (asV (mCallR 2 f__law_words [.o 0, .v (m2 (.e (mC (.int 2))) (.e (asV (mCallR 3 f__law_dip [.o 0, .v (mC (.int 4)), cAr (.int 0)]))) dAdd)])) (.nm 1))
  (mSeq (mSetO (mLc (mRng rng1 (mCons (m1 (.n 1) dLen) mNil)) [12] (.nm 12) (ret true) (mTup (mCons (m2 (.n 1) (.n 12) dIx) (mCons (mIf (mTb (m2 (.e (m2 (.n 12) (.e (mC (.int 1))) dAdd)) (.e (m1 (.n 1) dLen)) dLt)) (mTup (mCons (m2 (.n 1) (.e (m2 (.n 12) (.e (mC (.int 1))) dAdd)) dIx) mNil)) (mTup (mCons (mC (.str "")) mNil))) mNil)))) 2)
  (mSeq (mAsg (m1 (.e (mOv (m1 (.n 2) dSort))) dTuple) (.nm 3))
  (mSeq (mIfS (mOr (mNot (m1 (.e (asV (mCallR 2 f__law_same [.v (asV (mCallK 4 f_short_way [] [.v (mVar 3), .v (m2 (.n 1) (.e (mC (.int 0))) dIx), .v (mC (.str "")), .v (mTup mNil)] [0, 1, 2, 3])), .v (m1 (.e (mOv (mSl (.n 1) (mPs (mC (.int 1))) mPn dSlL))) dTuple)]))) dTru)) (mNot (m1 (.e (asV (mCallR 2 f__law_same [.v (asV (mCallK 1 f_longest_needed [] [.v (mVar 3)] [0])), .v (m2 (.e (m1 (.n 1) dLen)) (.e (mC (.int 1))) dSub)]))) dTru)))
  (mRet (mC (.bl false)))
  mSkip)
  (mSeq (mAsg (m2 (.n 1) (.e (m2 (.e (mC (.int 1))) (.e (asV (mCallR 3 f__law_dip [.o 0, .v (m2 (.e (m1 (.n 1) dLen)) (.e (mC (.int 1))) dSub), cAr (.int 0)]))) dAdd)) dIx) (.nm 4))
  (mSeq (mIfS (mOr (mTb (m2 (.e (asV (mCallK 4 f_has_way [] [.v (mVar 3), .v (m2 (.n 1) (.e (mC (.int 0))) dIx), .v (mC (.str "")), .v (mTup (mCons (mVar 4) mNil))] [0, 1, 2, 3]))) (.e (mC (.bl false))) dNotB)) (mNot (m1 (.e (asV (mCallR 2 f__law_same [.v (asV (mCallR 4 f_short_way [.v (mVar 3), .v (m2 (.n 1) (.e (mC (.int 0))) dIx), .v (m2 (.n 1) (.e (m1 (.e (mC (.int 1))) dNeg)) dIx), .v (mIf (mTb (m2 (.e (m2 (.n 1) (.e (mC (.int 0))) dIx)) (.e (m2 (.n 1) (.e (m1 (.e (mC (.int 1))) dNeg)) dIx)) dLt)) (mTup (mCons (m2 (.n 1) (.e (mC (.int 0))) dIx) (mCons (m2 (.n 1) (.e (m1 (.e (mC (.int 1))) dNeg)) dIx) mNil))) (mTup (mCons (m2 (.n 1) (.e (m1 (.e (mC (.int 1))) dNeg)) dIx) (mCons (m2 (.n 1) (.e (mC (.int 0))) dIx) mNil))))])), .v (m1 (.e (mOv (mSl (.n 1) (mPs (mC (.int 1))) (mPs (m1 (.e (mC (.int 1))) dNeg)) dSlL))) dTuple)]))) dTru)))
  (mRet (mC (.bl false)))
  mSkip)
  (mSeq (mIfS (mOr (mNot (m1 (.e (asV (mCallR 2 f__law_same [.v (asV (mCallR 2 f_must_pass [.v (mVar 3), .v (m2 (.n 1) (.e (mC (.int 0))) dIx)])), .v (m1 (.e (mOv (m1 (.e (mOv (mSl (.n 1) (mPs (mC (.int 1))) mPn dSlL))) dSort))) dTuple)]))) dTru)) (mNot (m1 (.e (asV (mCallR 2 f__law_same [.v (asV (mCallR 4 f_short_way [.v (mVar 3), .v (m2 (.n 1) (.e (m1 (.e (mC (.int 1))) dNeg)) dIx), .v (m2 (.n 1) (.e (mC (.int 0))) dIx), .v (mTup mNil)])), .v (mC .non)]))) dTru)))
  (mRet (mC (.bl false)))
  mSkip)
  (mSeq (mAsg (asV (mCallR 2 f__law_words [.o 0, .v (mC (.int 4))])) (.tup [(.nm 5), (.nm 6), (.nm 7), (.nm 8)]))
  (mSeq (mAsg (mTup (mCons (mCall (mCons (mVar 6) (mCons (mVar 7) mNil)) dMin2) (mCons (mCall (mCons (mVar 6) (mCons (mVar 7) mNil)) dMax2) mNil))) (.tup [(.nm 9), (.nm 10)]))
  (mSeq (mAsg (m1 (.e (mOv (m1 (.e (mOv (mLst (mCons (mTup (mCons (mVar 5) (mCons (m1 (.e (mOv (m1 (.e (mOv (mLst (mCons (mVar 6) (mCons (mVar 7) mNil))))) dSort))) dTuple) mNil))) (mCons (mTup (mCons (mVar 6) (mCons (mTup (mCons (mVar 8) mNil)) mNil))) (mCons (mTup (mCons (mVar 7) (mCons (mTup (mCons (mVar 8) mNil)) mNil))) (mCons (mTup (mCons (mVar 8) (mCons (mTup (mCons (mC (.str "")) mNil)) mNil))) mNil))))))) dSort))) dTuple) (.nm 11))
  (mSeq (mIfS (mOr (mNot (m1 (.e (asV (mCallR 2 f__law_same [.v (asV (mCallR 4 f_short_way [.v (mVar 11), .v (mVar 5), .v (mC (.str "")), .v (mTup mNil)])), .v (mTup (mCons (mVar 9) (mCons (mVar 8) mNil)))]))) dTru)) (mNot (m1 (.e (asV (mCallR 2 f__law_same [.v (asV (mCallR 4 f_short_way [.v (mVar 11), .v (mVar 5), .v (mC (.str "")), .v (mTup (mCons (mVar 9) mNil))])), .v (mTup (mCons (mVar 10) (mCons (mVar 8) mNil)))]))) dTru)))
  (mRet (mC (.bl false)))
  mSkip)
  (mRet (mAndV (asV (mCallR 2 f__law_same [.v (asV (mCallR 2 f_must_pass [.v (mVar 11), .v (mVar 5)])), .v (mTup (mCons (mVar 8) mNil))])) (mAndV (m2 (.e (asV (mCallR 4 f_has_way [.v (mVar 11), .v (mVar 5), .v (mVar 8), .v (m1 (.e (mOv (m1 (.e (mOv (mLst (mCons (mVar 6) (mCons (mVar 7) mNil))))) dSort))) dTuple)]))) (.e (mC (.bl false))) dIsB) (m2 (.e (asV (mCallR 4 f_has_way [.v (mVar 11), .v (mVar 8), .v (mVar 8), .v (mTup mNil)]))) (.e (mC (.bl false))) dIsB)))))))))))))))
def f__law_line : Fm := runF 13 m__law_line
-- law(script): slots 0 script, 1 fount, 2 turn, 3 ladder, 4 names, 5 lap, 6 kind, 7 aim, 8 odds, 9 bars, 10 name, 11 bosses -> V
def l1_law : Ms := (mSeq (mAsg (m2 (.n 4) (.e (asV (mCallR 3 f__law_dip [.o 1, .v (m1 (.n 4) dLen), cAr (.int 0)]))) dIx) (.nm 6))
  (mSeq (mAsg (m2 (.e (mOv (m2 (.n 4) (.e (mOv (mLst (mCons (mC (.str "")) (mCons (mC (.str "")) mNil))))) dCat))) (.e (asV (mCallR 3 f__law_dip [.o 1, .v (m2 (.e (m1 (.n 4) dLen)) (.e (mC (.int 2))) dAdd), cAr (.int 0)]))) dIx) (.nm 7))
  (mSeq (mAsg (m2 (.e (mC (.int 1))) (.e (asV (mCallR 3 f__law_dip [.o 1, .v (mC (.int 4)), cAr (.int 0)]))) dAdd) (.nm 8))
  (mSeq (mAsg (m1 (.e (mOv (mLc (mIt (mVar 4)) [10] (.nm 10) (mTb (m2 (.e (asV (mCallR 3 f__law_dip [.o 1, .v (m2 (.n 8) (.e (mC (.int 1))) dAdd), cAr (.int 0)]))) (.e (mC (.int 0))) dEq)) (mVar 10)))) dTuple) (.nm 9))
  (mIfS (mNot (m1 (.e (asV (mCallR 4 f__law_asked [.v (mVar 3), .v (mVar 6), .v (mVar 7), .v (mVar 9)]))) dTru))
  (mRet (mC (.bl false)))
  mSkip)))))
def l2_law : Ms := (mSeq (mAsg (asV (mCallR 2 f__law_ladder [.o 1, .v (mC (.int 5))])) (.nm 3))
  (mSeq (mSetO (mLc (mIt (mVar 3)) [10, 11] (.tup [(.nm 10), (.nm 11)]) (ret true) (mVar 10)) 4)
  (mSeq (mIfS (mNot (m1 (.e (asV (mCallR 1 f__law_looked [.v (mVar 3)]))) dTru))
  (mRet (mC (.bl false)))
  mSkip)
  (mFor (mRng rng1 (mCons (mC (.int 10)) mNil)) (.nm 5)
  l1_law))))
def m_law : Ms := (mSeq (mSetO (asO (mCallR 1 f__law_fount [.v (mVar 0)])) 1)
  (mSeq (mFor (mRng rng1 (mCons (mC (.int 3)) mNil)) (.nm 2)
  l2_law)
  (mRet (asV (mCallR 1 f__law_line [.o 1])))))
def f_law : Fm := runF 12 m_law
end
end DL

set_option Elab.async false
set_option linter.all false
set_option maxRecDepth 100000
set_option maxHeartbeats 0
namespace DL
open PySem PySem.Spec PyProof.Rows L2
noncomputable section
def F1_next_layers (x_bars : D) (s1 : (Ow × Ow)) (t4 : (D × D)) (d3 : D) (s3 : (Ow)) : Option (Ow) := (dNe d3 (.str "")).bind fun t7 => (asB t7).bind fun t8 => ((cond t8 ((dNotIn d3 x_bars).bind fun t9 => (asB t9).bind fun t10 => ((cond t10 ((dNotIn d3 s1.1.d).bind fun t11 => (asB t11).bind fun t12 => some t12) (some false) : Option Bool)).bind fun t13 => some t13) (some false) : Option Bool)).bind fun t14 => cond t14 ((dAdd t4.1 (.tup [d3])).bind fun t15 => (oM1 fApp s3 (.tup [t15, d3])).bind fun t16 => some t16.2) (some s3)
def F2_next_layers (x_bars : D) (t1 : Ow) (s1 : (Ow × Ow)) (d2 : D) (s2 : (Ow)) : Option (Ow) := (un2 d2).bind fun t4 => (dIx t1.d t4.2).bind fun t5 => (itemsOf t5).bind fun t6 => (forN (F1_next_layers x_bars s1 t4) t6 s2).bind fun s4 => some s4
def F3_next_layers (d4 : D) (s6 : (Ow × Ow)) : Option (Ow × Ow) := (un2 d4).bind fun t19 => (dNotIn t19.2 s6.1.d).bind fun t20 => (asB t20).bind fun t21 => cond t21 ((setO s6.1 t19.2 t19.1).bind fun t22 => (oM1 fApp s6.2 (.tup [t19.1, t19.2])).bind fun t23 => some (t22, t23.2)) (some (s6.1, s6.2))
def F4_next_layers (s1 : (Ow × Ow)) : Option Bool := (dTru s1.2.d).bind fun t2 => some t2
def F5_next_layers (x_bars : D) (t1 : Ow) (s1 : (Ow × Ow)) : Option (Ow × Ow) := (itemsOf s1.2.d).bind fun t3 => (forN (F2_next_layers x_bars t1 s1) t3 (Ow.lst [])).bind fun s5 => (dSort s5.d).bind fun t17 => (itemsOf (t17).d).bind fun t18 => (forN (F3_next_layers) t18 (s1.1, (Ow.lst []))).bind fun s7 => some (s7.1, s7.2)
def F_next_layers (x_ladder : D) (x_kind : D) (x_bars : D) : Option D := (dDict x_ladder).bind fun t1 => (whC (F4_next_layers) (F5_next_layers x_bars t1) ((Ow.dct [] []), (Ow.lst [(.tup [(.tup []), x_kind])]))).bind fun s8 => some s8.1.d
def C1_short_way (x_aim : D) (t1 : Ow) (d1 : D) : Option (Option D) := (un2 d1).bind fun t7 => (dIx t1.d t7.1).bind fun t8 => (dIn x_aim t8).bind fun t9 => (asB t9).bind fun t10 => cond t10 (some (some t7.2)) (some none)
def F_short_way (x_ladder : D) (x_kind : D) (x_aim : D) (x_bars : D) : Option D := (dDict x_ladder).bind fun t1 => (dIx t1.d x_kind).bind fun t2 => (dIn x_aim t2).bind fun t3 => (asB t3).bind fun t4 => cond t4 (some (.tup [])) ((F_next_layers x_ladder x_kind x_bars).bind fun t5 => (oItems t5).bind fun t6 => (lcP (C1_short_way x_aim t1) t6).bind fun t11 => (szG t11).bind fun t12 => (dTru (Ow.lst t11).d).bind fun t13 => ((cond t13 ((dMinW (Ow.lst t11).d).bind fun t14 => some t14) (some D.non) : Option D)).bind fun t15 => some t15)
def F_has_way (x_ladder : D) (x_kind : D) (x_aim : D) (x_bars : D) : Option D := (F_short_way x_ladder x_kind x_aim x_bars).bind fun t1 => (dNotN t1 D.non).bind fun t2 => some t2
def C1_longest_needed (x_ladder : D) (d1 : D) : Option (Option D) := (un2 d1).bind fun t2 => (F_short_way x_ladder t2.1 (.str "") (.tup [])).bind fun t3 => (dLen t3).bind fun t4 => some (some t4)
def F_longest_needed (x_ladder : D) : Option D := (itemsOf x_ladder).bind fun t1 => (lcP (C1_longest_needed x_ladder) t1).bind fun t5 => (szG t5).bind fun t6 => (dMax1 ((Ow.lst t5)).d).bind fun t7 => some t7
def C1_must_pass (x_kind : D) (d1 : D) : Option (Option D) := (un2 d1).bind fun t2 => (dNe t2.1 x_kind).bind fun t3 => (asB t3).bind fun t4 => cond t4 (some (some t2.1)) (some none)
def C2_must_pass (x_ladder : D) (x_kind : D) (d2 : D) : Option (Option D) := (F_has_way x_ladder x_kind (.str "") (.tup [d2])).bind fun t8 => (dTru t8).bind fun t9 => cond (!t9) (some (some d2)) (some none)
def F_must_pass (x_ladder : D) (x_kind : D) : Option D := (itemsOf x_ladder).bind fun t1 => (lcP (C1_must_pass x_kind) t1).bind fun t5 => (szG t5).bind fun t6 => (itemsOf (Ow.lst t5).d).bind fun t7 => (lcP (C2_must_pass x_ladder x_kind) t7).bind fun t10 => (szG t10).bind fun t11 => (dTuple ((Ow.lst t10)).d).bind fun t12 => some t12
def F1__law_fount (d1 : D) (s1 : (D × D)) : Option (D × D) := (dInt d1).bind fun t4 => (dAbs t4).bind fun t5 => (dShl (.int 1) (.int 1500)).bind fun t6 => (dMod t5 t6).bind fun t7 => (dMul s1.2 (.int 47303)).bind fun t8 => (dMod t7 (.int 999983)).bind fun t9 => (dAdd t8 t9).bind fun t10 => (dAdd t10 (.int 13)).bind fun t11 => (dInt t11).bind fun t12 => (dMod t12 (.int 2147483423)).bind fun t13 => (dPow (.int 10) (.int 18)).bind fun t14 => (dGe t7 t14).bind fun t15 => (asB t15).bind fun t16 => cond t16 ((dAdd s1.1 t7).bind fun t17 => some (t17, t13)) (some (s1.1, t13))
def F__law_fount (x_script : D) : Option Ow := (asI (.int 63)).bind fun t1 => (dSlL x_script none t1).bind fun t2 => (itemsOf (t2).d).bind fun t3 => (forN (F1__law_fount) t3 ((.int 0), (.int 40169))).bind fun s2 => (dFdiv s2.2 (.int 11)).bind fun t18 => (dInt t18).bind fun t19 => (dMod t19 (.int 2003)).bind fun t20 => some (Ow.lst [s2.1, s2.2, t20])
def F__law_dip (x_fount : Ow) (x_many : D) (x_spot : D) : Option (D × Ow) := (dIx x_fount.d (.int 0)).bind fun t1 => (dGt t1 (.int 0)).bind fun t2 => (asB t2).bind fun t3 => cond t3 ((dIx x_fount.d (.int 0)).bind fun t4 => (dInt t4).bind fun t5 => (dMod t5 x_many).bind fun t6 => (dIx x_fount.d (.int 0)).bind fun t7 => (dFdiv t7 x_many).bind fun t8 => (setO x_fount (.int 0) t8).bind fun t9 => some (t6, t9)) ((dIx x_fount.d (.int 1)).bind fun t10 => (dMul t10 (.int 42611)).bind fun t11 => (dAdd t11 (.int 3079)).bind fun t12 => (dInt t12).bind fun t13 => (dMod t13 (.int 2147483423)).bind fun t14 => (setO x_fount (.int 1) t14).bind fun t15 => (dTru x_spot).bind fun t16 => ((cond t16 ((dIx t15.d (.int 2)).bind fun t17 => (dMul (.int 2) x_spot).bind fun t18 => (dAdd t18 (.int 1)).bind fun t19 => (dFdiv t17 t19).bind fun t20 => (dAdd t20 x_spot).bind fun t21 => (dInt t21).bind fun t22 => (dMod t22 (.int 11)).bind fun t23 => some t23) (some (.int 10)) : Option D)).bind fun t24 => (dEq t24 (.int 0)).bind fun t25 => (asB t25).bind fun t26 => cond t26 (some ((.int 0), t15)) ((dEq t24 (.int 1)).bind fun t27 => (asB t27).bind fun t28 => cond t28 ((dSub x_many (.int 1)).bind fun t29 => some (t29, t15)) ((dEq t24 (.int 2)).bind fun t30 => (asB t30).bind fun t31 => cond t31 ((dIx t15.d (.int 2)).bind fun t32 => (dInt t32).bind fun t33 => (dMod t33 x_many).bind fun t34 => some (t34, t15)) ((dIx t15.d (.int 1)).bind fun t35 => (dFdiv t35 (.int 4079)).bind fun t36 => (dInt t36).bind fun t37 => (dMod t37 x_many).bind fun t38 => some (t38, t15)))))
def F1__law_stirred (s1 : (Ow × Ow × Ow)) : Option Bool := (dTru s1.2.1.d).bind fun t2 => some t2
def F2__law_stirred (s1 : (Ow × Ow × Ow)) : Option (Ow × Ow × Ow) := (dLen s1.2.1.d).bind fun t3 => (F__law_dip s1.1 t3 (D.int 0)).bind fun t4 => (oM1 fPopAt s1.2.1 t4.1).bind fun t5 => (oM1 fApp s1.2.2 t5.1).bind fun t6 => some (t4.2, t5.2, t6.2)
def F__law_stirred (x_fount : Ow) (x_things : D) : Option (D × Ow) := (dList x_things).bind fun t1 => (whC (F1__law_stirred) (F2__law_stirred) (x_fount, t1, (Ow.lst []))).bind fun s2 => some (s2.2.2.d, s2.1)
def C1__law_same (t3 : (D × D)) (d2 : D) : Option (Option D) := (dIx t3.1 d2).bind fun t20 => (dIx t3.2 d2).bind fun t21 => some (some (.tup [t20, t21]))
def F1__law_same (s1 : (Ow)) : Option Bool := (dTru s1.d).bind fun t1 => some t1
def F2__law_same (s1 : (Ow)) : Option (Lp (Ow) D) := (oM0 fPop s1).bind fun t2 => (un2 t2.1).bind fun t3 => (dIsiL ["tuple", "list"] t3.2).bind fun t4 => (dTru t4).bind fun t5 => cond t5 ((dIsiL ["tuple", "list"] t3.1).bind fun t6 => (dTru t6).bind fun t7 => ((cond (!t7) (some true) ((dIsi "list" t3.1).bind fun t8 => (dIsi "list" t3.2).bind fun t9 => (dNe t8 t9).bind fun t10 => (asB t10).bind fun t11 => ((cond t11 (some true) ((dLen t3.1).bind fun t12 => (dLen t3.2).bind fun t13 => (dNe t12 t13).bind fun t14 => (asB t14).bind fun t15 => some t15) : Option Bool)).bind fun t16 => some t16) : Option Bool)).bind fun t17 => cond t17 (some (.rt (.bl false))) ((dLen t3.2).bind fun t18 => (rng1 [t18]).bind fun t19 => (lcP (C1__law_same t3) t19).bind fun t22 => (szG t22).bind fun t23 => (dCat t2.2.d ((Ow.lst t22)).d).bind fun t24 => some (.nx t24))) ((dIsN t3.2 D.non).bind fun t25 => (asB t25).bind fun t26 => ((cond t26 (some true) ((dIsi "bool" t3.2).bind fun t27 => (dTru t27).bind fun t28 => some t28) : Option Bool)).bind fun t29 => cond t29 ((dIsN t3.1 D.non).bind fun t30 => (dIsN t3.2 D.non).bind fun t31 => (dNe t30 t31).bind fun t32 => (asB t32).bind fun t33 => ((cond t33 (some true) ((dIsi "bool" t3.1).bind fun t34 => (dIsi "bool" t3.2).bind fun t35 => (dNe t34 t35).bind fun t36 => (asB t36).bind fun t37 => ((cond t37 (some true) ((dNe t3.1 t3.2).bind fun t38 => (asB t38).bind fun t39 => some t39) : Option Bool)).bind fun t40 => some t40) : Option Bool)).bind fun t41 => cond t41 (some (.rt (.bl false))) (some (.nx t2.2))) ((dIsi "int" t3.2).bind fun t42 => (dTru t42).bind fun t43 => cond t43 ((dIsi "int" t3.1).bind fun t44 => (dTru t44).bind fun t45 => ((cond (!t45) (some true) ((dIsi "bool" t3.1).bind fun t46 => (dTru t46).bind fun t47 => ((cond t47 (some true) ((dNe t3.1 t3.2).bind fun t48 => (asB t48).bind fun t49 => some t49) : Option Bool)).bind fun t50 => some t50) : Option Bool)).bind fun t51 => cond t51 (some (.rt (.bl false))) (some (.nx t2.2))) ((dIsi "str" t3.2).bind fun t52 => (dTru t52).bind fun t53 => ((cond (!t53) (some true) ((dIsi "str" t3.1).bind fun t54 => (dTru t54).bind fun t55 => ((cond (!t55) (some true) ((dNe t3.1 t3.2).bind fun t56 => (asB t56).bind fun t57 => some t57) : Option Bool)).bind fun t58 => some t58) : Option Bool)).bind fun t59 => cond t59 (some (.rt (.bl false))) (some (.nx t2.2)))))
def F__law_same (x_told : D) (x_due : D) : Option D := (whD (ε := D) (F1__law_same) (F2__law_same) (Ow.lst [(.tup [x_told, x_due])])).bind (smB fun s2 => some (.bl true))
def F1__law_words (d1 : D) (s1 : (Ow × Ow)) : Option (Ow × Ow) := (F__law_dip s1.1 (.int 16) (D.int 0)).bind fun t2 => (dIx (.str "hcpdwgsmrkbnfltv") t2.1).bind fun t3 => (F__law_dip t2.2 (.int 8) (.int 7)).bind fun t4 => (dIx ((Ow.lst [(.str ""), (.str "7"), (.str "oss"), (.str "a0"), (.str "ead"), (.str ""), (.str "zz99zz9"), (.str "taff")])).d t4.1).bind fun t5 => (dAdd t3 t5).bind fun t6 => (dNotIn t6 s1.2.d).bind fun t7 => (asB t7).bind fun t8 => ((cond t8 (some t6) ((dAdd (.int 100) d1).bind fun t9 => (dStr t9).bind fun t10 => (dAdd (.str "j") t10).bind fun t11 => some t11) : Option D)).bind fun t12 => (oM1 fApp s1.2 t12).bind fun t13 => some (t4.2, t13.2)
def F__law_words (x_fount : Ow) (x_many : D) : Option (D × Ow) := (rng1 [x_many]).bind fun t1 => (forN (F1__law_words) t1 (x_fount, (Ow.lst []))).bind fun s2 => some (s2.2.d, s2.1)
def F1__law_ladder (t4 : (D × Ow)) (d2 : D) (s2 : (Ow × Ow)) : Option (Ow × Ow) := (dCat t4.1 ((Ow.lst [(.str "")])).d).bind fun t18 => (dLen t4.1).bind fun t19 => (dAdd t19 (.int 1)).bind fun t20 => (F__law_dip s2.1 t20 (D.int 0)).bind fun t21 => (dIx (t18).d t21.1).bind fun t22 => (dNotIn t22 s2.2.d).bind fun t23 => (asB t23).bind fun t24 => cond t24 ((oM1 fApp s2.2 t22).bind fun t25 => some (t21.2, t25.2)) (some (t21.2, s2.2))
def F2__law_ladder (t4 : (D × Ow)) (d1 : D) (s1 : (Ow × Ow)) : Option (Ow × Ow) := (dEq d1 (.int 0)).bind fun t7 => (asB t7).bind fun t8 => ((cond t8 (some (true, s1.1)) ((F__law_dip s1.1 (.int 4) (D.int 0)).bind fun t9 => (dEq t9.1 (.int 0)).bind fun t10 => (asB t10).bind fun t11 => some (t11, t9.2)) : Option (Bool × Ow))).bind fun t12 => ((cond t12.1 (some ((Ow.lst [(.str "")]), t12.2)) ((F__law_dip t12.2 d1 (D.int 0)).bind fun t13 => (dIx t4.1 t13.1).bind fun t14 => some ((Ow.lst [t14]), t13.2)) : Option (Ow × Ow))).bind fun t15 => (F__law_dip t15.2 (.int 3) (.int 4)).bind fun t16 => (rng1 [t16.1]).bind fun t17 => (forN (F1__law_ladder t4) t17 (t16.2, t15.1)).bind fun s3 => (dIx t4.1 d1).bind fun t26 => (dSort s3.2.d).bind fun t27 => (dTuple (t27).d).bind fun t28 => (oM1 fApp s1.2 (.tup [t26, t28])).bind fun t29 => some (s3.1, t29.2)
def F__law_ladder (x_fount : Ow) (x_most : D) : Option (D × Ow) := (F__law_dip x_fount x_most (.int 3)).bind fun t1 => (dAdd (.int 1) t1.1).bind fun t2 => (F__law_words t1.2 t2).bind fun t3 => (F__law_stirred t3.2 t3.1).bind fun t4 => (dLen t4.1).bind fun t5 => (rng1 [t5]).bind fun t6 => (forN (F2__law_ladder t4) t6 (t4.2, (Ow.lst []))).bind fun s4 => (dSort s4.2.d).bind fun t30 => (dTuple (t30).d).bind fun t31 => some (t31, s4.1)
def C1__law_way (x_aim : D) (t1 : Ow) (d1 : D) : Option (Option D) := (dIx t1.d d1).bind fun t3 => (dIn x_aim t3).bind fun t4 => (asB t4).bind fun t5 => cond t5 (some (some (.tup [d1, (.int 0)]))) (some none)
def C2__law_way (x_bars : D) (t10 : D) (s2 : (Ow × D)) (d4 : D) : Option (Option D) := (dIn d4 s2.1.d).bind fun t16 => (asB t16).bind fun t17 => ((cond t17 ((dIx s2.1.d d4).bind fun t18 => (dSub t10 (.int 1)).bind fun t19 => (dEq t18 t19).bind fun t20 => (asB t20).bind fun t21 => ((cond t21 ((dNotIn d4 x_bars).bind fun t22 => (asB t22).bind fun t23 => some t23) (some false) : Option Bool)).bind fun t24 => some t24) (some false) : Option Bool)).bind fun t25 => cond t25 (some (some d4)) (some none)
def F1__law_way (x_bars : D) (t1 : Ow) (t10 : D) (d3 : D) (s2 : (Ow × D)) : Option (Ow × D) := (dNotIn d3 s2.1.d).bind fun t12 => (asB t12).bind fun t13 => ((cond t13 ((dIx t1.d d3).bind fun t14 => (itemsOf t14).bind fun t15 => (lcP (C2__law_way x_bars t10 s2) t15).bind fun t26 => (szG t26).bind fun t27 => (dLen ((Ow.lst t26)).d).bind fun t28 => (dGt t28 (.int 0)).bind fun t29 => (asB t29).bind fun t30 => some t30) (some false) : Option Bool)).bind fun t31 => cond t31 ((setO s2.1 d3 t10).bind fun t32 => some (t32, (.bl true))) (some (s2.1, s2.2))
def F2__law_way (s1 : (Ow × D × D)) : Option Bool := (dTru s1.2.1).bind fun t9 => some t9
def F3__law_way (x_bars : D) (t1 : Ow) (s1 : (Ow × D × D)) : Option (Ow × D × D) := (gAddI s1.2.2 (.int 1)).bind fun t10 => (itemsOf t1.d).bind fun t11 => (forN (F1__law_way x_bars t1 t10) t11 (s1.1, (.bl false))).bind fun s3 => some (s3.1, s3.2, t10)
def C3__law_way (x_bars : D) (s4 : (Ow × D × D)) (s5 : (Ow × D)) (d6 : D) : Option (Option D) := (dIn d6 s4.1.d).bind fun t40 => (asB t40).bind fun t41 => ((cond t41 ((dNotIn d6 x_bars).bind fun t42 => (asB t42).bind fun t43 => ((cond t43 ((dIx s4.1.d d6).bind fun t44 => (dIx s4.1.d s5.2).bind fun t45 => (dSub t45 (.int 1)).bind fun t46 => (dEq t44 t46).bind fun t47 => (asB t47).bind fun t48 => some t48) (some false) : Option Bool)).bind fun t49 => some t49) (some false) : Option Bool)).bind fun t50 => cond t50 (some (some d6)) (some none)
def F4__law_way (s4 : (Ow × D × D)) (s5 : (Ow × D)) : Option Bool := (dIx s4.1.d s5.2).bind fun t35 => (dGt t35 (.int 0)).bind fun t36 => (asB t36).bind fun t37 => some t37
def F5__law_way (x_bars : D) (t1 : Ow) (s4 : (Ow × D × D)) (s5 : (Ow × D)) : Option (Ow × D) := (dIx t1.d s5.2).bind fun t38 => (itemsOf t38).bind fun t39 => (lcP (C3__law_way x_bars s4 s5) t39).bind fun t51 => (szG t51).bind fun t52 => (dMin1 ((Ow.lst t51)).d).bind fun t53 => (oM1 fApp s5.1 t53).bind fun t54 => some (t54.2, t53)
def F__law_way (x_ladder : D) (x_kind : D) (x_aim : D) (x_bars : D) : Option D := (dDict x_ladder).bind fun t1 => (itemsOf t1.d).bind fun t2 => (lcP (C1__law_way x_aim t1) t2).bind fun t6 => (szG t6).bind fun t7 => (dDict ((Ow.lst t6)).d).bind fun t8 => (whC (F2__law_way) (F3__law_way x_bars t1) (t8, (.bl true), (.int 0))).bind fun s4 => (dNotIn x_kind s4.1.d).bind fun t33 => (asB t33).bind fun t34 => cond t34 (some D.non) ((whC (F4__law_way s4) (F5__law_way x_bars t1 s4) ((Ow.lst []), x_kind)).bind fun s6 => (dTuple s6.1.d).bind fun t55 => some t55)
def F__law_asked (x_ladder : D) (x_kind : D) (x_aim : D) (x_bars : D) : Option D := (F__law_way x_ladder x_kind x_aim x_bars).bind fun t1 => (F_has_way x_ladder x_kind x_aim x_bars).bind fun t2 => (dIsi "bool" t2).bind fun t3 => (dTru t3).bind fun t4 => ((cond t4 ((dNotN t1 D.non).bind fun t5 => (dEq t2 t5).bind fun t6 => (dTru t6).bind fun t7 => ((cond t7 ((F_short_way x_ladder x_kind x_aim x_bars).bind fun t8 => (F__law_same t8 t1).bind fun t9 => some t9) (some t6) : Option D)).bind fun t10 => some t10) (some t3) : Option D)).bind fun t11 => some t11
def C1__law_looked (d1 : D) : Option (Option D) := (un2 d1).bind fun t2 => some (some t2.1)
def C2__law_looked (x_ladder : D) (d2 : D) : Option (Option D) := (F__law_way x_ladder d2 (.str "") (.tup [])).bind fun t7 => (dLen t7).bind fun t8 => some (some t8)
def C3__law_looked (x_ladder : D) (d3 : D) (d4 : D) : Option (Option D) := (dNe d4 d3).bind fun t16 => (asB t16).bind fun t17 => ((cond t17 ((F__law_way x_ladder d3 (.str "") (.tup [d4])).bind fun t18 => (dIsN t18 D.non).bind fun t19 => (asB t19).bind fun t20 => some t20) (some false) : Option Bool)).bind fun t21 => cond t21 (some (some d4)) (some none)
def F1__law_looked (x_ladder : D) (t3 : (List D)) (d3 : D) (s1 : Unit) : Option (Lp Unit D) := (itemsOf (Ow.lst t3).d).bind fun t15 => (lcP (C3__law_looked x_ladder d3) t15).bind fun t22 => (szG t22).bind fun t23 => (F_must_pass x_ladder d3).bind fun t24 => (dTuple (Ow.lst t22).d).bind fun t25 => (F__law_same t24 t25).bind fun t26 => (dTru t26).bind fun t27 => cond (!t27) (some (.rt (.bl false))) (some (.nx ()))
def F__law_looked (x_ladder : D) : Option D := (itemsOf x_ladder).bind fun t1 => (lcP (C1__law_looked) t1).bind fun t3 => (szG t3).bind fun t4 => (F_longest_needed x_ladder).bind fun t5 => (itemsOf (Ow.lst t3).d).bind fun t6 => (lcP (C2__law_looked x_ladder) t6).bind fun t9 => (szG t9).bind fun t10 => (dMax1 ((Ow.lst t9)).d).bind fun t11 => (F__law_same t5 t11).bind fun t12 => (dTru t12).bind fun t13 => cond (!t13) (some (.bl false)) ((itemsOf (Ow.lst t3).d).bind fun t14 => (forL (ε := D) (F1__law_looked x_ladder t3) t14 ()).bind (smB fun s2 => some (.bl true)))
def C1__law_line (t3 : (D × Ow)) (d1 : D) : Option (Option D) := (dIx t3.1 d1).bind fun t6 => (dAdd d1 (.int 1)).bind fun t7 => (dLen t3.1).bind fun t8 => (dLt t7 t8).bind fun t9 => (asB t9).bind fun t10 => ((cond t10 ((dAdd d1 (.int 1)).bind fun t11 => (dIx t3.1 t11).bind fun t12 => some (.tup [t12])) (some (.tup [(.str "")])) : Option D)).bind fun t13 => some (some (.tup [t6, t13]))
def F__law_line (x_fount : Ow) : Option (D × Ow) := (F__law_dip x_fount (.int 4) (D.int 0)).bind fun t1 => (dAdd (.int 2) t1.1).bind fun t2 => (F__law_words t1.2 t2).bind fun t3 => (dLen t3.1).bind fun t4 => (rng1 [t4]).bind fun t5 => (lcP (C1__law_line t3) t5).bind fun t14 => (szG t14).bind fun t15 => (dSort (Ow.lst t14).d).bind fun t16 => (dTuple (t16).d).bind fun t17 => (dIx t3.1 (.int 0)).bind fun t18 => (F_short_way t17 t18 (.str "") (.tup [])).bind fun t19 => (asI (.int 1)).bind fun t20 => (dSlL t3.1 t20 none).bind fun t21 => (dTuple (t21).d).bind fun t22 => (F__law_same t19 t22).bind fun t23 => (dTru t23).bind fun t24 => ((cond (!t24) (some true) ((F_longest_needed t17).bind fun t25 => (dLen t3.1).bind fun t26 => (dSub t26 (.int 1)).bind fun t27 => (F__law_same t25 t27).bind fun t28 => (dTru t28).bind fun t29 => some (!t29)) : Option Bool)).bind fun t30 => cond t30 (some ((.bl false), t3.2)) ((dLen t3.1).bind fun t31 => (dSub t31 (.int 1)).bind fun t32 => (F__law_dip t3.2 t32 (D.int 0)).bind fun t33 => (dAdd (.int 1) t33.1).bind fun t34 => (dIx t3.1 t34).bind fun t35 => (dIx t3.1 (.int 0)).bind fun t36 => (F_has_way t17 t36 (.str "") (.tup [t35])).bind fun t37 => (dNotB t37 (.bl false)).bind fun t38 => (asB t38).bind fun t39 => ((cond t39 (some true) ((dIx t3.1 (.int 0)).bind fun t40 => (dNeg (.int 1)).bind fun t41 => (dIx t3.1 t41).bind fun t42 => (dIx t3.1 (.int 0)).bind fun t43 => (dNeg (.int 1)).bind fun t44 => (dIx t3.1 t44).bind fun t45 => (dLt t43 t45).bind fun t46 => (asB t46).bind fun t47 => ((cond t47 ((dIx t3.1 (.int 0)).bind fun t48 => (dNeg (.int 1)).bind fun t49 => (dIx t3.1 t49).bind fun t50 => some (.tup [t48, t50])) ((dNeg (.int 1)).bind fun t51 => (dIx t3.1 t51).bind fun t52 => (dIx t3.1 (.int 0)).bind fun t53 => some (.tup [t52, t53])) : Option D)).bind fun t54 => (F_short_way t17 t40 t42 t54).bind fun t55 => (asI (.int 1)).bind fun t56 => (dNeg (.int 1)).bind fun t57 => (asI t57).bind fun t58 => (dSlL t3.1 t56 t58).bind fun t59 => (dTuple (t59).d).bind fun t60 => (F__law_same t55 t60).bind fun t61 => (dTru t61).bind fun t62 => some (!t62)) : Option Bool)).bind fun t63 => cond t63 (some ((.bl false), t33.2)) ((dIx t3.1 (.int 0)).bind fun t64 => (F_must_pass t17 t64).bind fun t65 => (asI (.int 1)).bind fun t66 => (dSlL t3.1 t66 none).bind fun t67 => (dSort (t67).d).bind fun t68 => (dTuple (t68).d).bind fun t69 => (F__law_same t65 t69).bind fun t70 => (dTru t70).bind fun t71 => ((cond (!t71) (some true) ((dNeg (.int 1)).bind fun t72 => (dIx t3.1 t72).bind fun t73 => (dIx t3.1 (.int 0)).bind fun t74 => (F_short_way t17 t73 t74 (.tup [])).bind fun t75 => (F__law_same t75 D.non).bind fun t76 => (dTru t76).bind fun t77 => some (!t77)) : Option Bool)).bind fun t78 => cond t78 (some ((.bl false), t33.2)) ((F__law_words t33.2 (.int 4)).bind fun t79 => (un4 t79.1).bind fun t80 => (dMin2 [t80.2.1, t80.2.2.1]).bind fun t81 => (dMax2 [t80.2.1, t80.2.2.1]).bind fun t82 => (un2 (.tup [t81, t82])).bind fun t83 => (dSort ((Ow.lst [t80.2.1, t80.2.2.1])).d).bind fun t84 => (dTuple (t84).d).bind fun t85 => (dSort ((Ow.lst [(.tup [t80.1, t85]), (.tup [t80.2.1, (.tup [t80.2.2.2])]), (.tup [t80.2.2.1, (.tup [t80.2.2.2])]), (.tup [t80.2.2.2, (.tup [(.str "")])])])).d).bind fun t86 => (dTuple (t86).d).bind fun t87 => (F_short_way t87 t80.1 (.str "") (.tup [])).bind fun t88 => (F__law_same t88 (.tup [t83.1, t80.2.2.2])).bind fun t89 => (dTru t89).bind fun t90 => ((cond (!t90) (some true) ((F_short_way t87 t80.1 (.str "") (.tup [t83.1])).bind fun t91 => (F__law_same t91 (.tup [t83.2, t80.2.2.2])).bind fun t92 => (dTru t92).bind fun t93 => some (!t93)) : Option Bool)).bind fun t94 => cond t94 (some ((.bl false), t79.2)) ((F_must_pass t87 t80.1).bind fun t95 => (F__law_same t95 (.tup [t80.2.2.2])).bind fun t96 => (dTru t96).bind fun t97 => ((cond t97 ((dSort ((Ow.lst [t80.2.1, t80.2.2.1])).d).bind fun t98 => (dTuple (t98).d).bind fun t99 => (F_has_way t87 t80.1 t80.2.2.2 t99).bind fun t100 => (dIsB t100 (.bl false)).bind fun t101 => (dTru t101).bind fun t102 => ((cond t102 ((F_has_way t87 t80.2.2.2 t80.2.2.2 (.tup [])).bind fun t103 => (dIsB t103 (.bl false)).bind fun t104 => some t104) (some t101) : Option D)).bind fun t105 => some t105) (some t96) : Option D)).bind fun t106 => some (t106, t79.2)))))
def C1_law (d2 : D) : Option (Option D) := (un2 d2).bind fun t5 => some (some t5.1)
def C2_law (t20 : D) (d4 : D) (s4 : (Ow)) : Option (Option D × (Ow)) := (dAdd t20 (.int 1)).bind fun t26 => (F__law_dip s4 t26 (D.int 0)).bind fun t27 => (dEq t27.1 (.int 0)).bind fun t28 => (asB t28).bind fun t29 => cond t29 (some (some d4, t27.2)) (some (none, t27.2))
def F1_law (t3 : (D × Ow)) (t6 : (List D)) (d3 : D) (s3 : (Ow)) : Option (Lp (Ow) (Lp (Ow) D)) := (dLen (Ow.lst t6).d).bind fun t11 => (F__law_dip s3 t11 (D.int 0)).bind fun t12 => (dIx (Ow.lst t6).d t12.1).bind fun t13 => (dCat (Ow.lst t6).d ((Ow.lst [(.str ""), (.str "")])).d).bind fun t14 => (dLen (Ow.lst t6).d).bind fun t15 => (dAdd t15 (.int 2)).bind fun t16 => (F__law_dip t12.2 t16 (D.int 0)).bind fun t17 => (dIx (t14).d t17.1).bind fun t18 => (F__law_dip t17.2 (.int 4) (D.int 0)).bind fun t19 => (dAdd (.int 1) t19.1).bind fun t20 => (itemsOf (Ow.lst t6).d).bind fun t21 => (lcS (C2_law t20) t21 t19.2).bind fun t30 => (szG t30.1).bind fun t31 => (dTuple ((Ow.lst t30.1)).d).bind fun t32 => (F__law_asked t3.1 t13 t18 t32).bind fun t33 => (dTru t33).bind fun t34 => cond (!t34) (some (.rt (.rt (.bl false)))) (some (.nx t30.2))
def F2_law (d1 : D) (s1 : (Ow)) : Option (Lp (Ow) D) := (F__law_ladder s1 (.int 5)).bind fun t3 => (itemsOf t3.1).bind fun t4 => (lcP (C1_law) t4).bind fun t6 => (szG t6).bind fun t7 => (F__law_looked t3.1).bind fun t8 => (dTru t8).bind fun t9 => cond (!t9) (some (.rt (.bl false))) ((rng1 [(.int 10)]).bind fun t10 => (forL (ε := (Lp (Ow) D)) (F1_law t3 t6) t10 t3.2).bind (smB fun s5 => some (.nx s5)))
def F_law (x_script : D) : Option D := (F__law_fount x_script).bind fun t1 => (rng1 [(.int 3)]).bind fun t2 => (forL (ε := D) (F2_law) t2 t1).bind (smB fun s6 => (F__law_line s6).bind fun t35 => some t35.1)
end
end DL

set_option Elab.async false
set_option linter.all false
set_option maxRecDepth 100000
set_option maxHeartbeats 1000000
namespace DL
open PySem PySem.Spec PyProof.Rows L2
/-! ### loops over rows that stand for something -/
theorem forN_map {α τ σ : Type} {e : α → D} {r : τ → σ} {f : τ → α → τ} {step : D → σ → Option σ} (I : Nat → τ → Prop) : ∀ {xs : List α} (n0 : Nat) {t : τ}, I n0 t →
    (∀ a ∈ xs, ∀ n t, n < n0 + xs.length → I n t → step (e a) (r t) = some (r (f t a)) ∧ I (n + 1) (f t a)) → forN step (xs.map e) (r t) = some (r (xs.foldl f t)) ∧ I (n0 + xs.length) (xs.foldl f t)
  | [], n0, t, h0, _ => ⟨rfl, h0⟩
  | a :: xs, n0, t, h0, h => by
    obtain ⟨e1, i1⟩ := h a List.mem_cons_self n0 t (by rw [List.length_cons]; omega) h0
    have ih := forN_map (e := e) (r := r) (f := f) (step := step) I (xs := xs) (n0 + 1) i1 fun b hb n t hn i => h b (List.mem_cons_of_mem _ hb) n t (by rw [List.length_cons]; omega) i
    refine ⟨?_, ?_⟩
    · show (step (e a) (r t)).bind (fun s' => forN step (xs.map e) s') = _
      rw [e1, Option.bind_some, ih.1]
      rfl
    · have := ih.2
      rw [show n0 + 1 + xs.length = n0 + (a :: xs).length by rw [List.length_cons]; omega] at this
      exact this
theorem foldl_filter {α β : Type} (p : α → Bool) (g : α → β) : ∀ (xs : List α) (acc : List β), xs.foldl (fun acc x => if p x = true then acc ++ [g x] else acc) acc = acc ++ (xs.filter p).map g
  | [], acc => by simp
  | x :: xs, acc => by
    rw [List.foldl_cons, foldl_filter p g xs]
    by_cases h : p x = true
    · rw [if_pos h, List.filter_cons_of_pos h]; simp
    · rw [if_neg h, List.filter_cons_of_neg h]
theorem foldl_flat {α β : Type} (h : α → List β) : ∀ (xs : List α) (acc : List β), xs.foldl (fun acc x => acc ++ h x) acc = acc ++ xs.flatMap h
  | [], acc => by simp
  | x :: xs, acc => by rw [List.foldl_cons, foldl_flat h xs, List.flatMap_cons, List.append_assoc]
theorem dNe_str (a b : Str) : dNe (.str a) (.str b) = some (.bl (!decide (a = b))) := by
  show (some (a == b)).map (fun b => D.bl !b) = _
  rw [Option.map_some, beq_dec]
theorem dEq_str (a b : Str) : dEq (.str a) (.str b) = some (.bl (decide (a = b))) := by
  show (some (a == b)).map D.bl = _
  rw [Option.map_some, beq_dec]
theorem cond_some {α : Type} (b : Bool) (x y : α) : (cond b (some x) (some y) : Option α) = some (cond b x y) := by cases b <;> rfl
/-! ### pairs of a way and its end -/
theorem py_pair (p : List Str × Str) : (pairD p).py = .tuple [.tuple (pyL (p.1.map D.str)), .str p.2] := by
  unfold pairD stD
  rw [py_tup, py_cons, py_cons, py_nil, py_tup, py_str]
theorem sortOk_pairs (l : Ly) : sortOk (l.map pairD) = true := by
  unfold sortOk
  rw [Bool.and_eq_true, Bool.and_eq_true, Bool.and_eq_true]
  refine ⟨⟨⟨?_, ?_⟩, ?_⟩, ?_⟩
  · induction l with
    | nil => exact pl_nil
    | cons p ps ih =>
      rw [List.map_cons, pl_cons, ih, Bool.and_true]
      unfold pairD stD
      rw [pl_tup, pl_cons, pl_cons, pl_nil, pl_tup, plL_strs, pl_str]
      rfl
  · unfold alikeB
    rw [List.all_map, List.all_eq_true]
    intro a _
    show ((l.map pairD).all fun e => PySem.W.alike (pairD a).py e.py) = true
    rw [List.all_map, List.all_eq_true]
    intro b _
    show PySem.W.alike (pairD a).py (pairD b).py = true
    rw [py_pair, py_pair, PySem.W.alike, PySem.W.alikeAll, PySem.W.alikeAll, PySem.W.alike, PySem.W.alike, alike_strs a.1 b.1]
    rfl
  · rw [List.all_map, List.all_eq_true]
    intro a _
    show decide ((pairD a).py.depth ≤ 60) = true
    rw [decide_eq_true_eq, py_pair]
    have := depth_strs a.1
    rw [PyData.depth, PyData.depthAll, PyData.depthAll, PyData.depthAll, PyData.depth, PyData.depth]
    omega
  · rw [Bool.or_eq_true]
    left
    rw [List.all_map, List.all_eq_true]
    intro a _
    rfl
theorem dSort_pairs (l : Ly) : dSort (.lst (l.map pairD)) = some (.lst ((srtP l).map pairD)) := by
  show (if sortOk (l.map pairD) = true then some (Ow.lst ((l.map pairD).mergeSort leD)) else none) = _
  rw [if_pos (sortOk_pairs l), ← PySem.W.sort_maps (r := leP2) (s := leD) pairD (fun _ _ _ _ => rfl)]
  rfl
/-! ### the ways found so far -/
def wD (W : WM) : Ow := .dct ((wk W).map .inr) (W.map fun q => stD q.2)
def lyD (l : Ly) : Ow := .lst (l.map pairD)
def tabD (L : List Row) : Ow := .dct (dctKs L) (dctDs L)
def nbL (L : List Row) (bars : List Str) (c : Str) : List Str := ((bo L c).getD []).filter fun b => decide (b ≠ "" ∧ b ∉ bars)
theorem nbL_mem {L : List Row} {bars : List Str} {c b : Str} : b ∈ nbL L bars c ↔ ∃ bs, bo L c = some bs ∧ b ∈ bs ∧ b ≠ "" ∧ b ∉ bars := by
  unfold nbL
  rw [List.mem_filter, decide_eq_true_eq]
  constructor
  · rintro ⟨h1, h2, h3⟩
    cases e : bo L c with
    | none => rw [e] at h1; cases h1
    | some bs => rw [e] at h1; exact ⟨bs, rfl, h1, h2, h3⟩
  · rintro ⟨bs, e, h1, h2, h3⟩
    rw [e]
    exact ⟨h1, h2, h3⟩
theorem setO_w {W : WM} {b : Str} {w : List Str} (h : b ∉ wk W) (hl : W.length < 16777216) : setO (wD W) (.str b) (stD w) = some (wD (W ++ [(b, w)])) := by
  have h1 : (Sum.inr b : Key) ∉ (wk W).map Sum.inr := fun z => by
    obtain ⟨y, h1, h2⟩ := List.mem_map.mp z
    cases h2
    exact h h1
  show (if ((wk W).map (Sum.inr : Str → Key)).length < 16777216 then some (Ow.dct (putKs ((wk W).map .inr) (.inr b)) (putDs ((wk W).map .inr) (W.map fun q => stD q.2) (.inr b) (stD w))) else none) = _
  rw [if_pos (by rw [List.length_map]; unfold wk; rw [List.length_map]; exact hl)]
  unfold putKs putDs
  rw [hasK_not h1]
  simp [wD, wk]
section
variable {L : List Row} {bars : List Str}
theorem F1_ok (W : WM) (x : Ow) (w : List Str) (c b : Str) (fd : Ly) (hw : w.length < 1000) (hf : fd.length < 1000) :
    F1_next_layers (.tup (bars.map .str)) (wD W, x) (stD w, .str c) (.str b) (lyD fd) = some (lyD (if decide ((b ≠ "" ∧ b ∉ bars) ∧ b ∉ wk W) = true then fd ++ [(w ++ [b], b)] else fd)) := by
  unfold F1_next_layers
  rw [dNe_str, Option.bind_some]
  show (some _).bind _ = _
  rw [Option.bind_some]
  by_cases h1 : b = ""
  · rw [decide_eq_true h1]
    show _ = some (lyD (if _ then _ else _))
    rw [if_neg (by rw [decide_eq_true_eq]; exact fun z => z.1.1 h1)]
    rfl
  · rw [decide_eq_false h1]
    show ((dNotIn (.str b) (.tup (bars.map .str))).bind fun t9 => (asB t9).bind fun t10 => _).bind _ = _
    rw [dNotIn_t, Option.bind_some]
    show ((some _).bind _).bind _ = _
    rw [Option.bind_some]
    by_cases h2 : b ∈ bars
    · rw [decide_eq_true h2, if_neg (by rw [decide_eq_true_eq]; exact fun z => z.1.2 h2)]
      rfl
    · rw [decide_eq_false h2]
      show (((dNotIn (.str b) (.dct ((wk W).map .inr) (W.map fun q => stD q.2))).bind fun t11 => (asB t11).bind fun t12 => some t12).bind _).bind _ = _
      rw [dNotIn_d, Option.bind_some]
      show (((some _).bind _).bind _).bind _ = _
      rw [Option.bind_some, Option.bind_some, Option.bind_some]
      by_cases h3 : b ∈ wk W
      · rw [decide_eq_true h3, if_neg (by rw [decide_eq_true_eq]; exact fun z => z.2 h3)]
        rfl
      · rw [decide_eq_false h3, if_pos (by rw [decide_eq_true_eq]; exact ⟨⟨h1, h2⟩, h3⟩)]
        show ((if (w.map D.str).length + 1 ≤ 16777216 then some (D.tup (w.map D.str ++ [D.str b])) else none).bind fun t15 => (oM1 fApp (lyD fd) (.tup [t15, .str b])).bind fun t16 => some t16.2) = _
        rw [if_pos (by rw [List.length_map]; omega), Option.bind_some]
        show ((Option.map _ (if (fd.map pairD).length < 16777216 then _ else _)).bind _) = _
        rw [if_pos (by rw [List.length_map]; omega)]
        show some (Ow.lst (fd.map pairD ++ [.tup [.tup (w.map D.str ++ [D.str b]), .str b]])) = _
        unfold lyD pairD stD
        simp
theorem ite_len {α : Type} {c : Prop} [Decidable c] {t : List α} {a : α} {n : Nat} (h : t.length ≤ n) : (if c then t ++ [a] else t).length ≤ n + 1 := by
  split
  · rw [List.length_append]
    show t.length + 1 ≤ n + 1
    omega
  · omega
theorem F2_ok (hL : LOk L) (W : WM) (x : Ow) (p : List Str × Str) (fd : Ly) (hp : p.2 ∈ keys L) (hw : p.1.length < 900) (hf : fd.length < 900) :
    F2_next_layers (.tup (bars.map .str)) (tabD L) (wD W, x) (pairD p) (lyD fd) = some (lyD (fd ++ ((nbL L bars p.2).filter fun b => decide (b ∉ wk W)).map fun b => (p.1 ++ [b], b))) := by
  obtain ⟨bs, ebs⟩ := bo_key hp
  have hbl := hL.blen ebs
  unfold F2_next_layers
  show (un2 (.tup [stD p.1, .str p.2])).bind _ = _
  show (some (stD p.1, D.str p.2)).bind _ = _
  rw [Option.bind_some]
  show (dIx (.dct (dctKs L) (dctDs L)) (.str p.2)).bind _ = _
  rw [dIx_lad, ebs, Option.map_some, Option.bind_some]
  show (some (bs.map D.str)).bind _ = _
  rw [Option.bind_some]
  have := (forN_map (e := D.str) (r := lyD) (f := fun fd b => if decide ((b ≠ "" ∧ b ∉ bars) ∧ b ∉ wk W) = true then fd ++ [(p.1 ++ [b], b)] else fd) (step := F1_next_layers (.tup (bars.map .str)) (wD W, x) (stD p.1, .str p.2))
    (fun n t => t.length ≤ n) (xs := bs) fd.length (t := fd) (Nat.le_refl _) fun b _ n t hn ht => ⟨F1_ok W x p.1 p.2 b t (by omega) (by omega), ite_len ht⟩).1
  rw [this, foldl_filter (fun b : Str => decide ((b ≠ "" ∧ b ∉ bars) ∧ b ∉ wk W)) (fun b : Str => (p.1 ++ [b], b)), Option.bind_some]
  have e : bs.filter (fun b : Str => decide ((b ≠ "" ∧ b ∉ bars) ∧ b ∉ wk W)) = (nbL L bars p.2).filter fun b => decide (b ∉ wk W) := by
    unfold nbL
    rw [ebs, List.filter_filter]
    congr 1
    funext b
    rw [Bool.and_comm, Bool.decide_and]
  rw [e]
theorem F3_ok (s : WM × Ly) (p : List Str × Str) (h1 : s.1.length < 1000) (h2 : s.2.length < 1000) : F3_next_layers (pairD p) (wD s.1, lyD s.2) = some (wD (put1 s p).1, lyD (put1 s p).2) := by
  unfold F3_next_layers
  show (some (stD p.1, D.str p.2)).bind _ = _
  rw [Option.bind_some]
  show (dNotIn (.str p.2) (.dct ((wk s.1).map .inr) (s.1.map fun q => stD q.2))).bind _ = _
  rw [dNotIn_d, Option.bind_some]
  show (some _).bind _ = _
  rw [Option.bind_some]
  unfold put1
  by_cases h : p.2 ∈ wk s.1
  · rw [decide_eq_true h, if_pos h]
    rfl
  · rw [decide_eq_false h, if_neg h]
    show ((setO (wD s.1) (.str p.2) (stD p.1)).bind fun t22 => (oM1 fApp (lyD s.2) (.tup [stD p.1, .str p.2])).bind fun t23 => some (t22, t23.2)) = _
    rw [setO_w h (by omega), Option.bind_some]
    show ((Option.map _ (if (s.2.map pairD).length < 16777216 then _ else _)).bind _) = _
    rw [if_pos (by rw [List.length_map]; omega)]
    show some (wD _, Ow.lst (s.2.map pairD ++ [.tup [stD p.1, .str p.2]])) = _
    simp only [lyD, pairD, List.map_append, List.map_cons, List.map_nil]
theorem put1_len (s : WM × Ly) (p : List Str × Str) : (put1 s p).1.length ≤ s.1.length + 1 ∧ (put1 s p).2.length ≤ s.2.length + 1 := by
  unfold put1
  split
  · omega
  · simp
theorem stepF_len {nb : Str → List Str} (hb : ∀ c, (nb c).length ≤ 6) (W : WM) : ∀ lay : Ly, (stepF nb W lay).length ≤ 6 * lay.length
  | [] => Nat.le_refl _
  | p :: lay => by
    have h1 : stepF nb W (p :: lay) = (((nb p.2).filter fun b => decide (b ∉ wk W)).map fun b => (p.1 ++ [b], b)) ++ stepF nb W lay := List.flatMap_cons
    rw [h1, List.length_append, List.length_map, List.length_cons]
    have h2 := List.length_filter_le (fun b => decide (b ∉ wk W)) (nb p.2)
    have h3 := hb p.2
    have h4 := stepF_len hb W lay
    omega
theorem F5_ok (hL : LOk L) (s : WM × Ly) (hp : ∀ p ∈ s.2, p.2 ∈ keys L ∧ p.1.length < 100) (h1 : s.1.length < 100) (h2 : s.2.length < 100) :
    F5_next_layers (.tup (bars.map .str)) (tabD L) (wD s.1, lyD s.2) = some (wD (nxt (nbL L bars) s).1, lyD (nxt (nbL L bars) s).2) := by
  have hb : ∀ c, (nbL L bars c).length ≤ 6 := fun c => by
    unfold nbL
    refine Nat.le_trans (List.length_filter_le _ _) ?_
    cases e : bo L c with
    | none => exact Nat.zero_le _
    | some bs => exact hL.blen e
  unfold F5_next_layers
  show (some (s.2.map pairD)).bind _ = _
  rw [Option.bind_some]
  have q := (forN_map (e := pairD) (r := lyD) (f := fun fd p => fd ++ ((nbL L bars p.2).filter fun b => decide (b ∉ wk s.1)).map fun b => (p.1 ++ [b], b)) (step := F2_next_layers (.tup (bars.map .str)) (tabD L) (wD s.1, lyD s.2))
    (fun n t => t.length ≤ 6 * n) (xs := s.2) 0 (t := []) (Nat.le_refl _) fun p hm n t hn ht => ⟨F2_ok hL s.1 _ p t (hp p hm).1 (by have := (hp p hm).2; omega) (by omega), by
      rw [List.length_append, List.length_map]
      have := List.length_filter_le (fun b => decide (b ∉ wk s.1)) (nbL L bars p.2)
      have := hb p.2
      omega⟩).1
  rw [foldl_flat] at q
  have q : forN (F2_next_layers (.tup (bars.map .str)) (tabD L) (wD s.1, lyD s.2)) (s.2.map pairD) (Ow.lst []) = some (lyD (stepF (nbL L bars) s.1 s.2)) := q
  rw [q, Option.bind_some]
  show (dSort (.lst ((stepF (nbL L bars) s.1 s.2).map pairD))).bind _ = _
  rw [dSort_pairs, Option.bind_some]
  show (some ((srtP (stepF (nbL L bars) s.1 s.2)).map pairD)).bind _ = _
  rw [Option.bind_some]
  have ls : (srtP (stepF (nbL L bars) s.1 s.2)).length ≤ 600 := by
    unfold srtP
    rw [List.length_mergeSort]
    have := stepF_len hb s.1 s.2
    omega
  have q2 := (forN_map (e := pairD) (r := fun t : WM × Ly => (wD t.1, lyD t.2)) (f := put1) (step := F3_next_layers) (fun n t => t.1.length ≤ s.1.length + n ∧ t.2.length ≤ n) (xs := srtP (stepF (nbL L bars) s.1 s.2)) 0 (t := (s.1, [])) ⟨Nat.le_refl _, Nat.le_refl _⟩
    fun p hm n t hn ht => ⟨F3_ok t p (by omega) (by omega), by have := put1_len t p; omega⟩).1
  have q2 : forN F3_next_layers ((srtP (stepF (nbL L bars) s.1 s.2)).map pairD) (wD s.1, Ow.lst []) = _ := q2
  rw [q2]
  rfl
theorem F4_ok (W : WM) (l : Ly) : F4_next_layers (wD W, lyD l) = some (!l.isEmpty) := by
  cases l <;> rfl
/-- what the search tells -/
theorem layers_wh (hL : LOk L) {k : Str} (hk : k ∈ keys L) : ∀ (n : Nat) (s : WM × Ly) (m : Nat), BI (nbL L bars) k m s → (∀ q ∈ s.1, q.1 ∈ keys L) → (∀ p ∈ s.2, p.2 ∈ keys L) → s.2.length ≤ 5 → m ≤ s.1.length → L.length - s.1.length < n →
    ∃ W j, Found (nbL L bars) k W ∧ (∀ q ∈ W, q.1 ∈ keys L) ∧ whN F4_next_layers (F5_next_layers (.tup (bars.map .str)) (tabD L)) j (wD s.1, lyD s.2) = some (wD W, lyD [])
  | 0, s, m, _, _, _, _, _, h => by omega
  | n + 1, s, m, I, hw, hl, h5, hm, h => by
    have nbk : ∀ c, ∀ b ∈ nbL L bars c, b ∈ keys L := fun c b hb => by
      obtain ⟨bs, e, h1, h2, _⟩ := nbL_mem.mp hb
      exact hL.inn' e h1 h2
    have bound : ∀ {t : WM × Ly} {m'}, BI (nbL L bars) k m' t → (∀ q ∈ t.1, q.1 ∈ keys L) → t.1.length ≤ 5 := fun {t m'} I' hk' => by
      have := I'.nd.length_le_of_subset (l₂ := keys L) fun b hb => by
        obtain ⟨q, hq, rfl⟩ := mem_wk.mp hb
        exact hk' q hq
      unfold wk at this
      rw [List.length_map, keys_len] at this
      have := hL.len
      omega
    by_cases e : s.2 = []
    · obtain ⟨W, l⟩ := s
      have e : l = [] := e
      subst e
      exact ⟨W, 1, I.found, hw, rfl⟩
    · obtain ⟨I', N, eN, hN⟩ := I.step
      have b0 := bound I hw
      have hF := F5_ok (bars := bars) hL s (fun p hp => ⟨hl p hp, by have := (I.la p hp).2.2; omega⟩) (by omega) (by omega)
      have hT : F4_next_layers (wD s.1, lyD s.2) = some true := by
        rw [F4_ok]
        cases w : s.2 with
        | nil => exact absurd w e
        | cons _ _ => rfl
      have hw' : ∀ q ∈ (nxt (nbL L bars) s).1, q.1 ∈ keys L := fun q hq => by
        rw [eN] at hq
        rcases List.mem_append.mp hq with z | z
        · exact hw q z
        · obtain ⟨x, hx, rfl⟩ := List.mem_map.mp z
          obtain ⟨p, _, hp⟩ := hN x hx
          exact nbk _ _ hp
      have wh : ∀ {j r}, whN F4_next_layers (F5_next_layers (.tup (bars.map .str)) (tabD L)) j (wD (nxt (nbL L bars) s).1, lyD (nxt (nbL L bars) s).2) = some r → whN F4_next_layers (F5_next_layers (.tup (bars.map .str)) (tabD L)) (j + 1) (wD s.1, lyD s.2) = some r := fun {j r} q => by
        unfold whN
        rw [hT, Option.bind_some]
        show (F5_next_layers _ _ _).bind _ = _
        rw [hF, Option.bind_some]
        exact q
      by_cases eN0 : N = []
      · subst eN0
        have e2 : nxt (nbL L bars) s = (s.1, []) := by rw [eN]; simp
        refine ⟨s.1, 2, ?_, hw, wh (j := 1) ?_⟩
        · rw [e2] at I'
          exact I'.found
        · rw [e2]
          rfl
      · have l1 : (nxt (nbL L bars) s).1.length = s.1.length + N.length := by rw [eN]; simp
        have l2 : 0 < N.length := List.length_pos_iff.mpr eN0
        have l3 := bound I' hw'
        have l4 : (nxt (nbL L bars) s).1.length ≤ L.length := by
          have := I'.nd.length_le_of_subset (l₂ := keys L) fun b hb => by
            obtain ⟨q, hq, rfl⟩ := mem_wk.mp hb
            exact hw' q hq
          unfold wk at this
          rw [List.length_map, keys_len] at this
          exact this
        have l5 : (nxt (nbL L bars) s).2 = N := by rw [eN]
        obtain ⟨W, j, f1, f2, f3⟩ := layers_wh hL hk n (nxt (nbL L bars) s) (m + 1) I' hw' (fun p hp => by
          rw [l5] at hp
          obtain ⟨q, _, hq⟩ := hN p hp
          exact nbk _ _ hq) (by rw [l5]; omega) (by omega) (by omega)
        exact ⟨W, j + 1, f1, f2, wh f3⟩
theorem next_layers_ok (hL : LOk L) {k : Str} (hk : k ∈ keys L) (bars : List Str) : ∃ W, Found (nbL L bars) k W ∧ (∀ q ∈ W, q.1 ∈ keys L) ∧ F_next_layers (ladD L) (.str k) (.tup (bars.map .str)) = some (wD W).d := by
  obtain ⟨W, j, f1, f2, f3⟩ := layers_wh (bars := bars) hL hk (L.length + 1) ([], [([], k)]) 0 bi_start (fun q h => by cases h) (fun p hp => by rw [List.mem_singleton.mp hp]; exact hk) (by show 1 ≤ 5; decide) (Nat.le_refl _) (by show L.length - 0 < L.length + 1; omega)
  refine ⟨W, f1, f2, ?_⟩
  unfold F_next_layers
  rw [dDict_lad hL.nd, Option.bind_some]
  have := whC_of f3
  have this : whC F4_next_layers (F5_next_layers (.tup (bars.map .str)) (.dct (dctKs L) (dctDs L))) (Ow.dct [] [], Ow.lst [.tup [.tup [], .str k]]) = some (wD W, lyD []) := this
  rw [this]
  rfl
end
end DL

set_option Elab.async false
set_option linter.all false
set_option maxRecDepth 100000
set_option maxHeartbeats 1000000
namespace DL
open PySem PySem.Spec PyProof.Rows L2
/-! ### list comprehensions over rows that stand for something -/
theorem lcP_map {α : Type} {e : α → D} {f : D → Option (Option D)} {p : α → Bool} {g : α → D} : ∀ {xs : List α}, (∀ a ∈ xs, f (e a) = some (if p a = true then some (g a) else none)) → lcP f (xs.map e) = some ((xs.filter p).map g)
  | [], _ => rfl
  | a :: xs, h => by
    show (f (e a)).bind (fun r => (lcP f (xs.map e)).map fun ys => r.toList ++ ys) = _
    rw [h a List.mem_cons_self, Option.bind_some, lcP_map fun b hb => h b (List.mem_cons_of_mem _ hb)]
    by_cases hp : p a = true
    · rw [if_pos hp, List.filter_cons_of_pos hp]; rfl
    · rw [if_neg hp, List.filter_cons_of_neg hp]; rfl
theorem szG_ok {ys : List D} (h : ys.length ≤ 16777216) : szG ys = some () := if_pos h
theorem fold_best {α : Type} {b : α → α → Bool} (total : ∀ x y, b x y = true ∨ b y x = true) (trans : ∀ x y z, b x y = true → b y z = true → b x z = true) :
    ∀ (xs : List α) (x : α), xs.foldl (fun a y => if b a y = true then a else y) x ∈ x :: xs ∧ ∀ z ∈ x :: xs, b (xs.foldl (fun a y => if b a y = true then a else y) x) z = true
  | [], x => ⟨List.mem_cons_self, fun z hz => by
    rw [List.mem_singleton.mp hz]
    rcases total x x with h | h <;> exact h⟩
  | y :: xs, x => by
    obtain ⟨h1, h2⟩ := fold_best total trans xs (if b x y = true then x else y)
    rw [List.foldl_cons]
    refine ⟨?_, fun z hz => ?_⟩
    · rcases List.mem_cons.mp h1 with h | h
      · rw [h]
        split
        · exact List.mem_cons_self
        · exact List.mem_cons_of_mem _ List.mem_cons_self
      · exact List.mem_cons_of_mem _ (List.mem_cons_of_mem _ h)
    · have h0 := h2 _ List.mem_cons_self
      by_cases q : b x y = true
      · rw [if_pos q] at h0 h2 ⊢
        rcases List.mem_cons.mp hz with e | hz
        · rw [e]; exact h0
        · rcases List.mem_cons.mp hz with e | hz
          · rw [e]; exact trans _ _ _ h0 q
          · exact h2 z (List.mem_cons_of_mem _ hz)
      · rw [if_neg q] at h0 h2 ⊢
        rcases List.mem_cons.mp hz with e | hz
        · rw [e]; exact trans _ _ _ h0 ((total x y).resolve_left q)
        · exact h2 z hz
/-! ### the least way -/
def leKb (u v : List Str) : Bool := leD (kd (stD u)) (kd (stD v))
theorem kd_stD (u : List Str) : (kd (stD u)).py = .tuple [.int u.length, .tuple (pyL (u.map D.str))] := by
  show (D.tup [.int (u.map D.str).length, .tup (u.map D.str)]).py = _
  rw [py_tup, py_cons, py_cons, py_nil, py_tup, List.length_map]
  rfl
theorem leKb_iff (u v : List Str) : leKb u v = true ↔ leK u v := by
  have e : leKb u v = !PySem.W.dataLt (.tuple [.int v.length, .tuple (pyL (v.map D.str))]) (.tuple [.int u.length, .tuple (pyL (u.map D.str))]) := by
    show (!PySem.W.dataLt (kd (stD v)).py (kd (stD u)).py) = _
    rw [kd_stD, kd_stD]
  have al : PySem.W.alike (.tuple (pyL (v.map D.str))) (.tuple (pyL (u.map D.str))) = true := by
    rw [PySem.W.alike]
    exact alike_strs v u
  have eW : PySem.W.dataLt (.tuple (pyL (v.map D.str))) (.tuple (pyL (u.map D.str))) = !leW u v := by
    rw [PySem.W.dataLt_tuple, py_strs, py_strs]
    exact rowLt_strs u v
  rw [e, PySem.W.dataLt_pair (by simp [PySem.W.alike]) al, PySem.W.dataLt_int]
  have e1 : PyData.eqv (.int (v.length : Int)) (.int (u.length : Int)) = decide (v.length = u.length) := by
    simp only [PyData.eqv]
    rw [Bool.eq_iff_iff, beq_iff_eq, decide_eq_true_eq]
    omega
  rw [e1]
  unfold leK
  by_cases h : v.length = u.length
  · rw [if_pos (decide_eq_true h)]
    have g : ((!if PyData.eqv (.tuple (pyL (v.map D.str))) (.tuple (pyL (u.map D.str))) = true then false else PySem.W.dataLt (.tuple (pyL (v.map D.str))) (.tuple (pyL (u.map D.str)))) = true) ↔ leW u v = true := by
      by_cases q : PyData.eqv (.tuple (pyL (v.map D.str))) (.tuple (pyL (u.map D.str))) = true
      · rw [if_pos q]
        have := (PySem.W.toks_eqv _ _ al).1 q
        have n : PySem.W.dataLt (.tuple (pyL (v.map D.str))) (.tuple (pyL (u.map D.str))) = false := by
          unfold PySem.W.dataLt
          rw [this, PyProof.Rows.lex_irrefl]
        rw [eW] at n
        simp at n
        simp [n]
      · rw [if_neg q, eW]
        simp
    rw [g]
    constructor
    · intro w; exact .inr ⟨h.symm, w⟩
    · rintro (w | w)
      · omega
      · exact w.2
  · rw [if_neg (by rw [decide_eq_true_eq]; exact h)]
    simp only [Bool.not_eq_true', decide_eq_false_iff_not]
    constructor
    · intro w; left; omega
    · rintro (w | w) <;> omega
theorem minKOk_ways (ws : List (List Str)) : minKOk (ws.map stD) = true := by
  unfold minKOk
  rw [Bool.and_eq_true, Bool.and_eq_true, Bool.and_eq_true]
  refine ⟨⟨⟨?_, ?_⟩, ?_⟩, ?_⟩
  · induction ws with
    | nil => exact pl_nil
    | cons w ws ih =>
      rw [List.map_cons, pl_cons, ih, Bool.and_true, stD, pl_tup, plL_strs]
  · unfold alikeB
    rw [List.map_map, List.all_map, List.all_eq_true]
    intro a _
    show ((ws.map (kd ∘ stD)).all fun e => PySem.W.alike (kd (stD a)).py e.py) = true
    rw [List.all_map, List.all_eq_true]
    intro b _
    show PySem.W.alike (kd (stD a)).py (kd (stD b)).py = true
    rw [kd_stD, kd_stD, PySem.W.alike, PySem.W.alikeAll, PySem.W.alikeAll, PySem.W.alike, PySem.W.alike, alike_strs a b]
    rfl
  · rw [List.all_map, List.all_eq_true]
    intro a _
    show decide ((kd (stD a)).py.depth ≤ 62) = true
    rw [decide_eq_true_eq, kd_stD]
    have := depth_strs a
    rw [PyData.depth, PyData.depthAll, PyData.depthAll, PyData.depthAll, PyData.depth, PyData.depth]
    omega
  · rw [List.all_map, List.all_eq_true]
    intro a _
    rfl
theorem minK_ways : ∀ (ws : List (List Str)) (x : List Str), minK (stD x) (ws.map stD) = stD (ws.foldl (fun a y => if leKb a y = true then a else y) x)
  | [], _ => rfl
  | y :: ws, x => by
    have e : (if leD (kd (stD x)) (kd (stD y)) = true then stD x else stD y) = stD (if leKb x y = true then x else y) := by
      show (if leKb x y = true then stD x else stD y) = _
      by_cases q : leKb x y = true
      · rw [if_pos q, if_pos q]
      · rw [if_neg q, if_neg q]
    rw [List.foldl_cons, ← minK_ways ws, ← e]
    rfl
theorem dMinW_ok (w : List Str) (ws : List (List Str)) : ∃ m ∈ w :: ws, (∀ u ∈ w :: ws, leK m u) ∧ dMinW (.lst ((w :: ws).map stD)) = some (stD m) := by
  obtain ⟨h1, h2⟩ := fold_best (b := leKb) (fun x y => by rw [leKb_iff, leKb_iff]; exact leK.total x y) (fun x y z => by rw [leKb_iff, leKb_iff, leKb_iff]; exact leK.trans) ws w
  refine ⟨_, h1, fun u hu => (leKb_iff _ _).mp (h2 u hu), ?_⟩
  show (if minKOk ((w :: ws).map stD) = true then some (minK (stD w) (ws.map stD)) else none) = _
  rw [if_pos (minKOk_ways (w :: ws))]
  rw [minK_ways]

/-! ### short_way -/
def gl (L : List Row) (aim : Str) (c : Str) : Prop := ∃ bs, bo L c = some bs ∧ aim ∈ bs
def glB (L : List Row) (aim : Str) (c : Str) : Bool := match bo L c with
  | some bs => decide (aim ∈ bs)
  | none => false
theorem glB_iff {L : List Row} {aim c : Str} : glB L aim c = true ↔ gl L aim c := by
  unfold glB gl
  cases e : bo L c with
  | none => simp
  | some bs => simp
/-- what a short way is: None where there is none, else the best one -/
def SW (L : List Row) (k aim : Str) (bars : List Str) (d : D) : Prop := (∃ ws, Best (nbL L bars) (gl L aim) k ws ∧ d = stD ws) ∨ ((∀ us, ¬ Way (nbL L bars) (gl L aim) k us) ∧ d = .non)
theorem SW.one {L : List Row} {k aim : Str} {bars : List Str} {d d' : D} (h : SW L k aim bars d) (h' : SW L k aim bars d') : d = d' := by
  rcases h with ⟨ws, b, rfl⟩ | ⟨n, rfl⟩
  · rcases h' with ⟨ws', b', rfl⟩ | ⟨n', rfl⟩
    · rw [b.one b']
    · exact absurd b.1 (n' _)
  · rcases h' with ⟨ws', b', rfl⟩ | ⟨n', rfl⟩
    · exact absurd b'.1 (n _)
    · rfl
theorem oItems_w (W : WM) : oItems (wD W).d = some (W.map fun q => D.tup [.str q.1, stD q.2]) := by
  show some ((((wk W).map Sum.inr).zip (W.map fun q => stD q.2)).map fun q : Key × D => D.tup [.ofK q.1, q.2]) = _
  unfold wk
  rw [List.map_map, List.zip_map', List.map_map]
  rfl
theorem short_way_ok {L : List Row} (hL : LOk L) {k : Str} (hk : k ∈ keys L) (aim : Str) (bars : List Str) : ∃ d, SW L k aim bars d ∧ F_short_way (ladD L) (.str k) (.str aim) (.tup (bars.map .str)) = some d := by
  obtain ⟨bs, ebs⟩ := bo_key hk
  unfold F_short_way
  rw [dDict_lad hL.nd, Option.bind_some]
  show ∃ d, SW L k aim bars d ∧ (dIx (.dct (dctKs L) (dctDs L)) (.str k)).bind _ = some d
  rw [dIx_lad, ebs, Option.map_some, Option.bind_some]
  show ∃ d, SW L k aim bars d ∧ (dIn (.str aim) (.tup (bs.map .str))).bind _ = some d
  rw [dIn_t, Option.bind_some]
  show ∃ d, SW L k aim bars d ∧ (some (decide (aim ∈ bs))).bind _ = some d
  rw [Option.bind_some]
  by_cases ha : aim ∈ bs
  · rw [decide_eq_true ha]
    exact ⟨stD [], .inl ⟨[], best_nil ⟨bs, ebs, ha⟩, rfl⟩, rfl⟩
  · rw [decide_eq_false ha]
    obtain ⟨W, fW, kW, eW⟩ := next_layers_ok hL hk bars
    show ∃ d, SW L k aim bars d ∧ (F_next_layers (ladD L) (.str k) (.tup (bars.map .str))).bind _ = some d
    rw [eW, Option.bind_some, oItems_w, Option.bind_some]
    have hC : ∀ q ∈ W, C1_short_way (.str aim) (.dct (dctKs L) (dctDs L)) (.tup [.str q.1, stD q.2]) = some (if glB L aim q.1 = true then some (stD q.2) else none) := fun q hq => by
      obtain ⟨bs', e'⟩ := bo_key (kW q hq)
      unfold C1_short_way
      show (some (D.str q.1, stD q.2)).bind _ = _
      rw [Option.bind_some]
      show (dIx (.dct (dctKs L) (dctDs L)) (.str q.1)).bind _ = _
      rw [dIx_lad, e', Option.map_some, Option.bind_some]
      show (dIn (.str aim) (.tup (bs'.map .str))).bind _ = _
      rw [dIn_t, Option.bind_some]
      show (some (decide (aim ∈ bs'))).bind _ = _
      rw [Option.bind_some]
      unfold glB
      rw [e']
      show _ = some (if decide (aim ∈ bs') = true then _ else _)
      cases decide (aim ∈ bs') <;> rfl
    rw [lcP_map hC, Option.bind_some]
    have hg0 : ¬ gl L aim k := fun ⟨bs', e', h'⟩ => by
      rw [ebs] at e'
      cases e'
      exact ha h'
    have ways : ∀ us, Way (nbL L bars) (gl L aim) k us → ∃ q ∈ W.filter (fun q => glB L aim q.1), leK q.2 us := fun us hu => by
      have hn : us ≠ [] := fun z => by
        rw [z] at hu
        exact hg0 hu.2
      obtain ⟨q, hq, eq⟩ := mem_wk.mp (fW.all us hu.1 hn)
      refine ⟨q, List.mem_filter.mpr ⟨hq, ?_⟩, (fW.least q hq).2.2.2 us hu.1 hn eq.symm⟩
      rw [glB_iff, eq]
      exact hu.2
    have lW : W.length ≤ 5 := by
      have := fW.nd.length_le_of_subset (l₂ := keys L) fun b hb => by
        obtain ⟨q, hq, rfl⟩ := mem_wk.mp hb
        exact kW q hq
      unfold wk at this
      rw [List.length_map, keys_len] at this
      have := hL.len
      omega
    have lF := List.length_filter_le (fun q : Str × List Str => glB L aim q.1) W
    rw [szG_ok (by rw [List.length_map]; omega), Option.bind_some]
    cases hF : W.filter (fun q => glB L aim q.1) with
    | nil =>
      refine ⟨.non, .inr ⟨fun us hu => ?_, rfl⟩, rfl⟩
      obtain ⟨q, hq, _⟩ := ways us hu
      rw [hF] at hq
      cases hq
    | cons q qs =>
      obtain ⟨m, hm, hle, em⟩ := dMinW_ok q.2 (qs.map (·.2))
      refine ⟨stD m, .inl ⟨m, ⟨?_, fun us hu => ?_⟩, rfl⟩, ?_⟩
      · have hm : m ∈ (q :: qs).map (·.2) := hm
        obtain ⟨q', hq', rfl⟩ := List.mem_map.mp hm
        rw [← hF] at hq'
        obtain ⟨h1, h2⟩ := List.mem_filter.mp hq'
        obtain ⟨l1, l2, _⟩ := fW.least q' h1
        refine ⟨l1, ?_⟩
        rw [l2]
        exact glB_iff.mp h2
      · obtain ⟨q', hq', l'⟩ := ways us hu
        rw [hF] at hq'
        exact (hle q'.2 (show q'.2 ∈ (q :: qs).map (·.2) from List.mem_map_of_mem hq')).trans l'
      · have e2 : (q :: qs).map (fun q : Str × List Str => stD q.2) = (q.2 :: qs.map (·.2)).map stD := by simp [List.map_map, Function.comp_def]
        rw [e2]
        show ((dTru (.lst ((q.2 :: qs.map (·.2)).map stD))).bind _) = _
        show (some true).bind _ = _
        rw [Option.bind_some]
        show (((dMinW (.lst ((q.2 :: qs.map (·.2)).map stD))).bind fun t14 => some t14).bind _) = _
        rw [em]
        rfl
/-- has_way -/
theorem has_way_ok {L : List Row} {k aim : Str} {bars : List Str} {d : D} (h : F_short_way (ladD L) (.str k) (.str aim) (.tup (bars.map .str)) = some d) : F_has_way (ladD L) (.str k) (.str aim) (.tup (bars.map .str)) = some (.bl (!d.isNon)) := by
  unfold F_has_way
  rw [h]
  rfl
end DL

set_option Elab.async false
set_option linter.all false
set_option maxRecDepth 100000
set_option maxHeartbeats 1000000
namespace DL
open PySem PySem.Spec PyProof.Rows L2
theorem dEq_int (a b : Int) : dEq (.int a) (.int b) = some (.bl (decide (a = b))) := by
  show (some (a == b)).map D.bl = _
  rw [Option.map_some, beq_dec]
theorem dNe_int (a b : Int) : dNe (.int a) (.int b) = some (.bl (!decide (a = b))) := by
  show (some (a == b)).map (fun b => D.bl !b) = _
  rw [Option.map_some, beq_dec]
/-! ### how far each one is -/
abbrev FM := List (Str × Nat)
def fk (F : FM) : List Str := F.map (·.1)
def fD (F : FM) : Ow := .dct ((fk F).map .inr) (F.map fun q => .int (q.2 : Int))
theorem lk_f : ∀ (F : FM) (b : Str), lk ((fk F).map .inr) (F.map fun q => D.int (q.2 : Int)) (.inr b) = (F.lookup b).map fun n => .int (n : Int)
  | [], b => rfl
  | q :: F, b => by
    show (if (Sum.inr q.1 : Key) = .inr b then some (D.int (q.2 : Int)) else lk ((fk F).map .inr) (F.map fun q => D.int (q.2 : Int)) (.inr b)) = _
    rw [List.lookup_cons]
    by_cases e : q.1 = b
    · rw [if_pos (by rw [e]), e]
      simp
    · rw [if_neg fun z => e (Sum.inr.inj z), lk_f F b, beq_dec, decide_eq_false fun z => e z.symm]
theorem dIx_f (F : FM) (b : Str) : dIx (fD F).d (.str b) = (F.lookup b).map fun n => .int (n : Int) := by
  show (some (Sum.inr b)).bind (fun k => lk ((fk F).map .inr) (F.map fun q => D.int (q.2 : Int)) k) = _
  rw [Option.bind_some, lk_f]
theorem lookup_none {F : FM} {b : Str} : F.lookup b = none ↔ b ∉ fk F := by
  induction F with
  | nil => simp [fk]
  | cons q F ih =>
    rw [List.lookup_cons]
    unfold fk
    rw [List.map_cons, List.mem_cons]
    by_cases e : q.1 = b
    · rw [e]; simp
    · rw [beq_dec, decide_eq_false fun z => e z.symm]
      show F.lookup b = none ↔ _
      rw [ih]
      unfold fk
      constructor
      · rintro h (z | z)
        · exact e z.symm
        · exact h z
      · intro h z; exact h (.inr z)
theorem lookup_app (F G : FM) (b : Str) : (F ++ G).lookup b = (F.lookup b).or (G.lookup b) := by
  induction F with
  | nil => rfl
  | cons q F ih =>
    rw [List.cons_append, List.lookup_cons, List.lookup_cons]
    cases b == q.1 with
    | true => rfl
    | false => exact ih
theorem lookup_const {cs : List Str} {m : Nat} {b : Str} : (cs.map fun c => (c, m)).lookup b = if b ∈ cs then some m else none := by
  induction cs with
  | nil => simp
  | cons c cs ih =>
    rw [List.map_cons, List.lookup_cons, beq_dec]
    by_cases e : b = c
    · rw [decide_eq_true e, e]; simp
    · rw [decide_eq_false e]
      show List.lookup b _ = _
      rw [ih]
      simp [e]
theorem setO_f {F : FM} {b : Str} {n : Nat} (h : b ∉ fk F) (hl : F.length < 16777216) : setO (fD F) (.str b) (.int (n : Int)) = some (fD (F ++ [(b, n)])) := by
  have h1 : (Sum.inr b : Key) ∉ (fk F).map Sum.inr := fun z => by
    obtain ⟨y, h1, h2⟩ := List.mem_map.mp z
    cases h2
    exact h h1
  show (if ((fk F).map (Sum.inr : Str → Key)).length < 16777216 then some (Ow.dct (putKs ((fk F).map .inr) (.inr b)) (putDs ((fk F).map .inr) (F.map fun q => D.int (q.2 : Int)) (.inr b) (.int (n : Int)))) else none) = _
  rw [if_pos (by rw [List.length_map]; unfold fk; rw [List.length_map]; exact hl)]
  unfold putKs putDs
  rw [hasK_not h1]
  simp [fD, fk]
/-! ### distances -/
section
variable {nb : Str → List Str} {g : Str → Prop} {c k : Str} {n m : Nat} {us : List Str}
theorem way_dst (h : Way nb g c us) : ∃ n, n ≤ us.length ∧ Dst nb g c n := by
  generalize hn : us.length = n
  induction n using Nat.strongRecOn generalizing us with
  | _ n ih =>
    by_cases q : ∃ vs, Way nb g c vs ∧ vs.length < n
    · obtain ⟨vs, hv, hl⟩ := q
      obtain ⟨m, h1, h2⟩ := ih vs.length hl hv rfl
      exact ⟨m, by omega, h2⟩
    · exact ⟨n, Nat.le_refl _, ⟨us, h, hn⟩, fun vs hv => Nat.le_of_not_lt fun z => q ⟨vs, hv, z⟩⟩
theorem dst_gap (h : ∀ c, ¬ Dst nb g c m) : ∀ (n : Nat) (c : Str), m ≤ n → ¬ Dst nb g c n
  | 0, c, hm, d => by
    have : m = 0 := by omega
    exact h c (this ▸ d)
  | n + 1, c, hm, d => by
    by_cases e : m = n + 1
    · exact h c (e ▸ d)
    · obtain ⟨b, _, db⟩ := d.down
      exact dst_gap h n b (by omega) db
end
section
variable {L : List Row} {bars : List Str} {aim : Str}
theorem dst_key {c : Str} {n : Nat} (h : Dst (nbL L bars) (gl L aim) c n) : c ∈ keys L := by
  cases n with
  | zero =>
    obtain ⟨bs, e, _⟩ := h.of_zero
    exact List.mem_map_of_mem (f := (·.1)) (bo_mem e)
  | succ n =>
    obtain ⟨b, hb, _⟩ := h.down
    obtain ⟨bs, e, _⟩ := nbL_mem.mp hb
    exact List.mem_map_of_mem (f := (·.1)) (bo_mem e)
/-- all distances to s are told -/
structure FI (L : List Row) (bars : List Str) (aim : Str) (s : Nat) (F : FM) : Prop where
  iff : ∀ c n, F.lookup c = some n ↔ Dst (nbL L bars) (gl L aim) c n ∧ n ≤ s
  nd : (fk F).Nodup
  sub : ∀ c ∈ fk F, c ∈ keys L
theorem FI.len (hL : LOk L) {s : Nat} {F : FM} (h : FI L bars aim s F) : F.length ≤ L.length ∧ F.length ≤ 5 := by
  have := h.nd.length_le_of_subset (l₂ := keys L) h.sub
  unfold fk at this
  rw [List.length_map, keys_len] at this
  have := hL.len
  omega
def cnd (L : List Row) (bars : List Str) (s : Nat) (F : FM) (c : Str) : Bool := decide (F.lookup c = none) && ((bo L c).getD []).any fun b => decide (F.lookup b = some s) && decide (b ∉ bars)
theorem cnd_iff {s : Nat} {F : FM} {c : Str} : cnd L bars s F c = true ↔ F.lookup c = none ∧ ∃ bs, bo L c = some bs ∧ ∃ b ∈ bs, F.lookup b = some s ∧ b ∉ bars := by
  unfold cnd
  rw [Bool.and_eq_true, decide_eq_true_eq, List.any_eq_true]
  constructor
  · rintro ⟨h1, b, h2, h3⟩
    rw [Bool.and_eq_true, decide_eq_true_eq, decide_eq_true_eq] at h3
    cases e : bo L c with
    | none => rw [e] at h2; cases h2
    | some bs => rw [e] at h2; exact ⟨h1, bs, rfl, b, h2, h3⟩
  · rintro ⟨h1, bs, e, b, h2, h3⟩
    rw [e]
    exact ⟨h1, b, h2, by rw [Bool.and_eq_true, decide_eq_true_eq, decide_eq_true_eq]; exact h3⟩
/-- one more round -/
theorem FI.round {s : Nat} {F : FM} (hL : LOk L) (h : FI L bars aim s F) : FI L bars aim (s + 1) (F ++ ((keys L).filter (cnd L bars s F)).map fun c => (c, s + 1)) := by
  refine ⟨fun c n => ?_, ?_, fun c hc => ?_⟩
  · rw [lookup_app, lookup_const]
    cases e : F.lookup c with
    | some m =>
      obtain ⟨h1, h2⟩ := (h.iff c m).mp e
      show some m = some n ↔ _
      constructor
      · intro q; cases q; exact ⟨h1, by omega⟩
      · intro q; rw [h1.one q.1]
    | none =>
      show (if c ∈ (keys L).filter (cnd L bars s F) then some (s + 1) else none) = some n ↔ _
      have no : ∀ m, m ≤ s → ¬ Dst (nbL L bars) (gl L aim) c m := fun m hm d => by
        rw [(h.iff c m).mpr ⟨d, hm⟩] at e
        cases e
      by_cases q : c ∈ (keys L).filter (cnd L bars s F)
      · rw [if_pos q]
        obtain ⟨_, q2⟩ := List.mem_filter.mp q
        obtain ⟨_, bs, e2, b, hb, e3, e4⟩ := cnd_iff.mp q2
        obtain ⟨d, _⟩ := (h.iff b s).mp e3
        have hb0 : b ≠ "" := fun z => hL.ne (z ▸ dst_key d)
        have D := Dst.up (nbL_mem.mpr ⟨bs, e2, hb, hb0, e4⟩) d fun us hu => by
          obtain ⟨m, h1, h2⟩ := way_dst hu
          rcases Nat.lt_or_ge s m with z | z
          · omega
          · exact absurd h2 (no m z)
        constructor
        · intro z; cases z; exact ⟨D, Nat.le_refl _⟩
        · intro z; rw [D.one z.1]
      · rw [if_neg q]
        constructor
        · intro z; cases z
        · rintro ⟨d, hn⟩
          have : n = s + 1 := by
            rcases Nat.lt_or_ge s n with z | z
            · omega
            · exact absurd d (no n z)
          subst this
          obtain ⟨b, hb, db⟩ := d.down
          obtain ⟨bs, e2, h1, h2, h3⟩ := nbL_mem.mp hb
          exact absurd (List.mem_filter.mpr ⟨dst_key d, cnd_iff.mpr ⟨e, bs, e2, b, h1, (h.iff b s).mpr ⟨db, Nat.le_refl _⟩, h3⟩⟩) q
  · unfold fk
    rw [List.map_append, List.map_map]
    refine List.nodup_append.mpr ⟨h.nd, ?_, fun a ha b hb e => ?_⟩
    · show (((keys L).filter (cnd L bars s F)).map fun c => c).Nodup
      rw [List.map_id']
      exact hL.nd.filter _
    · obtain ⟨c, hc, rfl⟩ := List.mem_map.mp hb
      obtain ⟨_, q2⟩ := List.mem_filter.mp hc
      have := lookup_none.mp (cnd_iff.mp q2).1
      exact this (by rw [← show a = c from e]; exact ha)
  · unfold fk at hc
    rw [List.map_append, List.map_map] at hc
    rcases List.mem_append.mp hc with z | z
    · exact h.sub c z
    · obtain ⟨c', hc', rfl⟩ := List.mem_map.mp z
      exact (List.mem_filter.mp hc').1
/-! ### the law's rounds -/
theorem any_filter {α : Type} (p : α → Bool) (xs : List α) : decide (0 < (xs.filter p).length) = xs.any p := by
  induction xs with
  | nil => rfl
  | cons x xs ih =>
    by_cases h : p x = true
    · rw [List.filter_cons_of_pos h, List.any_cons, h]; simp
    · rw [List.filter_cons_of_neg h, List.any_cons, ih]; simp [h]
theorem dNotIn_f (c : Str) (F : FM) : dNotIn (.str c) (fD F).d = some (.bl (decide (F.lookup c = none))) := by
  show dNotIn (.str c) (.dct ((fk F).map .inr) _) = _
  rw [dNotIn_d, ← decide_not]
  congr 2
  rw [decide_eq_decide]
  exact lookup_none.symm
theorem dIn_f (c : Str) (F : FM) : dIn (.str c) (fD F).d = some (.bl (decide (F.lookup c ≠ none))) := by
  show dIn (.str c) (.dct ((fk F).map .inr) _) = _
  rw [dIn_d]
  congr 2
  rw [decide_eq_decide, ne_eq, lookup_none, Classical.not_not]
theorem C2_ok (s : Nat) (F : FM) (ch : D) (b : Str) : C2__law_way (.tup (bars.map .str)) (.int ((s : Int) + 1)) (fD F, ch) (.str b) = some (if (decide (F.lookup b = some s) && decide (b ∉ bars)) = true then some (D.str b) else none) := by
  unfold C2__law_way
  rw [dIn_f, Option.bind_some, asB_bl, Option.bind_some]
  cases e : F.lookup b with
  | none => simp [cond]
  | some n =>
    rw [decide_eq_true (by simp)]
    show (((dIx (fD F).d (.str b)).bind fun t18 => (dSub (.int ((s : Int) + 1)) (.int 1)).bind fun t19 => _).bind _) = _
    rw [dIx_f, e, Option.map_some, Option.bind_some]
    show (((some (D.int ((s : Int) + 1 - 1))).bind fun t19 => (dEq (.int (n : Int)) t19).bind fun t20 => _).bind _) = _
    rw [Option.bind_some, dEq_int, Option.bind_some, asB_bl, Option.bind_some]
    by_cases h : n = s
    · rw [decide_eq_true (by omega), decide_eq_true (by rw [h])]
      show ((((dNotIn (.str b) (.tup (bars.map .str))).bind fun t22 => (asB t22).bind fun t23 => some t23).bind _).bind _) = _
      rw [dNotIn_t, Option.bind_some, asB_bl, ← decide_not]
      cases decide (b ∉ bars) <;> rfl
    · rw [decide_eq_false (by omega), decide_eq_false (fun z => h (Option.some.inj z))]
      rfl
theorem fD_F1 (hL : LOk L) (s : Nat) (F : FM) (ch : Bool) (c : Str) (hc : c ∈ keys L) (hl : F.length < 1000) :
    F1__law_way (.tup (bars.map .str)) (tabD L) (.int ((s : Int) + 1)) (.str c) (fD F, .bl ch) = some (if cnd L bars s F c = true then (fD (F ++ [(c, s + 1)]), .bl true) else (fD F, .bl ch)) := by
  obtain ⟨bs, ebs⟩ := bo_key hc
  have hbl := hL.blen ebs
  unfold F1__law_way
  rw [dNotIn_f, Option.bind_some, asB_bl, Option.bind_some]
  unfold cnd
  rw [ebs]
  by_cases h : F.lookup c = none
  · rw [decide_eq_true h, Bool.true_and]
    show (((dIx (.dct (dctKs L) (dctDs L)) (.str c)).bind fun t14 => _).bind _) = _
    rw [dIx_lad, ebs, Option.map_some, Option.bind_some]
    show (((some (bs.map D.str)).bind fun t15 => _).bind _) = _
    rw [Option.bind_some, lcP_map (p := fun b => decide (F.lookup b = some s) && decide (b ∉ bars)) (g := D.str) fun b _ => C2_ok s F (.bl ch) b, Option.bind_some]
    have lf := List.length_filter_le (fun b => decide (F.lookup b = some s) && decide (b ∉ bars)) bs
    rw [szG_ok (by rw [List.length_map]; omega), Option.bind_some]
    show (((some (D.int ((bs.filter fun b => decide (F.lookup b = some s) && decide (b ∉ bars)).map D.str).length)).bind fun t28 => _).bind _) = _
    rw [Option.bind_some]
    show (((some (D.bl (decide ((0 : Int) < ((bs.filter fun b => decide (F.lookup b = some s) && decide (b ∉ bars)).map D.str).length)))).bind fun t29 => _).bind _) = _
    rw [Option.bind_some, asB_bl, Option.bind_some, Option.bind_some, List.length_map]
    have e : decide ((0 : Int) < (bs.filter fun b => decide (F.lookup b = some s) && decide (b ∉ bars)).length) = bs.any fun b => decide (F.lookup b = some s) && decide (b ∉ bars) := by
      rw [← any_filter]
      congr 1
      exact propext ⟨fun z => by omega, fun z => by omega⟩
    rw [e]
    show _ = some (if (bs.any fun b => decide (F.lookup b = some s) && decide (b ∉ bars)) = true then _ else _)
    cases bs.any fun b => decide (F.lookup b = some s) && decide (b ∉ bars) with
    | false => rfl
    | true =>
      show ((setO (fD F) (.str c) (.int ((s : Int) + 1))).bind fun t32 => some (t32, D.bl true)) = _
      rw [show ((s : Int) + 1) = ((s + 1 : Nat) : Int) by omega, setO_f (lookup_none.mp h) (by omega)]
      rfl
  · rw [decide_eq_false h]
    rfl
theorem pass_ok (hL : LOk L) (s : Nat) (F : FM) (hl : F.length ≤ 5) : ∀ (cs ex : List Str) (ch : Bool), (ex ++ cs).Nodup → (∀ c ∈ cs, c ∈ keys L) → (∀ c ∈ ex, F.lookup c = none) → ex.length + cs.length ≤ 5 →
    forN (F1__law_way (.tup (bars.map .str)) (tabD L) (.int ((s : Int) + 1))) (cs.map .str) (fD (F ++ ex.map fun c => (c, s + 1)), .bl ch) = some (fD (F ++ (ex ++ cs.filter (cnd L bars s F)).map fun c => (c, s + 1)), .bl (ch || cs.any (cnd L bars s F)))
  | [], ex, ch, _, _, _, _ => by simp [forN]
  | c :: cs, ex, ch, nd, hk, hx, hl2 => by
    have hcx : c ∉ ex := fun z => (List.nodup_append.mp nd).2.2 c z c List.mem_cons_self rfl
    have e1 : cnd L bars s (F ++ ex.map fun c => (c, s + 1)) c = cnd L bars s F c := by
      unfold cnd
      congr 1
      · rw [lookup_app, lookup_const, if_neg hcx, Option.or_none]
      · congr 1
        funext b
        congr 1
        rw [decide_eq_decide, lookup_app, lookup_const]
        cases e : F.lookup b with
        | some m => rfl
        | none =>
          show (if b ∈ ex then some (s + 1) else none) = some s ↔ none = some s
          split
          · constructor
            · intro z; have := Option.some.inj z; omega
            · intro z; cases z
          · rfl
    show ((F1__law_way _ _ _ (.str c) (fD (F ++ ex.map fun c => (c, s + 1)), .bl ch)).bind fun s' => forN _ (cs.map .str) s') = _
    have l1 : ex.length + (cs.length + 1) ≤ 5 := hl2
    rw [fD_F1 hL s _ ch c (hk c List.mem_cons_self) (by rw [List.length_append, List.length_map]; omega), e1, Option.bind_some]
    by_cases h : cnd L bars s F c = true
    · rw [if_pos h]
      have e2 : F ++ ex.map (fun c => (c, s + 1)) ++ [(c, s + 1)] = F ++ (ex ++ [c]).map fun c => (c, s + 1) := by simp
      rw [e2, pass_ok hL s F hl cs (ex ++ [c]) true (by rw [List.append_assoc]; exact nd) (fun x hx => hk x (List.mem_cons_of_mem _ hx)) (fun x hx' => by
        rcases List.mem_append.mp hx' with z | z
        · exact hx x z
        · rw [List.mem_singleton.mp z]; exact (cnd_iff.mp h).1) (by rw [List.length_append]; show ex.length + 1 + cs.length ≤ 5; omega), List.filter_cons_of_pos h, List.any_cons, h]
      simp
    · rw [if_neg h, pass_ok hL s F hl cs ex ch (nd.sublist (List.Sublist.append_left (List.sublist_cons_self c cs) ex)) (fun x hx => hk x (List.mem_cons_of_mem _ hx)) hx (by omega), List.filter_cons_of_neg h, List.any_cons]
      simp [h]
theorem rounds_ok (hL : LOk L) : ∀ (n s : Nat) (F : FM), FI L bars aim s F → s ≤ F.length → L.length - F.length < n →
    ∃ F' S j, (∀ c m, F'.lookup c = some m ↔ Dst (nbL L bars) (gl L aim) c m) ∧ (∀ c m, F'.lookup c = some m → m ≤ 5) ∧ whN F2__law_way (F3__law_way (.tup (bars.map .str)) (tabD L)) j (fD F, .bl true, .int (s : Int)) = some (fD F', .bl false, S)
  | 0, s, F, _, _, h => by omega
  | n + 1, s, F, I, hs, h => by
    obtain ⟨l1, l2⟩ := I.len hL
    have hF3 : F3__law_way (.tup (bars.map .str)) (tabD L) (fD F, .bl true, .int (s : Int)) = some (fD (F ++ ((keys L).filter (cnd L bars s F)).map fun c => (c, s + 1)), .bl ((keys L).any (cnd L bars s F)), .int ((s + 1 : Nat) : Int)) := by
      unfold F3__law_way
      show ((some (D.int ((s : Int) + 1))).bind _) = _
      rw [Option.bind_some]
      show ((some (((keys L).map Sum.inr).map D.ofK)).bind _) = _
      rw [Option.bind_some, List.map_map]
      have := pass_ok (bars := bars) hL s F l2 (keys L) [] false (by simpa using hL.nd) (fun _ h => h) (fun _ h => by cases h) (by rw [keys_len]; exact (by have := hL.len; simpa using this))
      simp only [List.map_nil, List.append_nil, List.nil_append, Bool.false_or] at this
      show ((forN (F1__law_way (.tup (bars.map .str)) (tabD L) (.int ((s : Int) + 1))) ((keys L).map D.str) (fD F, .bl false)).bind _) = _
      rw [this]
      rfl
    have I' := I.round hL
    by_cases q : (keys L).any (cnd L bars s F) = true
    · have lp : 0 < ((keys L).filter (cnd L bars s F)).length := of_decide_eq_true ((any_filter _ _).trans q)
      obtain ⟨F', S, j, h1, h2, h3⟩ := rounds_ok hL n (s + 1) _ I' (by rw [List.length_append, List.length_map]; omega) (by
        have := (I'.len hL).1
        rw [List.length_append, List.length_map] at this ⊢
        omega)
      refine ⟨F', S, j + 1, h1, h2, ?_⟩
      unfold whN
      show ((some true).bind fun q => cond q ((F3__law_way _ _ _).bind fun s' => whN _ _ j s') (some _)) = _
      rw [Option.bind_some]
      show ((F3__law_way _ _ _).bind fun s' => whN _ _ j s') = _
      rw [hF3, Option.bind_some, q]
      exact h3
    · have q' : (keys L).any (cnd L bars s F) = false := by simpa using q
      have e0 : (keys L).filter (cnd L bars s F) = [] := by
        rw [List.filter_eq_nil_iff]
        intro c hc
        rw [List.any_eq_false] at q'
        exact q' c hc
      rw [e0, List.map_nil, List.append_nil] at I'
      have gap : ∀ c, ¬ Dst (nbL L bars) (gl L aim) c (s + 1) := fun c d => by
        have h1 := (I'.iff c (s + 1)).mpr ⟨d, Nat.le_refl _⟩
        have h2 := ((I.iff c (s + 1)).mp h1).2
        omega
      refine ⟨F, .int ((s + 1 : Nat) : Int), 2, fun c m => ?_, fun c m hm => ?_, ?_⟩
      · rw [I.iff]
        constructor
        · intro z; exact z.1
        · intro d
          refine ⟨d, ?_⟩
          rcases Nat.lt_or_ge s m with z | z
          · exact absurd d (dst_gap gap m c z)
          · exact z
      · have := ((I.iff c m).mp hm).2
        omega
      · unfold whN
        show ((some true).bind fun q => cond q ((F3__law_way _ _ _).bind fun s' => whN _ _ 1 s') (some _)) = _
        rw [Option.bind_some]
        show ((F3__law_way _ _ _).bind fun s' => whN _ _ 1 s') = _
        rw [hF3, Option.bind_some, q', e0, List.map_nil, List.append_nil]
        rfl
end
end DL

set_option Elab.async false
set_option linter.all false
set_option maxRecDepth 100000
set_option maxHeartbeats 1000000
namespace DL
open PySem PySem.Spec PyProof.Rows L2
section
variable {L : List Row} {bars : List Str} {aim : Str}
theorem pairsOf_f (m : Nat) : ∀ cs : List Str, pairsOf (cs.map fun c => D.tup [.str c, .int (m : Int)]) = some (cs.map fun c => ((Sum.inr c : Key), D.int (m : Int)))
  | [] => rfl
  | c :: cs => by
    show (some (Sum.inr c)).bind (fun k => (pairsOf (cs.map fun c => D.tup [.str c, .int (m : Int)])).map ((k, D.int (m : Int)) :: ·)) = _
    rw [pairsOf_f m cs]
    rfl
theorem dDict_f (m : Nat) {cs : List Str} (h : cs.Nodup) : dDict (.lst (cs.map fun c => D.tup [.str c, .int (m : Int)])) = some (fD (cs.map fun c => (c, m))) := by
  show (pairsOf (cs.map fun c => D.tup [.str c, .int (m : Int)])).map (fun qs => Ow.dct (mergeD [] [] qs).1 (mergeD [] [] qs).2) = _
  rw [pairsOf_f, Option.map_some, mergeD_nodup]
  · unfold fD fk
    simp [List.map_map, Function.comp_def]
  · rw [List.nil_append, List.map_map]
    show (cs.map fun c => (Sum.inr c : Key)).Nodup
    exact List.Pairwise.map _ (fun a b h z => h (Sum.inr.inj z)) h
theorem strL_map : ∀ xs : List Str, strL (xs.map .str) = some xs
  | [] => rfl
  | x :: xs => by
    show (strL (xs.map .str)).map (x :: ·) = _
    rw [strL_map xs]
    rfl
theorem dMin1_strs (x : Str) (xs : List Str) : ∃ m ∈ x :: xs, (∀ y ∈ x :: xs, leS m y = true) ∧ dMin1 (.lst ((x :: xs).map .str)) = some (.str m) := by
  obtain ⟨h1, h2⟩ := fold_best (b := leS) leS_total (fun x y z => leS_trans) xs x
  refine ⟨_, h1, h2, ?_⟩
  show (match intsOf (D.str x :: xs.map .str) with
    | some ns => (ns.min?).map D.int
    | none => match strL ((x :: xs).map .str) with
      | some (x :: xs) => some (.str (minS x xs))
      | _ => none) = _
  rw [strL_map]
  rfl
theorem C3_ok (F : FM) (ch S : D) (w : Ow) (c : Str) (n : Nat) (hc : F.lookup c = some (n + 1)) (b : Str) :
    C3__law_way (.tup (bars.map .str)) (fD F, ch, S) (w, .str c) (.str b) = some (if (decide (F.lookup b = some n) && decide (b ∉ bars)) = true then some (D.str b) else none) := by
  unfold C3__law_way
  rw [dIn_f, Option.bind_some, asB_bl, Option.bind_some]
  cases e : F.lookup b with
  | none => simp [cond]
  | some m =>
    rw [decide_eq_true (by simp)]
    show (((dNotIn (.str b) (.tup (bars.map .str))).bind fun t41 => _).bind _) = _
    rw [dNotIn_t, Option.bind_some, asB_bl, Option.bind_some, ← decide_not]
    by_cases h : b ∉ bars
    · rw [decide_eq_true h]
      show ((((dIx (fD F).d (.str b)).bind fun t44 => _).bind _).bind _) = _
      rw [dIx_f, e, Option.map_some, Option.bind_some]
      show ((((dIx (fD F).d (.str c)).bind fun t45 => _).bind _).bind _) = _
      rw [dIx_f, hc, Option.map_some, Option.bind_some]
      show ((((some (D.int (((n + 1 : Nat) : Int) - 1))).bind fun t46 => (dEq (.int (m : Int)) t46).bind fun t47 => _).bind _).bind _) = _
      rw [Option.bind_some, dEq_int, Option.bind_some, asB_bl]
      by_cases q : m = n
      · rw [decide_eq_true (by omega), decide_eq_true (by rw [q])]; rfl
      · rw [decide_eq_false (by omega), decide_eq_false (fun z => q (Option.some.inj z))]; rfl
    · rw [decide_eq_false h]
      cases decide (some m = some n) <;> rfl
theorem greedy_ok (hL : LOk L) {F : FM} {ch S : D} (hF : ∀ c m, F.lookup c = some m ↔ Dst (nbL L bars) (gl L aim) c m) : ∀ (n : Nat) (c : Str) (u : List Str), Dst (nbL L bars) (gl L aim) c n → u.length + n < 1000 →
    ∃ ws j hd, Best (nbL L bars) (gl L aim) c ws ∧ whN (F4__law_way (fD F, ch, S)) (F5__law_way (.tup (bars.map .str)) (tabD L) (fD F, ch, S)) j (.lst (u.map .str), .str c) = some (.lst ((u ++ ws).map .str), hd)
  | 0, c, u, d, _ => by
    refine ⟨[], 1, .str c, best_nil d.of_zero, ?_⟩
    unfold whN F4__law_way
    show (((dIx (fD F).d (.str c)).bind fun t35 => _).bind _) = _
    rw [dIx_f, (hF c 0).mpr d]
    simp
  | n + 1, c, u, d, hu => by
    have ec := (hF c (n + 1)).mpr d
    obtain ⟨bs, ebs⟩ := bo_key (dst_key d)
    have hbl := hL.blen ebs
    have hT : F4__law_way (fD F, ch, S) (.lst (u.map .str), .str c) = some true := by
      unfold F4__law_way
      show ((dIx (fD F).d (.str c)).bind fun t35 => _) = _
      rw [dIx_f, ec, Option.map_some, Option.bind_some]
      show ((some (D.bl (decide ((0 : Int) < ((n + 1 : Nat) : Int))))).bind _) = _
      rw [Option.bind_some, asB_bl, decide_eq_true (by omega)]
      rfl
    have mem : ∀ b, b ∈ bs.filter (fun b => decide (F.lookup b = some n) && decide (b ∉ bars)) ↔ b ∈ nbL L bars c ∧ Dst (nbL L bars) (gl L aim) b n := fun b => by
      rw [List.mem_filter, Bool.and_eq_true, decide_eq_true_eq, decide_eq_true_eq, hF, nbL_mem]
      constructor
      · rintro ⟨h1, h2, h3⟩
        exact ⟨⟨bs, ebs, h1, fun z => hL.ne (z ▸ dst_key h2), h3⟩, h2⟩
      · rintro ⟨⟨bs', e', h1, h2, h3⟩, h4⟩
        rw [ebs] at e'
        cases e'
        exact ⟨h1, h4, h3⟩
    obtain ⟨b0, hb0, db0⟩ := d.down
    have lf := List.length_filter_le (fun b => decide (F.lookup b = some n) && decide (b ∉ bars)) bs
    cases hl : bs.filter (fun b => decide (F.lookup b = some n) && decide (b ∉ bars)) with
    | nil =>
      have := (mem b0).mpr ⟨hb0, db0⟩
      rw [hl] at this
      cases this
    | cons x xs =>
      obtain ⟨m, hm, hle, em⟩ := dMin1_strs x xs
      rw [← hl] at hm
      obtain ⟨m1, m2⟩ := (mem m).mp hm
      obtain ⟨ws, j, hd, h1, h2⟩ := greedy_ok hL hF n m (u ++ [m]) m2 (by rw [List.length_append]; show u.length + 1 + n < 1000; omega)
      refine ⟨m :: ws, j + 1, hd, best_cons d m1 m2 (fun b hb db => hle b (by rw [← hl]; exact (mem b).mpr ⟨hb, db⟩)) h1, ?_⟩
      unfold whN
      rw [hT, Option.bind_some]
      show ((F5__law_way _ _ _ _).bind fun s' => whN _ _ j s') = _
      have hB : F5__law_way (.tup (bars.map .str)) (tabD L) (fD F, ch, S) (.lst (u.map .str), .str c) = some (.lst ((u ++ [m]).map .str), .str m) := by
        unfold F5__law_way
        show ((dIx (.dct (dctKs L) (dctDs L)) (.str c)).bind _) = _
        rw [dIx_lad, ebs, Option.map_some, Option.bind_some]
        show ((some (bs.map D.str)).bind _) = _
        rw [Option.bind_some, lcP_map (p := fun b => decide (F.lookup b = some n) && decide (b ∉ bars)) (g := D.str) fun b _ => C3_ok F ch S _ c n ec b, Option.bind_some,
          szG_ok (by rw [List.length_map]; omega), Option.bind_some, hl]
        show ((dMin1 (.lst ((x :: xs).map .str))).bind _) = _
        rw [em, Option.bind_some]
        show ((Option.map _ (if (u.map D.str).length < 16777216 then some (D.non, u.map D.str ++ [.str m]) else none)).bind _) = _
        rw [if_pos (by rw [List.length_map]; omega)]
        simp
      rw [hB, Option.bind_some, h2]
      simp
/-- the law's own way -/
theorem law_way_ok (hL : LOk L) {k : Str} (hk : k ∈ keys L) (aim : Str) (bars : List Str) : ∃ d, SW L k aim bars d ∧ F__law_way (ladD L) (.str k) (.str aim) (.tup (bars.map .str)) = some d := by
  unfold F__law_way
  rw [dDict_lad hL.nd, Option.bind_some]
  show ∃ d, SW L k aim bars d ∧ ((some (((keys L).map Sum.inr).map D.ofK)).bind _) = some d
  rw [Option.bind_some, List.map_map]
  have hC : ∀ c ∈ keys L, C1__law_way (.str aim) (.dct (dctKs L) (dctDs L)) (.str c) = some (if glB L aim c = true then some (D.tup [.str c, .int ((0 : Nat) : Int)]) else none) := fun c hc => by
    obtain ⟨bs, e⟩ := bo_key hc
    unfold C1__law_way
    show ((dIx (.dct (dctKs L) (dctDs L)) (.str c)).bind _) = _
    rw [dIx_lad, e, Option.map_some, Option.bind_some]
    show ((dIn (.str aim) (.tup (bs.map .str))).bind _) = _
    rw [dIn_t, Option.bind_some, asB_bl, Option.bind_some]
    unfold glB
    rw [e]
    show _ = some (if decide (aim ∈ bs) = true then _ else _)
    cases decide (aim ∈ bs) <;> rfl
  have e6 := lcP_map (e := D.str) (p := glB L aim) (g := fun c => D.tup [.str c, .int ((0 : Nat) : Int)]) hC
  show ∃ d, SW L k aim bars d ∧ ((lcP (C1__law_way (.str aim) (.dct (dctKs L) (dctDs L))) ((keys L).map D.str)).bind _) = some d
  rw [e6, Option.bind_some]
  have lf := List.length_filter_le (glB L aim) (keys L)
  rw [keys_len] at lf
  have l5 := hL.len
  rw [szG_ok (by rw [List.length_map]; omega), Option.bind_some]
  have e8 : dDict (Ow.lst (((keys L).filter (glB L aim)).map fun c => D.tup [.str c, .int ((0 : Nat) : Int)])).d = _ := dDict_f 0 (hL.nd.filter _)
  rw [e8, Option.bind_some]
  have I : FI L bars aim 0 (((keys L).filter (glB L aim)).map fun c => (c, 0)) := by
    refine ⟨fun c n => ?_, ?_, fun c hc => ?_⟩
    · rw [lookup_const]
      by_cases q : c ∈ (keys L).filter (glB L aim)
      · rw [if_pos q]
        have := Dst.zero (nb := nbL L bars) (glB_iff.mp (List.mem_filter.mp q).2)
        constructor
        · intro z; cases z; exact ⟨this, Nat.le_refl _⟩
        · intro z; rw [this.one z.1]
      · rw [if_neg q]
        constructor
        · intro z; cases z
        · rintro ⟨z, z2⟩
          have : n = 0 := by omega
          subst this
          exact absurd (List.mem_filter.mpr ⟨dst_key z, glB_iff.mpr z.of_zero⟩) q
    · unfold fk
      rw [List.map_map]
      show (((keys L).filter (glB L aim)).map fun c => c).Nodup
      rw [List.map_id']
      exact hL.nd.filter _
    · unfold fk at hc
      rw [List.map_map] at hc
      obtain ⟨c', hc', rfl⟩ := List.mem_map.mp hc
      exact (List.mem_filter.mp hc').1
  obtain ⟨F, S, j, hF, hF5, hj⟩ := rounds_ok hL (L.length + 1) 0 _ I (Nat.zero_le _) (by omega)
  have hj2 := whC_of hj
  show ∃ d, SW L k aim bars d ∧ ((whC F2__law_way (F3__law_way (.tup (bars.map .str)) (tabD L)) (fD _, .bl true, .int ((0 : Nat) : Int))).bind _) = some d
  rw [hj2, Option.bind_some, dNotIn_f, Option.bind_some, asB_bl, Option.bind_some]
  cases e : F.lookup k with
  | none =>
    rw [decide_eq_true rfl]
    refine ⟨.non, .inr ⟨fun us hu => ?_, rfl⟩, rfl⟩
    obtain ⟨n, _, d⟩ := way_dst hu
    rw [(hF k n).mpr d] at e
    cases e
  | some n =>
    rw [decide_eq_false (by simp)]
    obtain ⟨ws, j2, hd, b, h2⟩ := greedy_ok (ch := .bl false) (S := S) hL hF n k [] ((hF k n).mp e) (by have := hF5 k n e; show 0 + n < 1000; omega)
    refine ⟨stD ws, .inl ⟨ws, b, rfl⟩, ?_⟩
    show ((whC (F4__law_way (fD F, .bl false, S)) (F5__law_way (.tup (bars.map .str)) (tabD L) (fD F, .bl false, S)) (.lst (([] : List Str).map .str), .str k)).bind _) = _
    rw [whC_of h2]
    rfl
/-- both tell the same -/
theorem same_way (hL : LOk L) {k : Str} (hk : k ∈ keys L) (aim : Str) (bars : List Str) : ∃ d, SW L k aim bars d ∧ F_short_way (ladD L) (.str k) (.str aim) (.tup (bars.map .str)) = some d ∧ F__law_way (ladD L) (.str k) (.str aim) (.tup (bars.map .str)) = some d ∧ F_has_way (ladD L) (.str k) (.str aim) (.tup (bars.map .str)) = some (.bl (!d.isNon)) := by
  obtain ⟨d, h1, e1⟩ := short_way_ok hL hk aim bars
  obtain ⟨d', h2, e2⟩ := law_way_ok hL hk aim bars
  rw [← h1.one h2] at e2
  exact ⟨d, h1, e1, e2, has_way_ok e1⟩
end
end DL

set_option Elab.async false
set_option linter.all false
set_option maxRecDepth 100000
set_option maxHeartbeats 1000000
namespace DL
open PySem PySem.Spec PyProof.Rows L2
/-! ### loops told by what holds -/
theorem forN_idx {σ : Type} {step : D → σ → Option σ} {ds : List D} (I : Nat → σ → Prop) (h : ∀ k d s, ds[k]? = some d → I k s → ∃ s', step d s = some s' ∧ I (k + 1) s') :
    ∀ (n : Nat) (s : σ), n ≤ ds.length → I n s → ∃ s', forN step (ds.drop n) s = some s' ∧ I ds.length s' := by
  intro n
  generalize hm : ds.length - n = m
  induction m generalizing n with
  | zero =>
    intro s hn hI
    have : n = ds.length := by omega
    subst this
    exact ⟨s, by rw [List.drop_length]; rfl, hI⟩
  | succ m ih =>
    intro s hn hI
    have hlt : n < ds.length := by omega
    obtain ⟨s', e, I'⟩ := h n ds[n] s (List.getElem?_eq_getElem hlt) hI
    obtain ⟨s2, e2, I2⟩ := ih (n + 1) (by omega) s' (by omega) I'
    refine ⟨s2, ?_, I2⟩
    rw [List.drop_eq_getElem_cons hlt]
    show (step ds[n] s).bind (fun s' => forN step (ds.drop (n + 1)) s') = _
    rw [e, Option.bind_some, e2]
theorem forN_rng {σ : Type} {step : D → σ → Option σ} {n : Nat} (I : Nat → σ → Prop) (h : ∀ (k : Nat) s, k < n → I k s → ∃ s', step (.int (k : Int)) s = some s' ∧ I (k + 1) s') {s : σ} (h0 : I 0 s) : ∃ s', forN step (rngD 0 n) s = some s' ∧ I n s' := by
  obtain ⟨s', e, i⟩ := forN_idx (step := step) (ds := rngD 0 n) I (fun k d s hk hI => by
    obtain ⟨h1, rfl⟩ := rngD_get hk
    rw [Int.zero_add]
    exact h k s h1 hI) 0 s (Nat.zero_le _) h0
  rw [rngD_len] at i
  exact ⟨s', e, i⟩
theorem rng1_nat {n : Nat} (h : n < 1000000) : rng1 [.int (n : Int)] = some (rngD 0 n) := by
  show (if inR (n : Int) = true then some (rngD 0 (n : Int).toNat) else none) = _
  rw [if_pos (by unfold inR; rw [Bool.and_eq_true, decide_eq_true_eq, decide_eq_true_eq]; omega)]
  rfl
/-! ### what draws are taken from -/
def FtOk (o : Ow) : Prop := ∃ a b c : Int, o = .lst [.int a, .int b, .int c] ∧ 0 ≤ b ∧ b < 2147483423
theorem mulF {a b : Int} (h0 : 0 ≤ a) (h1 : a < 2147483423) (h2 : b.natAbs.log2 ≤ 100) : dMul (.int a) (.int b) = some (.int (a * b)) :=
  dMul_ok (Nat.le_trans (log_small (n := 31) (by omega) (by omega)) (by decide)) (by omega)
theorem dip_ok {o : Ow} {many spot : Nat} (h : FtOk o) (hm : 0 < many) (hm2 : many < 1000) (hs : spot < 1000) : ∃ v o', F__law_dip o (.int (many : Int)) (.int (spot : Int)) = some (.int ((v : Nat) : Int), o') ∧ v < many ∧ FtOk o' := by
  obtain ⟨a, b, c, rfl, hb, hb2⟩ := h
  have lm : ((many : Int)).natAbs.log2 ≤ 1000 := Nat.le_trans (log_small (n := 10) (by omega) (by omega)) (by decide)
  have md : ∀ x : Int, ∃ v : Nat, x % (many : Int) = (v : Int) ∧ v < many := fun x => by
    have h1 := Int.emod_nonneg x (b := (many : Int)) (by omega)
    have h2 := Int.emod_lt_of_pos x (b := (many : Int)) (by omega)
    exact ⟨(x % (many : Int)).toNat, by omega, by omega⟩
  have i0 : ∀ x y z : Int, dIx (Ow.lst [D.int x, .int y, .int z]).d (.int 0) = some (D.int x) := fun _ _ _ => dAt0
  have i1 : ∀ x y z : Int, dIx (Ow.lst [D.int x, .int y, .int z]).d (.int 1) = some (D.int y) := fun _ _ _ => dAt1
  have i2 : ∀ x y z : Int, dIx (Ow.lst [D.int x, .int y, .int z]).d (.int 2) = some (D.int z) := fun _ _ _ => dAt2
  have s0 : ∀ x y z w : Int, setO (Ow.lst [D.int x, .int y, .int z]) (.int 0) (.int w) = some (.lst [.int w, .int y, .int z]) := fun _ _ _ _ => rfl
  have s1 : ∀ x y z w : Int, setO (Ow.lst [D.int x, .int y, .int z]) (.int 1) (.int w) = some (.lst [.int x, .int w, .int z]) := fun _ _ _ _ => rfl
  unfold F__law_dip
  rw [i0, Option.bind_some, dGt_ii, Option.bind_some, asB_bl, Option.bind_some]
  cases decide (0 < a) with
  | true =>
    rw [cond_true, Option.bind_some, dInt_i, Option.bind_some, dMod_ok (by omega), Option.bind_some, Option.bind_some, dFdiv_ok (by omega) lm, Option.bind_some, s0, Option.bind_some]
    obtain ⟨v, e, hv⟩ := md a
    rw [e]
    exact ⟨v, .lst [.int (a / many), .int b, .int c], rfl, hv, _, _, _, rfl, hb, hb2⟩
  | false =>
    rw [cond_false, i1, Option.bind_some, mulF hb hb2 (by decide), Option.bind_some, dAdd_ii, Option.bind_some, dInt_i, Option.bind_some, dMod_ok (by decide), Option.bind_some, s1, Option.bind_some]
    generalize hx : (b * 42611 + 3079) % 2147483423 = x
    have hx0 : 0 ≤ x := by omega
    have hx1 : x < 2147483423 := by omega
    rw [show dTru (.int (spot : Int)) = some ((spot : Int) != 0) from rfl, Option.bind_some]
    have hab : ∃ y : Int, (cond ((spot : Int) != 0) ((dIx (Ow.lst [.int a, .int x, .int c]).d (.int 2)).bind fun t17 => (dMul (.int 2) (.int (spot : Int))).bind fun t18 => (dAdd t18 (.int 1)).bind fun t19 => (dFdiv t17 t19).bind fun t20 => (dAdd t20 (.int (spot : Int))).bind fun t21 => (dInt t21).bind fun t22 => (dMod t22 (.int 11)).bind fun t23 => some t23) (some (.int 10)) : Option D) = some (.int y) := by
      cases ((spot : Int) != 0) with
      | false => exact ⟨10, rfl⟩
      | true =>
        refine ⟨(c / (2 * (spot : Int) + 1) + (spot : Int)) % 11, ?_⟩
        rw [cond_true, i2, Option.bind_some, mulF (by decide) (by decide) (Nat.le_trans (log_small (n := 10) (by omega) (by omega)) (by decide)), Option.bind_some, dAdd_ii, Option.bind_some,
          dFdiv_ok (by omega) (Nat.le_trans (log_small (n := 11) (by omega) (by omega)) (by decide)), Option.bind_some, dAdd_ii, Option.bind_some, dInt_i, Option.bind_some, dMod_ok (by decide)]
        rfl
    obtain ⟨y, ey⟩ := hab
    rw [ey, Option.bind_some, dEq_ii, Option.bind_some, asB_bl, Option.bind_some]
    have ok : FtOk (.lst [.int a, .int x, .int c]) := ⟨a, x, c, rfl, hx0, hx1⟩
    cases (y == 0) with
    | true => exact ⟨0, _, rfl, hm, ok⟩
    | false =>
      rw [cond_false, dEq_ii, Option.bind_some, asB_bl, Option.bind_some]
      cases (y == 1) with
      | true =>
        refine ⟨many - 1, _, ?_, by omega, ok⟩
        rw [show ((many - 1 : Nat) : Int) = (many : Int) - 1 by omega]
        rfl
      | false =>
        rw [cond_false, dEq_ii, Option.bind_some, asB_bl, Option.bind_some]
        cases (y == 2) with
        | true =>
          obtain ⟨v, e, hv⟩ := md c
          refine ⟨v, _, ?_, hv, ok⟩
          rw [cond_true, i2, Option.bind_some, dInt_i, Option.bind_some, dMod_ok (by omega), Option.bind_some, e]
        | false =>
          obtain ⟨v, e, hv⟩ := md (x / 4079)
          refine ⟨v, _, ?_, hv, ok⟩
          rw [cond_false, i1, Option.bind_some, dFdiv_ok (by decide) (by decide), Option.bind_some, dInt_i, Option.bind_some, dMod_ok (by omega), Option.bind_some, e]
theorem fount_ok (ns : List Int) : ∃ o, F__law_fount (.scr (ns.map .int)) = some o ∧ FtOk o := by
  have hcut : ∃ ms : List Int, dSlL (.scr (ns.map .int)) none (some 63) = some (.lst (ms.map .int)) := by
    refine ⟨(ns.drop (HT.sIx (ns.map D.int).length 0 none)).take (HT.sIx (ns.map D.int).length (ns.map D.int).length (some 63) - HT.sIx (ns.map D.int).length 0 none), ?_⟩
    show some (Ow.lst (cutD (ns.map .int) none (some 63))) = _
    unfold cutD
    rw [List.map_take, List.map_drop]
  obtain ⟨ms, ec⟩ := hcut
  unfold F__law_fount
  show ∃ o, ((some (some (63 : Int))).bind fun t1 => (dSlL (.scr (ns.map .int)) none t1).bind _) = some o ∧ FtOk o
  rw [Option.bind_some, ec, Option.bind_some]
  show ∃ o, ((some (ms.map D.int)).bind _) = some o ∧ FtOk o
  rw [Option.bind_some]
  have loop : ∀ (ms : List Int) (x y : Int), 0 ≤ y → y < 2147483423 → ∃ x' y', forN F1__law_fount (ms.map D.int) (.int x, .int y) = some (.int x', .int y') ∧ 0 ≤ y' ∧ y' < 2147483423 := by
    intro ms
    induction ms with
    | nil => intro x y h1 h2; exact ⟨x, y, rfl, h1, h2⟩
    | cons m ms ih =>
      intro x y h1 h2
      have step : ∃ x2, F1__law_fount (.int m) (.int x, .int y) = some (.int x2, .int ((y * 47303 + (if m < 0 then -m else m) % (1 * 2 ^ 1500) % 999983 + 13) % 2147483423)) := by
        unfold F1__law_fount
        rw [dInt_i, Option.bind_some, dAbs_i, Option.bind_some]
        show ∃ x2, ((some (D.int (1 * 2 ^ 1500))).bind _) = _
        have p0 : (0 : Int) < 1 * 2 ^ 1500 := by
          have : (0 : Int) < 2 ^ 1500 := Int.pow_pos (by decide)
          omega
        rw [Option.bind_some, dMod_ok p0, Option.bind_some, mulF h1 h2 (by decide), Option.bind_some, dMod_ok (by decide), Option.bind_some, dAdd_ii, Option.bind_some, dAdd_ii, Option.bind_some, dInt_i, Option.bind_some, dMod_ok (by decide), Option.bind_some, pow18, Option.bind_some, dGe_ii, Option.bind_some, asB_bl, Option.bind_some]
        generalize decide ((1000000000000000000 : Int) ≤ (if m < 0 then -m else m) % (1 * 2 ^ 1500)) = q
        cases q with
        | true => exact ⟨_, rfl⟩
        | false => exact ⟨_, rfl⟩
      obtain ⟨x2, e2⟩ := step
      obtain ⟨x', y', e3, g1, g2⟩ := ih x2 ((y * 47303 + (if m < 0 then -m else m) % (1 * 2 ^ 1500) % 999983 + 13) % 2147483423) (Int.emod_nonneg _ (by decide)) (Int.emod_lt_of_pos _ (by decide))
      refine ⟨x', y', ?_, g1, g2⟩
      show ((F1__law_fount (.int m) (.int x, .int y)).bind fun s' => forN F1__law_fount (ms.map D.int) s') = _
      rw [e2, Option.bind_some, e3]
  obtain ⟨x', y', e, g1, g2⟩ := loop ms 0 40169 (by decide) (by decide)
  rw [e, Option.bind_some]
  show ∃ o, ((dFdiv (.int y') (.int 11)).bind _) = some o ∧ FtOk o
  rw [dFdiv_ok (by decide) (by decide), Option.bind_some, dInt_i, Option.bind_some, dMod_ok (by decide), Option.bind_some]
  exact ⟨_, rfl, _, _, _, rfl, g1, g2⟩
/-! ### stirred -/
theorem map_erase {α β : Type} (f : α → β) : ∀ (l : List α) (i : Nat), (l.map f).eraseIdx i = (l.eraseIdx i).map f
  | [], _ => rfl
  | _ :: _, 0 => rfl
  | x :: l, i + 1 => by
    show f x :: (l.map f).eraseIdx i = f x :: (l.eraseIdx i).map f
    rw [map_erase f l i]
theorem popAt_ok {ws : List Str} {v : Nat} (hv : v < ws.length) (hl : ws.length < 1000) : oM1 fPopAt (.lst (ws.map .str)) (.int (v : Int)) = some (.str ws[v], .lst ((ws.eraseIdx v).map .str)) := by
  unfold oM1 fPopAt
  dsimp only
  rw [if_pos (by omega), Int.toNat_natCast, List.getElem?_map, List.getElem?_eq_getElem hv, map_erase]
  rfl
theorem app_str {ws : List Str} {w : Str} (hl : ws.length < 16777216) : oM1 fApp (.lst (ws.map .str)) (.str w) = some (.non, .lst ((ws ++ [w]).map .str)) := by
  unfold oM1 fApp
  dsimp only
  rw [if_pos (by rw [List.length_map]; exact hl), List.map_append]
  rfl
theorem erase_perm {α : Type} : ∀ {l : List α} {i : Nat} (h : i < l.length), (l[i] :: l.eraseIdx i).Perm l
  | x :: l, 0, h => .refl _
  | x :: l, i + 1, h => by
    have h' : i < l.length := by simpa using h
    show (l[i] :: x :: l.eraseIdx i).Perm (x :: l)
    exact (List.Perm.swap x l[i] _).trans ((erase_perm h').cons x)
theorem stir_wh : ∀ (n : Nat) (ws out : List Str) (o : Ow), ws.length = n → FtOk o → ws.length + out.length < 900 → ∃ (us : List Str) (o' : Ow) (j : Nat), us.Perm ws ∧ FtOk o' ∧ whN F1__law_stirred F2__law_stirred j (o, .lst (ws.map .str), .lst (out.map .str)) = some (o', .lst [], .lst ((out ++ us).map .str))
  | 0, ws, out, o, hn, ho, _ => by
    have : ws = [] := List.length_eq_zero_iff.mp hn
    subst this
    exact ⟨[], o, 1, .refl _, ho, by rw [List.append_nil]; rfl⟩
  | n + 1, ws, out, o, hn, ho, hl => by
    obtain ⟨v, o1, ed, hv, ho1⟩ := dip_ok (many := ws.length) (spot := 0) ho (by omega) (by omega) (by decide)
    obtain ⟨us, o', j, g1, g2, g3⟩ := stir_wh n (ws.eraseIdx v) (out ++ [ws[v]]) o1 (by rw [List.length_eraseIdx, if_pos hv]; omega) ho1 (by rw [List.length_eraseIdx, if_pos hv, List.length_append]; show ws.length - 1 + (out.length + 1) < 900; omega)
    refine ⟨ws[v] :: us, o', j + 1, (g1.cons _).trans (erase_perm hv), g2, ?_⟩
    have hT : F1__law_stirred (o, .lst (ws.map .str), .lst (out.map .str)) = some true := by
      cases ws with
      | nil => cases hn
      | cons _ _ => rfl
    have hB : F2__law_stirred (o, .lst (ws.map .str), .lst (out.map .str)) = some (o1, .lst ((ws.eraseIdx v).map .str), .lst ((out ++ [ws[v]]).map .str)) := by
      unfold F2__law_stirred
      show ((some (D.int ((ws.map D.str).length : Int))).bind _) = _
      rw [Option.bind_some, List.length_map]
      show ((F__law_dip o (.int (ws.length : Int)) (.int ((0 : Nat) : Int))).bind _) = _
      rw [ed, Option.bind_some]
      show ((oM1 fPopAt (.lst (ws.map .str)) (.int ((v : Nat) : Int))).bind _) = _
      rw [popAt_ok hv (by omega), Option.bind_some]
      show ((oM1 fApp (.lst (out.map .str)) (.str ws[v])).bind _) = _
      rw [app_str (by omega)]
      rfl
    unfold whN
    rw [hT, Option.bind_some]
    show ((F2__law_stirred _).bind fun s' => whN _ _ j s') = _
    rw [hB, Option.bind_some, g3]
    simp
theorem stirred_ok {o : Ow} (h : FtOk o) (ws : List Str) (hl : ws.length < 800) : ∃ (us : List Str) (o' : Ow), us.Perm ws ∧ FtOk o' ∧ F__law_stirred o (.lst (ws.map .str)) = some (.lst (us.map .str), o') := by
  obtain ⟨us, o', j, g1, g2, g3⟩ := stir_wh ws.length ws [] o rfl h (by show ws.length + 0 < 900; omega)
  refine ⟨us, o', g1, g2, ?_⟩
  unfold F__law_stirred
  show ((some (Ow.lst (ws.map D.str))).bind _) = _
  rw [Option.bind_some]
  show ((whC F1__law_stirred F2__law_stirred (o, .lst (ws.map .str), .lst (([] : List Str).map .str))).bind _) = _
  rw [whC_of g3]
  rfl
end DL

set_option Elab.async false
set_option linter.all false
set_option maxRecDepth 100000
set_option maxHeartbeats 1000000
namespace DL
open PySem PySem.Spec PyProof.Rows L2
/-! ### words -/
def jw (k : Nat) : Str := ("j" : Str) ++ Str.ofString (toString ((100 : Int) + (k : Int)))
theorem jw_ne : ∀ i : Fin 5, ∀ k : Fin 5, jw i = jw k → i = k := by decide +kernel
theorem jw_hd : ∀ k : Fin 5, (jw k).cps.toList.head? = some 106 := by decide +kernel
theorem jw_len : ∀ k : Fin 5, (Str.ofString (toString ((100 : Int) + ((k : Nat) : Int)))).length = 3 := by decide +kernel
def heads : List Nat := ("hcpdwgsmrkbnfltv" : Str).cps.toList
theorem heads_ok : heads.length = 16 ∧ ∀ c ∈ heads, c ≠ 106 := by decide +kernel
theorem heads_len : ("hcpdwgsmrkbnfltv" : Str).length = 16 := by decide +kernel
theorem dIx_head {i : Nat} (h : i < 16) : ∃ c : Nat, dIx (.str "hcpdwgsmrkbnfltv") (.int (i : Int)) = some (.str ⟨#[c]⟩) ∧ c ≠ 106 := by
  have hl : i < heads.length := by rw [heads_ok.1]; exact h
  refine ⟨heads[i], ?_, heads_ok.2 _ (List.getElem_mem hl)⟩
  show (if ("hcpdwgsmrkbnfltv" : Str).length ≤ 16777216 then (dAt heads (i : Int)).map fun c => D.str ⟨#[c]⟩ else none) = _
  rw [if_pos (by rw [heads_len]; decide), dAt_nat (List.getElem?_eq_getElem hl)]
  rfl
def tails : List Str := ["", "7", "oss", "a0", "ead", "", "zz99zz9", "taff"]
theorem tails_len : ∀ t ∈ tails, t.length ≤ 10 := by decide +kernel
theorem dIx_strs {ws : List Str} {i : Nat} (h : i < ws.length) : dIx (.lst (ws.map .str)) (.int (i : Int)) = some (.str ws[i]) := by
  rw [dIx_li, dAt_nat (v := D.str ws[i])]
  rw [List.getElem?_map, List.getElem?_eq_getElem h]
  rfl
theorem app_toList (a b : Str) : (a ++ b).cps.toList = a.cps.toList ++ b.cps.toList := by
  show (a.cps ++ b.cps).toList = _
  rw [Array.toList_append]
def hd (w : Str) : Option Nat := w.cps.toList.head?
structure WI (k : Nat) (ws : List Str) : Prop where
  len : ws.length = k
  nd : ws.Nodup
  sh : ∀ w ∈ ws, (∃ c, hd w = some c ∧ c ≠ 106) ∨ ∃ i, i < k ∧ w = jw i
theorem WI.ne {k : Nat} {ws : List Str} (h : WI k ws) (hk : k ≤ 5) : ("" : Str) ∉ ws := fun z => by
  have e : hd "" = none := by decide +kernel
  rcases h.sh _ z with ⟨c, h1, _⟩ | ⟨i, h1, h2⟩
  · rw [e] at h1; cases h1
  · have := jw_hd ⟨i, by omega⟩
    have h3 : hd (jw i) = some 106 := this
    rw [← h2, e] at h3
    cases h3
theorem word_step {k : Nat} {ws : List Str} {o : Ow} (h : WI k ws) (ho : FtOk o) (hk : k < 5) : ∃ w o', F1__law_words (.int (k : Int)) (o, .lst (ws.map .str)) = some (o', .lst ((ws ++ [w]).map .str)) ∧ FtOk o' ∧ WI (k + 1) (ws ++ [w]) := by
  obtain ⟨i, o1, e1, hi, ho1⟩ := dip_ok (many := 16) (spot := 0) ho (by decide) (by decide) (by decide)
  obtain ⟨c, ec, hc⟩ := dIx_head hi
  obtain ⟨j, o2, e2, hj, ho2⟩ := dip_ok (many := 8) (spot := 7) ho1 (by decide) (by decide) (by decide)
  have e1 : F__law_dip o (.int 16) (D.int 0) = _ := e1
  have e2 : F__law_dip o1 (.int 8) (.int 7) = _ := e2
  have hj' : j < tails.length := hj
  have et : dIx ((Ow.lst [(.str ""), (.str "7"), (.str "oss"), (.str "a0"), (.str "ead"), (.str ""), (.str "zz99zz9"), (.str "taff")])).d (.int (j : Int)) = some (.str tails[j]) := dIx_strs hj'
  have lt := tails_len _ (List.getElem_mem hj')
  have ea : dAdd (.str ⟨#[c]⟩) (.str tails[j]) = some (.str ((⟨#[c]⟩ : Str) ++ tails[j])) := by
    show (if (⟨#[c]⟩ : Str).length + tails[j].length ≤ 16777216 then _ else none) = _
    refine if_pos ?_
    have : (⟨#[c]⟩ : Str).length = 1 := rfl
    omega
  generalize hw : (⟨#[c]⟩ : Str) ++ tails[j] = w at ea
  have hdw : hd w = some c := by
    unfold hd
    rw [← hw, app_toList]
    rfl
  have lenk := h.len
  unfold F1__law_words
  rw [e1, Option.bind_some]
  show ∃ w o', ((dIx (.str "hcpdwgsmrkbnfltv") (.int (i : Int))).bind _) = _ ∧ _
  rw [ec, Option.bind_some]
  show ∃ w o', ((F__law_dip o1 (.int 8) (.int 7)).bind _) = _ ∧ _
  rw [e2, Option.bind_some, et, Option.bind_some, ea, Option.bind_some]
  show ∃ w' o', ((dNotIn (.str w) (.lst (ws.map .str))).bind _) = _ ∧ _
  rw [dNotIn_l, Option.bind_some, asB_bl, Option.bind_some]
  by_cases hin : w ∈ ws
  · rw [decide_eq_true hin]
    refine ⟨jw k, o2, ?_, ho2, ?_⟩
    · have ed : dStr (.int (100 + (k : Int))) = some (.str (Str.ofString (toString ((100 : Int) + (k : Int))))) := by
        show (if (100 + (k : Int)).natAbs.log2 < 1920 then _ else none) = _
        refine if_pos ?_
        exact Nat.lt_of_le_of_lt (log_small (i := 100 + (k : Int)) (n := 10) (by omega) (by omega)) (by decide)
      have ej : dAdd (.str "j") (.str (Str.ofString (toString ((100 : Int) + (k : Int))))) = some (.str (jw k)) := by
        show (if ("j" : Str).length + (Str.ofString (toString ((100 : Int) + (k : Int)))).length ≤ 16777216 then _ else none) = _
        refine if_pos ?_
        have l3 : (Str.ofString (toString ((100 : Int) + (k : Int)))).length = 3 := jw_len ⟨k, hk⟩
        have l1 : ("j" : Str).length = 1 := by decide +kernel
        exact Nat.le_trans (Nat.le_of_eq (congrArg (fun z => z + _) l1)) (Nat.le_trans (Nat.le_of_eq (congrArg (fun z => 1 + z) l3)) (by decide))
      show (((dAdd (.int 100) (.int (k : Int))).bind fun t9 => (dStr t9).bind fun t10 => (dAdd (.str "j") t10).bind fun t11 => some t11).bind _) = _
      rw [dAdd_ii, Option.bind_some, ed, Option.bind_some, ej, Option.bind_some, Option.bind_some]
      show ((oM1 fApp (.lst (ws.map .str)) (.str (jw k))).bind _) = _
      rw [app_str (by rw [lenk]; exact Nat.lt_trans hk (by decide))]
      rfl
    · have hj106 : hd (jw k) = some 106 := jw_hd ⟨k, hk⟩
      have hn : jw k ∉ ws := fun z => by
        rcases h.sh _ z with ⟨c', h1, h2⟩ | ⟨i', h1, h2⟩
        · rw [hj106] at h1
          cases h1
          exact h2 rfl
        · have := jw_ne ⟨k, hk⟩ ⟨i', by omega⟩ h2
          have q : k = i' := congrArg Fin.val this
          rw [q] at h1
          exact Nat.lt_irrefl _ h1
      refine ⟨by rw [List.length_append, lenk]; rfl, List.nodup_append.mpr ⟨h.nd, by simp, fun a ha b hb e => ?_⟩, fun x hx => ?_⟩
      · rw [List.mem_singleton.mp hb] at e
        exact hn (e ▸ ha)
      · rcases List.mem_append.mp hx with z | z
        · rcases h.sh _ z with q | ⟨i', h1, h2⟩
          · exact .inl q
          · exact .inr ⟨i', by omega, h2⟩
        · rw [List.mem_singleton.mp z]
          exact .inr ⟨k, by omega, rfl⟩
  · rw [decide_eq_false hin]
    refine ⟨w, o2, ?_, ho2, ?_⟩
    · show ((oM1 fApp (.lst (ws.map .str)) (.str w)).bind _) = _
      rw [app_str (by rw [lenk]; exact Nat.lt_trans hk (by decide))]
      rfl
    · refine ⟨by rw [List.length_append, lenk]; rfl, List.nodup_append.mpr ⟨h.nd, by simp, fun a ha b hb e => ?_⟩, fun x hx => ?_⟩
      · rw [List.mem_singleton.mp hb] at e
        exact hin (e ▸ ha)
      · rcases List.mem_append.mp hx with z | z
        · rcases h.sh _ z with q | ⟨i', h1, h2⟩
          · exact .inl q
          · exact .inr ⟨i', by omega, h2⟩
        · rw [List.mem_singleton.mp z]
          exact .inl ⟨c, hdw, hc⟩
theorem words_ok {o : Ow} (ho : FtOk o) {m : Nat} (hm : m ≤ 5) : ∃ (ws : List Str) (o' : Ow), F__law_words o (.int (m : Int)) = some (.lst (ws.map .str), o') ∧ FtOk o' ∧ ws.length = m ∧ ws.Nodup ∧ ("" : Str) ∉ ws := by
  obtain ⟨s, e, ws, h1, h2, h3⟩ := forN_rng (step := F1__law_words) (n := m) (fun k s => ∃ ws : List Str, s.2 = .lst (ws.map .str) ∧ FtOk s.1 ∧ WI k ws) (fun k s hk hI => by
    obtain ⟨o1, l1⟩ := s
    obtain ⟨ws, rfl, h2, h3⟩ := hI
    obtain ⟨w, o', e, g1, g2⟩ := word_step h3 h2 (by omega)
    exact ⟨_, e, _, rfl, g1, g2⟩) (s := (o, .lst [])) ⟨[], rfl, ho, rfl, List.nodup_nil, fun w h => by cases h⟩
  obtain ⟨o1, l1⟩ := s
  have h1 : l1 = .lst (ws.map .str) := h1
  subst h1
  refine ⟨ws, o1, ?_, h2, h3.len, h3.nd, h3.ne hm⟩
  unfold F__law_words
  rw [rng1_nat (by omega), Option.bind_some, e]
  rfl
end DL

set_option Elab.async false
set_option linter.all false
set_option maxRecDepth 100000
set_option maxHeartbeats 1000000
namespace DL
open PySem PySem.Spec PyProof.Rows L2
/-! ### a drawn ladder -/
theorem bo_of {L : List Row} (h : (keys L).Nodup) : ∀ {k : Str} {bs : List Str}, (k, bs) ∈ L → bo L k = some bs := by
  induction L with
  | nil => intro k bs h; cases h
  | cons r L ih =>
    intro k bs hm
    have h' : (r.1 :: keys L).Nodup := h
    obtain ⟨h1, h2⟩ := List.nodup_cons.mp h'
    unfold bo
    rcases List.mem_cons.mp hm with e | hm
    · rw [← e, if_pos rfl]
    · have : r.1 ≠ k := fun z => h1 (by rw [z]; exact List.mem_map_of_mem (f := (·.1)) hm)
      rw [if_neg this]
      exact ih h2 hm
theorem dCat_strs {a b : List Str} (h : a.length + b.length < 1000) : dCat (.lst (a.map .str)) (.lst (b.map .str)) = some (.lst ((a ++ b).map .str)) := by
  show (if (a.map D.str).length + (b.map D.str).length ≤ 16777216 then some (Ow.lst (a.map D.str ++ b.map D.str)) else none) = _
  rw [if_pos (by rw [List.length_map, List.length_map]; omega), List.map_append]
theorem dLen_strs (a : List Str) : dLen (.lst (a.map .str)) = some (.int (a.length : Int)) := by
  rw [dLen_l, List.length_map]
/-- bosses drawn so far -/
structure BsI (us : List Str) (b0 : Str) (bs : List Str) : Prop where
  nd : bs.Nodup
  mem : b0 ∈ bs
  sub : ∀ b ∈ bs, b = "" ∨ b ∈ us
theorem lap_step {us bs : List Str} {b0 : Str} {o x : Ow} {d : D} (hu : us.length ≤ 5) (h : BsI us b0 bs) (hl : bs.length < 100) (ho : FtOk o) :
    ∃ (o' : Ow) (bs' : List Str), F1__law_ladder (.lst (us.map .str), x) d (o, .lst (bs.map .str)) = some (o', .lst (bs'.map .str)) ∧ FtOk o' ∧ BsI us b0 bs' ∧ bs'.length ≤ bs.length + 1 := by
  obtain ⟨v, o1, e1, hv, ho1⟩ := dip_ok (many := us.length + 1) (spot := 0) ho (by omega) (by omega) (by decide)
  have hv' : v < (us ++ [("" : Str)]).length := by rw [List.length_append]; exact hv
  have e1 : F__law_dip o (.int ((us.length : Int) + 1)) (D.int 0) = _ := e1
  unfold F1__law_ladder
  show ∃ (o' : Ow) (bs' : List Str), ((dCat (.lst (us.map .str)) (.lst (([("" : Str)]).map .str))).bind _) = some (o', Ow.lst (bs'.map .str)) ∧ _
  rw [dCat_strs (by show us.length + 1 < 1000; omega), Option.bind_some]
  show ∃ (o' : Ow) (bs' : List Str), ((dLen (.lst (us.map .str))).bind _) = some (o', Ow.lst (bs'.map .str)) ∧ _
  rw [dLen_strs, Option.bind_some, dAdd_ii, Option.bind_some, e1, Option.bind_some]
  show ∃ (o' : Ow) (bs' : List Str), ((dIx (.lst ((us ++ [("" : Str)]).map .str)) (.int (v : Int))).bind _) = some (o', Ow.lst (bs'.map .str)) ∧ _
  rw [dIx_strs hv', Option.bind_some]
  show ∃ (o' : Ow) (bs' : List Str), ((dNotIn (.str (us ++ [("" : Str)])[v]) (.lst (bs.map .str))).bind _) = some (o', Ow.lst (bs'.map .str)) ∧ _
  rw [dNotIn_l, Option.bind_some, asB_bl, Option.bind_some]
  have hb : (us ++ [("" : Str)])[v] = "" ∨ (us ++ [("" : Str)])[v] ∈ us := by
    rcases List.mem_append.mp (List.getElem_mem hv') with z | z
    · exact .inr z
    · exact .inl (List.mem_singleton.mp z)
  generalize (us ++ [("" : Str)])[v] = b at hb
  by_cases q : b ∈ bs
  · rw [decide_eq_true q]
    exact ⟨o1, bs, rfl, ho1, h, by omega⟩
  · rw [decide_eq_false q]
    refine ⟨o1, bs ++ [b], ?_, ho1, ⟨List.nodup_append.mpr ⟨h.nd, by simp, fun a ha c hc e => ?_⟩, List.mem_append_left _ h.mem, fun c hc => ?_⟩, by rw [List.length_append]; exact Nat.le_refl _⟩
    · show ((oM1 fApp (.lst (bs.map .str)) (.str b)).bind _) = _
      rw [app_str (by omega)]
      rfl
    · rw [List.mem_singleton.mp hc] at e
      exact q (e ▸ ha)
    · rcases List.mem_append.mp hc with z | z
      · exact h.sub c z
      · rw [List.mem_singleton.mp z]; exact hb
theorem laps_ok {us : List Str} {b0 : Str} {o x : Ow} {n : Nat} (hu : us.length ≤ 5) (hb : b0 = "" ∨ b0 ∈ us) (hn : n < 10) (ho : FtOk o) :
    ∃ (o' : Ow) (bs : List Str), forN (F1__law_ladder (.lst (us.map .str), x)) (rngD 0 n) (o, .lst [.str b0]) = some (o', .lst (bs.map .str)) ∧ FtOk o' ∧ BsI us b0 bs := by
  obtain ⟨s, e, bs, h1, h2, h3, h4⟩ := forN_rng (step := F1__law_ladder (.lst (us.map .str), x)) (n := n) (fun k s => ∃ bs : List Str, s.2 = .lst (bs.map .str) ∧ FtOk s.1 ∧ BsI us b0 bs ∧ bs.length ≤ k + 1) (fun k s hk hI => by
    obtain ⟨o1, l1⟩ := s
    obtain ⟨bs, rfl, h2, h3, h4⟩ := hI
    obtain ⟨o', bs', e, g1, g2, g3⟩ := lap_step (x := x) (d := .int (k : Int)) hu h3 (by omega) h2
    exact ⟨_, e, bs', rfl, g1, g2, by omega⟩) (s := (o, .lst [.str b0])) ⟨[b0], rfl, ho, ⟨by simp, List.mem_cons_self, fun b h => by rw [List.mem_singleton.mp h]; exact hb⟩, Nat.le_refl _⟩
  obtain ⟨o1, l1⟩ := s
  have h1 : l1 = .lst (bs.map .str) := h1
  subst h1
  exact ⟨o1, bs, e, h2, h3⟩
/-- rows drawn so far -/
structure RI (us : List Str) (k : Nat) (rs : List Row) : Prop where
  ks : keys rs = us.take k
  nd : ∀ r ∈ rs, r.2.Nodup
  sub : ∀ r ∈ rs, ∀ b ∈ r.2, b = "" ∨ b ∈ us
  up : ∀ r ∈ rs, ("" : Str) ∈ r.2 ∨ ∃ (v i : Nat) (b : Str), v < i ∧ us[i]? = some r.1 ∧ us[v]? = some b ∧ b ∈ r.2
theorem RI.len {us : List Str} {k : Nat} {rs : List Row} (h : RI us k rs) (hk : k ≤ us.length) : rs.length = k := by
  have := congrArg List.length h.ks
  rw [keys_len, List.length_take] at this
  omega
theorem row_step {us : List Str} {rs : List Row} {o x : Ow} {k : Nat} (hu : us.length ≤ 5) (hk : k < us.length) (h : RI us k rs) (ho : FtOk o) :
    ∃ (o' : Ow) (rs' : List Row), F2__law_ladder (.lst (us.map .str), x) (.int (k : Int)) (o, .lst (rs.map rowD)) = some (o', .lst (rs'.map rowD)) ∧ FtOk o' ∧ RI us (k + 1) rs' := by
  have hb : ∃ (o1 : Ow) (b : Bool), ((cond (decide ((k : Int) = 0)) (some (true, o)) ((F__law_dip o (.int 4) (D.int 0)).bind fun t9 => (dEq t9.1 (.int 0)).bind fun t10 => (asB t10).bind fun t11 => some (t11, t9.2)) : Option (Bool × Ow)) = some (b, o1)) ∧ FtOk o1 ∧ (k = 0 → b = true) := by
    by_cases q : (k : Int) = 0
    · rw [decide_eq_true q]
      exact ⟨o, true, rfl, ho, fun _ => rfl⟩
    · rw [decide_eq_false q]
      obtain ⟨v, o1, e1, hv, ho1⟩ := dip_ok (many := 4) (spot := 0) ho (by decide) (by decide) (by decide)
      have e1 : F__law_dip o (.int 4) (D.int 0) = _ := e1
      refine ⟨o1, decide (((v : Nat) : Int) = 0), ?_, ho1, fun z => absurd (by omega) q⟩
      rw [cond_false, e1, Option.bind_some, dEq_int, Option.bind_some, asB_bl, Option.bind_some]
  obtain ⟨o1, b, e1, ho1, hb0⟩ := hb
  have hc : ∃ (o2 : Ow) (b0 : Str), ((cond b (some ((Ow.lst [(.str "")]), o1)) ((F__law_dip o1 (.int (k : Int)) (D.int 0)).bind fun t13 => (dIx (.lst (us.map .str)) t13.1).bind fun t14 => some ((Ow.lst [t14]), t13.2)) : Option (Ow × Ow)) = some (.lst [.str b0], o2)) ∧ FtOk o2 ∧ (b0 = "" ∨ ∃ v : Nat, v < k ∧ us[v]? = some b0) := by
    cases b with
    | true => exact ⟨o1, "", rfl, ho1, .inl rfl⟩
    | false =>
      have k0 : 0 < k := Nat.pos_of_ne_zero fun z => by cases hb0 z
      obtain ⟨v, o2, e2, hv, ho2⟩ := dip_ok (many := k) (spot := 0) ho1 k0 (by omega) (by decide)
      have e2 : F__law_dip o1 (.int (k : Int)) (D.int 0) = _ := e2
      have hvl : v < us.length := by omega
      refine ⟨o2, us[v], ?_, ho2, .inr ⟨v, hv, List.getElem?_eq_getElem hvl⟩⟩
      rw [cond_false, e2, Option.bind_some, dIx_strs hvl]
      rfl
  obtain ⟨o2, b0, e2, ho2, hb1⟩ := hc
  obtain ⟨n, o3, e3, hn, ho3⟩ := dip_ok (many := 3) (spot := 4) ho2 (by decide) (by decide) (by decide)
  have e3 : F__law_dip o2 (.int 3) (.int 4) = _ := e3
  obtain ⟨o4, bs, e4, ho4, hB⟩ := laps_ok (x := x) (b0 := b0) (n := n) hu (hb1.imp id fun ⟨v, _, e⟩ => List.mem_of_getElem? e) (by omega) ho3
  have lr := h.len (Nat.le_of_lt hk)
  refine ⟨o4, rs ++ [(us[k], srt bs)], ?_, ho4, ⟨?_, fun r hr => ?_, fun r hr => ?_, fun r hr => ?_⟩⟩
  · unfold F2__law_ladder
    rw [dEq_int, Option.bind_some, asB_bl, Option.bind_some]
    show ((cond (decide ((k : Int) = 0)) (some (true, o)) ((F__law_dip o (.int 4) (D.int 0)).bind fun t9 => (dEq t9.1 (.int 0)).bind fun t10 => (asB t10).bind fun t11 => some (t11, t9.2)) : Option (Bool × Ow)).bind _) = _
    rw [e1, Option.bind_some]
    show ((cond b (some ((Ow.lst [(.str "")]), o1)) ((F__law_dip o1 (.int (k : Int)) (D.int 0)).bind fun t13 => (dIx (.lst (us.map .str)) t13.1).bind fun t14 => some ((Ow.lst [t14]), t13.2)) : Option (Ow × Ow)).bind _) = _
    rw [e2, Option.bind_some]
    show ((F__law_dip o2 (.int 3) (.int 4)).bind _) = _
    rw [e3, Option.bind_some]
    show ((rng1 [.int (n : Int)]).bind _) = _
    rw [rng1_nat (by omega), Option.bind_some]
    show ((forN (F1__law_ladder (.lst (us.map .str), x)) (rngD 0 n) (o3, .lst [.str b0])).bind _) = _
    rw [e4, Option.bind_some]
    show ((dIx (.lst (us.map .str)) (.int (k : Int))).bind _) = _
    rw [dIx_strs hk, Option.bind_some]
    show ((dSort (.lst (bs.map .str))).bind _) = _
    rw [dSort_strs, Option.bind_some]
    show ((some (D.tup ((srt bs).map .str))).bind _) = _
    rw [Option.bind_some]
    show ((Option.map _ (if (rs.map rowD).length < 16777216 then some (D.non, rs.map rowD ++ [.tup [.str us[k], .tup ((srt bs).map .str)]]) else none)).bind _) = _
    rw [if_pos (by rw [List.length_map, lr]; omega)]
    simp [rowD, stD]
  · show (rs ++ [(us[k], srt bs)]).map (·.1) = _
    rw [List.map_append, List.take_succ_eq_append_getElem hk, ← h.ks]
    rfl
  · rcases List.mem_append.mp hr with z | z
    · exact h.nd r z
    · rw [List.mem_singleton.mp z]
      exact (srt_perm bs).nodup_iff.mpr hB.nd
  · rcases List.mem_append.mp hr with z | z
    · exact h.sub r z
    · rw [List.mem_singleton.mp z]
      intro c hc
      exact hB.sub c (srt_mem.mp hc)
  · rcases List.mem_append.mp hr with z | z
    · exact h.up r z
    · rw [List.mem_singleton.mp z]
      rcases hb1 with e | ⟨v, hv, ev⟩
      · exact .inl (srt_mem.mpr (e ▸ hB.mem))
      · exact .inr ⟨v, k, b0, hv, List.getElem?_eq_getElem hk, ev, srt_mem.mpr hB.mem⟩
theorem srtR_keys (L : List Row) : (keys (srtR L)).Perm (keys L) := (srtR_perm L).map _
theorem nodup_inj {α : Type} : ∀ {l : List α}, l.Nodup → ∀ {i j : Nat} (hi : i < l.length) (hj : j < l.length), l[i] = l[j] → i = j
  | x :: l, nd, 0, 0, _, _, _ => rfl
  | x :: l, nd, 0, j + 1, _, hj, e => by
    have : x ∈ l := by
      have e : x = l[j]'(by simpa using hj) := e
      rw [e]
      exact List.getElem_mem _
    exact absurd this (List.nodup_cons.mp nd).1
  | x :: l, nd, i + 1, 0, hi, _, e => by
    have : x ∈ l := by
      have e : l[i]'(by simpa using hi) = x := e
      rw [← e]
      exact List.getElem_mem _
    exact absurd this (List.nodup_cons.mp nd).1
  | x :: l, nd, i + 1, j + 1, hi, hj, e => by
    have hi' : i < l.length := by simpa using hi
    have hj' : j < l.length := by simpa using hj
    have e : l[i] = l[j] := e
    rw [nodup_inj (List.nodup_cons.mp nd).2 hi' hj' e]
/-- everybody has a way up -/
def Up (L : List Row) : Prop := ∀ k ∈ keys L, ∃ ws, Way (nbL L []) (gl L "") k ws
theorem RI.ladder {us : List Str} {rs : List Row} (hu : us.length ≤ 5) (nd : us.Nodup) (ne : ("" : Str) ∉ us) (h : RI us us.length rs) : LOk (srtR rs) ∧ Up (srtR rs) := by
  have hk : keys rs = us := by rw [h.ks, List.take_length]
  have pk := srtR_keys rs
  rw [hk] at pk
  have mem : ∀ {r}, r ∈ srtR rs ↔ r ∈ rs := fun {r} => (srtR_perm rs).mem_iff
  have ndk : (keys (srtR rs)).Nodup := pk.nodup_iff.mpr nd
  refine ⟨⟨ndk, fun z => ne (pk.mem_iff.mp z), fun r hr b hb => (h.sub r (mem.mp hr) b hb).imp id fun z => pk.mem_iff.mpr z, fun r hr => h.nd r (mem.mp hr), ?_⟩, ?_⟩
  · rw [(srtR_perm rs).length_eq, h.len (Nat.le_refl _)]
    exact hu
  · intro k hk'
    obtain ⟨i0, hi0⟩ := List.getElem?_of_mem (pk.mem_iff.mp hk')
    clear hk'
    induction i0 using Nat.strongRecOn generalizing k with
    | _ i0 ih =>
      have hkr : k ∈ keys rs := by rw [hk]; exact List.mem_of_getElem? hi0
      obtain ⟨r, hr, er⟩ := List.mem_map.mp hkr
      have er : r.1 = k := er
      subst er
      have eb : bo (srtR rs) r.1 = some r.2 := bo_of ndk (mem.mpr hr)
      rcases h.up r hr with z | ⟨v, i, b, hv, e1, e2, hb⟩
      · exact ⟨[], trivial, r.2, eb, z⟩
      · have ii : i = i0 := by
          have h1 := (List.getElem?_eq_some_iff.mp e1)
          have h2 := (List.getElem?_eq_some_iff.mp hi0)
          obtain ⟨l1, q1⟩ := h1
          obtain ⟨l2, q2⟩ := h2
          exact nodup_inj nd l1 l2 (q1.trans q2.symm)
        subst ii
        obtain ⟨ws, hw⟩ := ih v hv b e2
        exact ⟨b :: ws, hw.cons (nbL_mem.mpr ⟨r.2, eb, hb, fun z => ne (z ▸ List.mem_of_getElem? e2), fun z => by cases z⟩)⟩
theorem rows_ok {us : List Str} {o x : Ow} (hu : us.length ≤ 5) (ho : FtOk o) : ∃ (o' : Ow) (rs : List Row), forN (F2__law_ladder (.lst (us.map .str), x)) (rngD 0 us.length) (o, .lst []) = some (o', .lst (rs.map rowD)) ∧ FtOk o' ∧ RI us us.length rs := by
  obtain ⟨s, e, rs, h1, h2, h3⟩ := forN_rng (step := F2__law_ladder (.lst (us.map .str), x)) (n := us.length) (fun k s => ∃ rs : List Row, s.2 = .lst (rs.map rowD) ∧ FtOk s.1 ∧ RI us k rs) (fun k s hk hI => by
    obtain ⟨o1, l1⟩ := s
    obtain ⟨rs, rfl, h2, h3⟩ := hI
    obtain ⟨o', rs', e, g1, g2⟩ := row_step (x := x) hu hk h3 h2
    exact ⟨_, e, rs', rfl, g1, g2⟩) (s := (o, .lst [])) ⟨[], rfl, ho, ⟨by rw [List.take_zero]; rfl, (fun r h => by cases h), (fun r h => by cases h), fun r h => by cases h⟩⟩
  obtain ⟨o1, l1⟩ := s
  have h1 : l1 = .lst (rs.map rowD) := h1
  subst h1
  exact ⟨o1, rs, e, h2, h3⟩
theorem ladder_ok {o : Ow} (ho : FtOk o) : ∃ (L : List Row) (o' : Ow), F__law_ladder o (.int 5) = some (ladD L, o') ∧ FtOk o' ∧ LOk L ∧ Up L ∧ 0 < L.length := by
  obtain ⟨v, o1, e1, hv, ho1⟩ := dip_ok (many := 5) (spot := 3) ho (by decide) (by decide) (by decide)
  have e1 : F__law_dip o (.int 5) (.int 3) = _ := e1
  obtain ⟨ws, o2, e2, ho2, l2, nd2, ne2⟩ := words_ok ho1 (m := 1 + v) (by omega)
  obtain ⟨us, o3, pm, ho3, e3⟩ := stirred_ok ho2 ws (by omega)
  have lu : us.length = 1 + v := pm.length_eq.trans l2
  obtain ⟨o4, rs, e4, ho4, hR⟩ := rows_ok (x := o3) (us := us) (by omega) ho3
  obtain ⟨g1, g2⟩ := hR.ladder (by omega) (pm.nodup_iff.mpr nd2) (fun z => ne2 (pm.mem_iff.mp z))
  refine ⟨srtR rs, o4, ?_, ho4, g1, g2, ?_⟩
  · unfold F__law_ladder
    rw [e1, Option.bind_some, dAdd_ii, Option.bind_some]
    have e2' : F__law_words o1 (.int (1 + (v : Int))) = some (.lst (ws.map .str), o2) := by
      rw [show (1 + (v : Int)) = ((1 + v : Nat) : Int) by omega]
      exact e2
    show ((F__law_words o1 (.int (1 + (v : Int)))).bind _) = _
    rw [e2', Option.bind_some]
    show ((F__law_stirred o2 (.lst (ws.map .str))).bind _) = _
    rw [e3, Option.bind_some]
    show ((dLen (.lst (us.map .str))).bind _) = _
    rw [dLen_strs, Option.bind_some, rng1_nat (by omega), Option.bind_some]
    show ((forN (F2__law_ladder (.lst (us.map .str), o3)) (rngD 0 us.length) (o3, .lst [])).bind _) = _
    rw [e4, Option.bind_some]
    show ((dSort (.lst (rs.map rowD))).bind _) = _
    rw [dSort_rows]
    rfl
  · rw [(srtR_perm rs).length_eq, hR.len (Nat.le_refl _)]
    omega
end DL

set_option Elab.async false
set_option linter.all false
set_option maxRecDepth 100000
set_option maxHeartbeats 1000000
namespace DL
open PySem PySem.Spec PyProof.Rows L2
/-! ### a thing is the same as itself -/
def pr (d : D) : D := .tup [d, d]
theorem popLast (st : List D) (x : D) : oM0 fPop (.lst (st ++ [x])) = some (x, .lst st) := by
  unfold oM0 fPop
  simp
inductive At : D → Prop where
  | non : At .non
  | bl (b : Bool) : At (.bl b)
  | int (i : Int) : At (.int i)
  | str (x : Str) : At (.str x)
theorem dNe_self {d : D} (h : At d) : dNe d d = some (.bl false) := by
  cases h with
  | non => rfl
  | bl b => show (some (b == b)).map (fun b => D.bl !b) = _; simp
  | int i => rw [dNe_int]; simp
  | str x => rw [dNe_str]; simp
theorem un2_pr (d : D) : un2 (pr d) = some (d, d) := rfl
theorem dTru_b (b : Bool) : dTru (.bl b) = some b := rfl
theorem isl_non : dIsiL ["tuple", "list"] .non = some (.bl false) := rfl
theorem isl_bl (b : Bool) : dIsiL ["tuple", "list"] (.bl b) = some (.bl false) := rfl
theorem isl_int (i : Int) : dIsiL ["tuple", "list"] (.int i) = some (.bl false) := rfl
theorem isl_str (x : Str) : dIsiL ["tuple", "list"] (.str x) = some (.bl false) := rfl
theorem isl_tup (ds : List D) : dIsiL ["tuple", "list"] (.tup ds) = some (.bl true) := rfl
theorem isi_lt (ds : List D) : dIsi "list" (.tup ds) = some (.bl false) := rfl
theorem isi_bb (b : Bool) : dIsi "bool" (.bl b) = some (.bl true) := rfl
theorem isi_bi (i : Int) : dIsi "bool" (.int i) = some (.bl false) := rfl
theorem isi_bn : dIsi "bool" .non = some (.bl false) := rfl
theorem isi_bs (x : Str) : dIsi "bool" (.str x) = some (.bl false) := rfl
theorem isi_ii (i : Int) : dIsi "int" (.int i) = some (.bl true) := rfl
theorem isi_is (x : Str) : dIsi "int" (.str x) = some (.bl false) := rfl
theorem isi_ss (x : Str) : dIsi "str" (.str x) = some (.bl true) := rfl
theorem isN_n : dIsN .non .non = some (.bl true) := rfl
theorem isN_b (b : Bool) : dIsN (.bl b) .non = some (.bl false) := rfl
theorem isN_i (i : Int) : dIsN (.int i) .non = some (.bl false) := rfl
theorem isN_s (x : Str) : dIsN (.str x) .non = some (.bl false) := rfl
theorem same_at {d : D} (h : At d) (st : List D) : F2__law_same (.lst (st ++ [pr d])) = some (.nx (.lst st)) := by
  unfold F2__law_same
  have e := dNe_self h
  have e1 := dNe_self (.bl false)
  have e2 := dNe_self (.bl true)
  cases h with
  | non => simp only [popLast, Option.bind_some, un2_pr, isl_non, dTru_b, cond_true, cond_false, isN_n, isi_bn, asB_bl, e, e1, e2, Bool.not_true, Bool.not_false]
  | bl b => simp only [popLast, Option.bind_some, un2_pr, isl_bl, dTru_b, cond_true, cond_false, isN_b, isi_bb, asB_bl, e, e1, e2, Bool.not_true, Bool.not_false]
  | int i => simp only [popLast, Option.bind_some, un2_pr, isl_int, dTru_b, cond_true, cond_false, isN_i, isi_bi, isi_ii, asB_bl, e, e1, e2, Bool.not_true, Bool.not_false]
  | str x => simp only [popLast, Option.bind_some, un2_pr, isl_str, dTru_b, cond_true, cond_false, isN_s, isi_bs, isi_is, isi_ss, asB_bl, e, e1, e2, Bool.not_true, Bool.not_false]
theorem lcP_rng {f : D → Option (Option D)} {g : Nat → D} {n : Nat} (h : ∀ k, k < n → f (.int (k : Int)) = some (some (g k))) : lcP f (rngD 0 n) = some ((List.range n).map g) := by
  have q := lcP_map (e := fun k : Nat => D.int (0 + (k : Nat))) (f := f) (p := fun _ => true) (g := g) (xs := List.range n) fun k hk => by
    rw [Int.zero_add, h k (List.mem_range.mp hk)]
    rfl
  have q : lcP f (rngD 0 n) = _ := q
  rw [q]
  congr 2
  rw [List.filter_eq_self]
  intro _ _
  rfl
theorem range_get {α β : Type} (f : α → β) (l : List α) (g : Nat → β) (h : ∀ (k : Nat) (hk : k < l.length), g k = f l[k]) : (List.range l.length).map g = l.map f := by
  refine List.ext_getElem (by simp) fun k h1 h2 => ?_
  rw [List.getElem_map, List.getElem_map, List.getElem_range]
  exact h k (by simpa using h2)
theorem dCat_lst {a b : List D} (h : a.length + b.length ≤ 2000) : dCat (.lst a) (.lst b) = some (.lst (a ++ b)) := by
  have : a.length + b.length ≤ 16777216 := Nat.le_trans h (by decide)
  show (if a.length + b.length ≤ 16777216 then some (Ow.lst (a ++ b)) else none) = _
  rw [if_pos this]
theorem C1_same {ws : List Str} {k : Nat} (hk : k < ws.length) : C1__law_same (stD ws, stD ws) (.int (k : Int)) = some (some (pr (.str (ws.getD k "")))) := by
  have e2 : dIx (stD ws) (.int (k : Int)) = some (.str (ws.getD k "")) := by
    unfold stD
    rw [dIx_ti]
    refine dAt_nat ?_
    rw [List.getElem?_map, List.getD_eq_getElem?_getD, List.getElem?_eq_getElem hk]
    rfl
  unfold C1__law_same
  dsimp only
  rw [e2, Option.bind_some, Option.bind_some]
  rfl
theorem row_same {ws : List Str} (hl : ws.length < 1000) : lcP (C1__law_same (stD ws, stD ws)) (rngD 0 ws.length) = some (ws.map fun w => pr (.str w)) := by
  rw [lcP_rng (g := fun k => pr (.str (ws.getD k ""))) fun k hk => C1_same hk, range_get (fun w => pr (.str w)) ws _ fun k hk => by rw [List.getD_eq_getElem?_getD, List.getElem?_eq_getElem hk]; rfl]
theorem same_row (ws : List Str) (hl : ws.length < 1000) (st : List D) (hs : st.length < 1000) : F2__law_same (.lst (st ++ [pr (stD ws)])) = some (.nx (.lst (st ++ ws.map fun w => pr (.str w)))) := by
  have eL : dLen (stD ws) = some (.int (ws.length : Int)) := by
    show some (D.int ((ws.map D.str).length : Int)) = _
    rw [List.length_map]
  have e1 : dNe (.int (ws.length : Int)) (.int (ws.length : Int)) = some (.bl false) := dNe_self (.int _)
  have e0 := dNe_self (.bl false)
  have h1 : dIsiL ["tuple", "list"] (stD ws) = some (.bl true) := isl_tup _
  have h2 : dIsi "list" (stD ws) = some (.bl false) := isi_lt _
  unfold F2__law_same
  rw [popLast, Option.bind_some, un2_pr, Option.bind_some, h1, Option.bind_some, dTru_b, Option.bind_some, cond_true]
  rw [Option.bind_some, dTru_b, Option.bind_some, Bool.not_true, cond_false, h2, Option.bind_some, Option.bind_some, e0, Option.bind_some, asB_bl, Option.bind_some, cond_false]
  rw [eL, Option.bind_some, Option.bind_some, e1, Option.bind_some, asB_bl, Option.bind_some, Option.bind_some, Option.bind_some, cond_false, Option.bind_some]
  have hz : szG (ws.map fun w => pr (.str w)) = some () := szG_ok (by rw [List.length_map]; omega)
  rw [rng1_nat (by omega), Option.bind_some, row_same hl, Option.bind_some, hz, Option.bind_some]
  have hc : dCat (.lst st) (.lst (ws.map fun w => pr (.str w))) = _ := dCat_lst (by rw [List.length_map]; omega)
  rw [show (Ow.lst (ws.map fun w => pr (.str w))).d = D.lst (ws.map fun w => pr (.str w)) from rfl, show (Ow.lst st).d = D.lst st from rfl, hc, Option.bind_some]
theorem F1_same (st : List D) (x : D) : F1__law_same (.lst (st ++ [x])) = some true := by
  unfold F1__law_same
  show ((some (!(st ++ [x]).isEmpty)).bind _) = _
  cases st <;> rfl
theorem same_wh : ∀ (n : Nat) (ws : List Str), ws.length = n → whL (ε := D) F1__law_same F2__law_same (n + 1) (.lst (ws.map fun w => pr (.str w))) = some (.inl (.lst []))
  | 0, ws, h => by
    rw [List.length_eq_zero_iff.mp h]
    rfl
  | n + 1, ws, h => by
    obtain ⟨vs, b, rfl⟩ := snoc_of (us := ws) (fun z => by rw [z] at h; cases h)
    have hv : vs.length = n := by rw [List.length_append] at h; simpa using h
    rw [List.map_append]
    unfold whL
    show ((F1__law_same (.lst ((vs.map fun w => pr (.str w)) ++ [pr (.str b)]))).bind fun q => cond q ((F2__law_same (.lst ((vs.map fun w => pr (.str w)) ++ [pr (.str b)]))).bind _) _) = _
    rw [F1_same, Option.bind_some, same_at (.str b)]
    exact same_wh n vs hv
theorem same_self {d : D} (h : At d ∨ ∃ ws : List Str, ws.length < 1000 ∧ d = stD ws) : F__law_same d d = some (.bl true) := by
  have key : ∃ n, whL (ε := D) F1__law_same F2__law_same n (.lst [pr d]) = some (.inl (.lst [])) := by
    rcases h with h | ⟨ws, hl, rfl⟩
    · refine ⟨2, ?_⟩
      unfold whL
      have e1 : F1__law_same (.lst [pr d]) = some true := F1_same [] _
      have e2 : F2__law_same (.lst [pr d]) = some (.nx (.lst [])) := same_at h []
      rw [e1, Option.bind_some, e2]
      rfl
    · refine ⟨ws.length + 2, ?_⟩
      unfold whL
      have e1 : F1__law_same (.lst [pr (stD ws)]) = some true := F1_same [] _
      have e2 : F2__law_same (.lst [pr (stD ws)]) = some (.nx (.lst (ws.map fun w => pr (.str w)))) := same_row ws hl [] (by decide)
      rw [e1, Option.bind_some, e2]
      exact same_wh ws.length ws rfl
  obtain ⟨n, hn⟩ := key
  unfold F__law_same
  show ((whD (ε := D) F1__law_same F2__law_same (.lst [pr d])).bind _) = _
  rw [whD_of hn]
  rfl
end DL

set_option Elab.async false
set_option linter.all false
set_option maxRecDepth 100000
set_option maxHeartbeats 1000000
namespace DL
open PySem PySem.Spec PyProof.Rows L2
section
variable {L : List Row} {bars : List Str} {aim k : Str} {d : D}
/-! ### ways are short -/
theorem best_len (hL : LOk L) {ws : List Str} (hk : k ∈ keys L) (h : Best (nbL L bars) (gl L aim) k ws) : ws.length < 1000 := by
  obtain ⟨W, fW, kW, _⟩ := next_layers_ok hL hk bars
  obtain ⟨d, h2, e2⟩ := law_way_ok hL hk aim bars
  have h3 := h.dst
  -- the distances that the rounds tell are small
  have I : ∃ F : FM, (∀ c m, F.lookup c = some m ↔ Dst (nbL L bars) (gl L aim) c m) ∧ ∀ c m, F.lookup c = some m → m ≤ 5 := by
    have I0 : FI L bars aim 0 (((keys L).filter (glB L aim)).map fun c => (c, 0)) := by
      refine ⟨fun c n => ?_, ?_, fun c hc => ?_⟩
      · rw [lookup_const]
        by_cases q : c ∈ (keys L).filter (glB L aim)
        · rw [if_pos q]
          have := Dst.zero (nb := nbL L bars) (glB_iff.mp (List.mem_filter.mp q).2)
          constructor
          · intro z; cases z; exact ⟨this, Nat.le_refl _⟩
          · intro z; rw [this.one z.1]
        · rw [if_neg q]
          constructor
          · intro z; cases z
          · rintro ⟨z, z2⟩
            have : n = 0 := by omega
            subst this
            exact absurd (List.mem_filter.mpr ⟨dst_key z, glB_iff.mpr z.of_zero⟩) q
      · unfold fk
        rw [List.map_map]
        show (((keys L).filter (glB L aim)).map fun c => c).Nodup
        rw [List.map_id']
        exact hL.nd.filter _
      · unfold fk at hc
        rw [List.map_map] at hc
        obtain ⟨c', hc', rfl⟩ := List.mem_map.mp hc
        exact (List.mem_filter.mp hc').1
    have l5 := hL.len
    obtain ⟨F, S, j, hF, hF5, _⟩ := rounds_ok hL (L.length + 1) 0 _ I0 (Nat.zero_le _) (by omega)
    exact ⟨F, hF, hF5⟩
  obtain ⟨F, hF, hF5⟩ := I
  have := hF5 _ _ ((hF _ _).mpr h3)
  omega
theorem SW.same (hL : LOk L) (hk : k ∈ keys L) (h : SW L k aim bars d) : F__law_same d d = some (.bl true) := by
  rcases h with ⟨ws, b, rfl⟩ | ⟨_, rfl⟩
  · exact same_self (.inr ⟨ws, best_len hL hk b, rfl⟩)
  · exact same_self (.inl .non)
/-! ### asked -/
theorem asked_ok (hL : LOk L) (hk : k ∈ keys L) (aim : Str) (bars : List Str) : F__law_asked (ladD L) (.str k) (.str aim) (.tup (bars.map .str)) = some (.bl true) := by
  obtain ⟨d, h, e1, e2, e3⟩ := same_way hL hk aim bars
  unfold F__law_asked
  rw [e2, Option.bind_some, e3, Option.bind_some, isi_bb, Option.bind_some, dTru_b, Option.bind_some, cond_true]
  have e4 : dNotN d .non = some (.bl (!d.isNon)) := rfl
  have e5 : dEq (.bl (!d.isNon)) (.bl (!d.isNon)) = some (.bl true) := by
    show (some ((!d.isNon) == (!d.isNon))).map D.bl = _
    simp
  rw [e4, Option.bind_some, e5, Option.bind_some, dTru_b, Option.bind_some, cond_true, e1, Option.bind_some, h.same hL hk, Option.bind_some, Option.bind_some, Option.bind_some]
/-! ### looked -/
open Classical in
noncomputable def noWay (L : List Row) (k o : Str) : Bool := decide (∀ us, ¬ Way (nbL L [o]) (gl L "") k us)
open Classical in
theorem SW.isNon {o : Str} (h : SW L k "" [o] d) : d.isNon = noWay L k o := by
  unfold noWay
  rcases h with ⟨ws, b, rfl⟩ | ⟨n, rfl⟩
  · exact (decide_eq_false fun z => z _ b.1).symm
  · exact (decide_eq_true n).symm
theorem must_ok (hL : LOk L) (hk : k ∈ keys L) : F_must_pass (ladD L) (.str k) = some (stD ((keys L).filter fun o => decide (o ≠ k) && noWay L k o)) := by
  have l5 := hL.len
  unfold F_must_pass
  show ((some (L.map rowD)).bind _) = _
  have e1 := lcP_map (e := rowD) (f := C1_must_pass (.str k)) (p := fun r => decide (r.1 ≠ k)) (g := fun r => D.str r.1) (xs := L) fun r _ => by
    unfold C1_must_pass
    show ((some (D.str r.1, stD r.2)).bind _) = _
    rw [Option.bind_some, dNe_str, Option.bind_some, asB_bl, Option.bind_some, ← decide_not]
    cases decide (r.1 ≠ k) <;> rfl
  rw [Option.bind_some, e1, Option.bind_some]
  have ek : (L.filter fun r => decide (r.1 ≠ k)).map (fun r => D.str r.1) = ((keys L).filter fun o => decide (o ≠ k)).map D.str := by
    unfold keys
    rw [List.filter_map, List.map_map]
    rfl
  have lf := List.length_filter_le (fun o => decide (o ≠ k)) (keys L)
  rw [keys_len] at lf
  rw [ek, szG_ok (by rw [List.length_map]; omega), Option.bind_some]
  show ((some (((keys L).filter fun o => decide (o ≠ k)).map D.str)).bind _) = _
  have e2 := lcP_map (e := D.str) (f := C2_must_pass (ladD L) (.str k)) (p := fun o => noWay L k o) (g := D.str) (xs := (keys L).filter fun o => decide (o ≠ k)) fun o _ => by
    obtain ⟨d, h, _, _, e3⟩ := same_way hL hk "" [o]
    unfold C2_must_pass
    show ((F_has_way (ladD L) (.str k) (.str "") (.tup (([o]).map .str))).bind _) = _
    rw [e3, Option.bind_some, dTru_b, Option.bind_some, h.isNon, Bool.not_not]
    cases noWay L k o <;> rfl
  have lg := List.length_filter_le (fun o => noWay L k o) ((keys L).filter fun o => decide (o ≠ k))
  rw [Option.bind_some, e2, Option.bind_some, szG_ok (by rw [List.length_map]; omega), Option.bind_some, List.filter_filter]
  show some (D.tup _) = _
  unfold stD
  congr 3
  refine congrArg (fun p => List.filter p (keys L)) ?_
  funext o
  rw [Bool.and_comm]
theorem due_ok (hL : LOk L) (hk : k ∈ keys L) : lcP (C3__law_looked (ladD L) (.str k)) ((keys L).map .str) = some (((keys L).filter fun o => decide (o ≠ k) && noWay L k o).map .str) := by
  refine lcP_map fun o _ => ?_
  obtain ⟨d, h, _, e2, _⟩ := same_way hL hk "" [o]
  unfold C3__law_looked
  rw [dNe_str, Option.bind_some, asB_bl, Option.bind_some, ← decide_not]
  by_cases q : ¬ o = k
  · rw [decide_eq_true q, cond_true]
    have e2 : F__law_way (ladD L) (.str k) (.str "") (.tup [.str o]) = some d := e2
    have e4 : dIsN d .non = some (.bl d.isNon) := rfl
    rw [e2, Option.bind_some, e4, Option.bind_some, asB_bl, Option.bind_some, Option.bind_some, h.isNon, Bool.true_and]
    cases noWay L k o <;> rfl
  · rw [decide_eq_false q, cond_false]
    rfl
theorem Up.way (hL : LOk L) (hu : Up L) (hk : k ∈ keys L) (h : SW L k "" [] d) : ∃ ws, Best (nbL L []) (gl L "") k ws ∧ d = stD ws := by
  rcases h with h | ⟨n, _⟩
  · exact h
  · obtain ⟨ws, hw⟩ := hu k hk
    exact absurd hw (n _)
open Classical in
/-- how many steps up -/
noncomputable def stp (L : List Row) (k : Str) : Nat := if h : ∃ ws, Best (nbL L []) (gl L "") k ws then h.choose.length else 0
theorem stp_eq {ws : List Str} (h : Best (nbL L []) (gl L "") k ws) : stp L k = ws.length := by
  have q : ∃ ws, Best (nbL L []) (gl L "") k ws := ⟨ws, h⟩
  unfold stp
  rw [dif_pos q, q.choose_spec.one h]
theorem ints_max_ok (n : Nat) (ns : List Nat) : ∃ m : Int, dMax1 (.lst ((n :: ns).map fun k : Nat => D.int (k : Int))) = some (.int m) := by
  have e : ∀ ns : List Nat, intsOf (ns.map fun k : Nat => D.int (k : Int)) = some (ns.map fun k : Nat => (k : Int)) := by
    intro ns
    induction ns with
    | nil => rfl
    | cons n ns ih =>
      show (intsOf (ns.map fun k : Nat => D.int (k : Int))).map ((n : Int) :: ·) = _
      rw [ih]
      rfl
  have e2 : dMax1 (.lst ((n :: ns).map fun k : Nat => D.int (k : Int))) = (((n :: ns).map fun k : Nat => (k : Int)).max?).map D.int := by
    show (match intsOf ((n :: ns).map fun k : Nat => D.int (k : Int)) with
      | some ns => (ns.max?).map D.int
      | none => match strL ((n :: ns).map fun k : Nat => D.int (k : Int)) with
        | some (x :: xs) => some (.str (maxS x xs))
        | _ => none) = _
    rw [e]
  rw [e2]
  cases hm : ((n :: ns).map fun k : Nat => (k : Int)).max? with
  | none =>
    rw [List.max?_eq_none_iff] at hm
    cases hm
  | some m => exact ⟨m, rfl⟩
theorem longest_lc (hL : LOk L) (hu : Up L) : lcP (C1_longest_needed (ladD L)) (L.map rowD) = some ((keys L).map fun k => D.int (stp L k : Int)) := by
  have q := lcP_map (e := rowD) (f := C1_longest_needed (ladD L)) (p := fun _ => true) (g := fun r => D.int (stp L r.1 : Int)) (xs := L) fun r hr => by
    have hk : r.1 ∈ keys L := List.mem_map_of_mem hr
    obtain ⟨d, h, e1, _, _⟩ := same_way hL hk "" []
    obtain ⟨ws, b, rfl⟩ := hu.way hL hk h
    unfold C1_longest_needed
    show ((some (D.str r.1, stD r.2)).bind _) = _
    rw [Option.bind_some]
    show ((F_short_way (ladD L) (.str r.1) (.str "") (.tup (([] : List Str).map .str))).bind _) = _
    rw [e1, Option.bind_some]
    show ((some (D.int ((ws.map D.str).length : Int))).bind _) = _
    rw [List.length_map, stp_eq b]
    rfl
  rw [q, List.filter_eq_self.mpr fun _ _ => rfl]
  unfold keys
  rw [List.map_map]
  rfl
theorem longest_ok (hL : LOk L) (hu : Up L) {m : Int} (hm : dMax1 (.lst ((keys L).map fun k => D.int (stp L k : Int))) = some (.int m)) : F_longest_needed (ladD L) = some (.int m) := by
  have l5 := hL.len
  unfold F_longest_needed
  show ((some (L.map rowD)).bind _) = _
  rw [Option.bind_some, longest_lc hL hu, Option.bind_some, szG_ok (by rw [List.length_map, keys_len]; omega), Option.bind_some]
  show ((dMax1 (.lst ((keys L).map fun k => D.int (stp L k : Int)))).bind _) = _
  rw [hm]
  rfl
theorem max_some (hl : 0 < L.length) : ∃ m : Int, dMax1 (.lst ((keys L).map fun k => D.int (stp L k : Int))) = some (.int m) := by
  cases hk : keys L with
  | nil =>
    have := keys_len L
    rw [hk] at this
    simp at this
    omega
  | cons x xs =>
    have := ints_max_ok (stp L x) (xs.map (stp L))
    rw [show (stp L x :: xs.map (stp L)) = (x :: xs).map (stp L) from rfl, List.map_map] at this
    exact this
theorem forL_all {σ ε : Type} {step : D → σ → Option (Lp σ ε)} {s : σ} : ∀ {ds : List D}, (∀ d ∈ ds, step d s = some (.nx s)) → forL step ds s = some (.inl s)
  | [], _ => rfl
  | d :: ds, h => by
    show (step d s).bind (lpL fun s' => forL step ds s') = _
    rw [h d List.mem_cons_self]
    exact forL_all fun e he => h e (List.mem_cons_of_mem _ he)
theorem looked_ok (hL : LOk L) (hu : Up L) (hl : 0 < L.length) : F__law_looked (ladD L) = some (.bl true) := by
  have l5 := hL.len
  obtain ⟨m, hm⟩ := max_some hl
  have eN : lcP C1__law_looked (L.map rowD) = some ((keys L).map .str) := by
    have q := lcP_map (e := rowD) (f := C1__law_looked) (p := fun _ => true) (g := fun r => D.str r.1) (xs := L) fun r hr => rfl
    rw [q, List.filter_eq_self.mpr fun _ _ => rfl]
    unfold keys
    rw [List.map_map]
    rfl
  have e2 : lcP (C2__law_looked (ladD L)) ((keys L).map .str) = some ((keys L).map fun k => D.int (stp L k : Int)) := by
    have q := lcP_map (e := D.str) (f := C2__law_looked (ladD L)) (p := fun _ => true) (g := fun k => D.int (stp L k : Int)) (xs := keys L) fun k hk => by
      obtain ⟨d, h, _, e1, _⟩ := same_way hL hk "" []
      obtain ⟨ws, b, rfl⟩ := hu.way hL hk h
      unfold C2__law_looked
      show ((F__law_way (ladD L) (.str k) (.str "") (.tup (([] : List Str).map .str))).bind _) = _
      rw [e1, Option.bind_some]
      show ((some (D.int ((ws.map D.str).length : Int))).bind _) = _
      rw [List.length_map, stp_eq b]
      rfl
    rw [q, List.filter_eq_self.mpr fun _ _ => rfl]
  have e3 : forL (ε := D) (F1__law_looked (ladD L) ((keys L).map .str)) ((keys L).map .str) () = some (.inl ()) := by
    refine forL_all fun d hd => ?_
    obtain ⟨k, hk, rfl⟩ := List.mem_map.mp hd
    have lf := List.length_filter_le (fun o => decide (o ≠ k) && noWay L k o) (keys L)
    rw [keys_len] at lf
    unfold F1__law_looked
    show ((some ((keys L).map D.str)).bind _) = _
    rw [Option.bind_some, due_ok hL hk, Option.bind_some, szG_ok (by rw [List.length_map]; omega), Option.bind_some, must_ok hL hk, Option.bind_some]
    show ((F__law_same (stD _) (stD _)).bind _) = _
    rw [same_self (.inr ⟨_, by omega, rfl⟩)]
    rfl
  unfold F__law_looked
  show ((some (L.map rowD)).bind _) = _
  rw [Option.bind_some, eN, Option.bind_some, szG_ok (by rw [List.length_map, keys_len]; omega), Option.bind_some, longest_ok hL hu hm, Option.bind_some]
  show ((some ((keys L).map D.str)).bind _) = _
  rw [Option.bind_some, e2, Option.bind_some, szG_ok (by rw [List.length_map, keys_len]; omega), Option.bind_some]
  show ((dMax1 (.lst ((keys L).map fun k => D.int (stp L k : Int)))).bind _) = _
  rw [hm, Option.bind_some, same_self (.inl (.int m)), Option.bind_some, dTru_b, Option.bind_some, Bool.not_true, cond_false]
  show ((some ((keys L).map D.str)).bind _) = _
  rw [Option.bind_some, e3]
  rfl
end
end DL

set_option Elab.async false
set_option linter.all false
set_option maxRecDepth 100000
set_option maxHeartbeats 1000000
namespace DL
open PySem PySem.Spec PyProof.Rows L2
/-! ### told answers -/
theorem short_is {L : List Row} (hL : LOk L) {k aim : Str} {bars : List Str} {d : D} (hk : k ∈ keys L) (h : SW L k aim bars d) : F_short_way (ladD L) (.str k) (.str aim) (.tup (bars.map .str)) = some d := by
  obtain ⟨d', h', e, _⟩ := same_way hL hk aim bars
  rw [h.one h']
  exact e
theorem has_is {L : List Row} (hL : LOk L) {k aim : Str} {bars : List Str} {d : D} (hk : k ∈ keys L) (h : SW L k aim bars d) : F_has_way (ladD L) (.str k) (.str aim) (.tup (bars.map .str)) = some (.bl (!d.isNon)) := has_way_ok (short_is hL hk h)
/-! ### rows in order: their names in order -/
theorem leR_leS {a b : Row} (h : leD (rowD a) (rowD b) = true) : leS a.1 b.1 = true := by
  rcases leS_total a.1 b.1 with g | g
  · exact g
  · by_cases z : a.1 = b.1
    · rw [z]; exact leS_refl _
    · have n : leS a.1 b.1 = false := by
        cases w : leS a.1 b.1 with
        | false => rfl
        | true => exact absurd (leS_anti w g) z
      have n2 : PySem.W.dataLt (.str b.1) (.str a.1) = true := by
        rw [dataLt_leD]
        show (!leS a.1 b.1) = true
        rw [n]
        rfl
      have ea : (rowD a).py = .tuple [.str a.1, .tuple (pyL (a.2.map D.str))] := by rw [rowD, stD, py_tup, py_cons, py_cons, py_nil, py_tup, py_str]
      have eb : (rowD b).py = .tuple [.str b.1, .tuple (pyL (b.2.map D.str))] := by rw [rowD, stD, py_tup, py_cons, py_cons, py_nil, py_tup, py_str]
      have e : leD (rowD a) (rowD b) = !PySem.W.dataLt (rowD b).py (rowD a).py := rfl
      rw [e, ea, eb, PySem.W.dataLt_pair (by simp [PySem.W.alike]) (by rw [PySem.W.alike]; exact alike_strs b.2 a.2)] at h
      have q : PyData.eqv (.str b.1) (.str a.1) = false := by
        simp only [PyData.eqv]
        rw [beq_eq_false_iff_ne]
        exact fun y => z y.symm
      rw [q, if_neg (by simp), n2] at h
      cases h
theorem srtR_keys_pw (L : List Row) : (keys (srtR L)).Pairwise fun a b => leS a b = true := by
  have h : (srtR L).Pairwise fun a b => leD (rowD a) (rowD b) = true :=
    List.pairwise_mergeSort (le := fun a b => leD (rowD a) (rowD b)) (fun a b c => leD_total.trans (rowD a) (rowD b) (rowD c)) (fun a b => by rw [Bool.or_eq_true]; exact leD_total.total (rowD a) (rowD b)) L
  exact List.pairwise_map.mpr (h.imp fun q => leR_leS q)
theorem srt_pw (xs : List Str) : (srt xs).Pairwise fun a b => leS a b = true :=
  List.pairwise_mergeSort (le := fun a b => leS a b) (fun a b c => leS_trans) (fun a b => by rw [Bool.or_eq_true]; exact leS_total a b) xs
theorem sorted_eq {xs ys : List Str} (h1 : xs.Pairwise fun a b => leS a b = true) (h2 : ys.Pairwise fun a b => leS a b = true) (p : xs.Perm ys) : xs = ys :=
  List.Perm.eq_of_pairwise (fun a b _ _ q r => leS_anti q r) h1 h2 p
/-! ### each one under the next one -/
structure Ln (L : List Row) (ws : List Str) : Prop where
  ok : LOk L
  bo : ∀ i (h : i < ws.length), bo L ws[i] = some [ws.getD (i + 1) ""]
  ks : (keys L).Perm ws
  nd : ws.Nodup
  ne : ("" : Str) ∉ ws
section
variable {L : List Row} {ws bars : List Str} {aim : Str} {i m e : Nat}
theorem getD_lt {ws : List Str} {i : Nat} (h : i < ws.length) : ws.getD i "" = ws[i] := by
  rw [List.getD_eq_getElem?_getD, List.getElem?_eq_getElem h]
  rfl
theorem getD_ge {ws : List Str} {i : Nat} (h : ws.length ≤ i) : ws.getD i "" = "" := by
  rw [List.getD_eq_getElem?_getD, List.getElem?_eq_none h]
  rfl
theorem Ln.mem (l : Ln L ws) (h : i < ws.length) : ws[i] ∈ keys L := l.ks.mem_iff.mpr (List.getElem_mem h)
theorem Ln.nb (l : Ln L ws) (h : i < ws.length) {b : Str} : b ∈ nbL L bars ws[i] ↔ ∃ h2 : i + 1 < ws.length, b = ws[i + 1] ∧ b ∉ bars := by
  rw [nbL_mem]
  constructor
  · rintro ⟨bs, e, h1, h2, h3⟩
    rw [l.bo i h] at e
    cases e
    have h1 := List.mem_singleton.mp h1
    have hlt : i + 1 < ws.length := by
      rcases Nat.lt_or_ge (i + 1) ws.length with z | z
      · exact z
      · rw [getD_ge z] at h1
        exact absurd h1 h2
    exact ⟨hlt, h1.trans (getD_lt hlt), h3⟩
  · rintro ⟨hlt, rfl, h3⟩
    exact ⟨_, l.bo i h, by rw [getD_lt hlt]; exact List.mem_singleton_self _, fun z => l.ne (z ▸ List.getElem_mem hlt), h3⟩
theorem Ln.gl (l : Ln L ws) (h : i < ws.length) : gl L aim ws[i] ↔ aim = ws.getD (i + 1) "" := by
  unfold DL.gl
  rw [l.bo i h]
  simp
theorem Ln.path (l : Ln L ws) : ∀ {us : List Str} {i : Nat} (h : i < ws.length), Path (nbL L bars) ws[i] us → ∃ h2 : i + us.length < ws.length, us = (ws.drop (i + 1)).take us.length ∧ (∀ b ∈ us, b ∉ bars) ∧ endp ws[i] us = ws[i + us.length]
  | [], i, h, _ => ⟨h, rfl, (fun b hb => by cases hb), rfl⟩
  | b :: us, i, h, p => by
    obtain ⟨h1, rfl, h3⟩ := (l.nb h).mp p.1
    obtain ⟨g1, g2, g3, g4⟩ := Ln.path l h1 p.2
    have e1 : i + 1 + us.length = i + (us.length + 1) := by omega
    refine ⟨by rw [List.length_cons, ← e1]; exact g1, ?_, fun c hc => ?_, ?_⟩
    · rw [List.length_cons, List.drop_eq_getElem_cons h1, List.take_succ_cons, ← g2]
    · rcases List.mem_cons.mp hc with z | z
      · rw [z]; exact h3
      · exact g3 c z
    · show endp ws[i + 1] us = _
      rw [g4]
      congr 1
theorem Ln.path_of (l : Ln L ws) : ∀ (m : Nat) {i : Nat} (h : i < ws.length) (h2 : i + m < ws.length), (∀ b ∈ (ws.drop (i + 1)).take m, b ∉ bars) → Path (nbL L bars) ws[i] ((ws.drop (i + 1)).take m) ∧ endp ws[i] ((ws.drop (i + 1)).take m) = ws[i + m]
  | 0, i, h, h2, _ => ⟨trivial, rfl⟩
  | m + 1, i, h, h2, hb => by
    have h1 : i + 1 < ws.length := by omega
    rw [List.drop_eq_getElem_cons h1, List.take_succ_cons] at hb ⊢
    obtain ⟨g1, g2⟩ := Ln.path_of l m h1 (by omega) fun b hm => hb b (List.mem_cons_of_mem _ hm)
    refine ⟨⟨(l.nb h).mpr ⟨h1, rfl, hb _ List.mem_cons_self⟩, g1⟩, ?_⟩
    show endp ws[i + 1] _ = _
    rw [g2]
    congr 1
    omega
theorem Ln.sw (l : Ln L ws) (h : i < ws.length) (he : e < ws.length) (hie : i ≤ e) (ha : aim = ws.getD (e + 1) "") (hu : ∀ e', e' < ws.length → aim = ws.getD (e' + 1) "" → e' = e) (hb : ∀ b ∈ (ws.drop (i + 1)).take (e - i), b ∉ bars) : SW L ws[i] aim bars (stD ((ws.drop (i + 1)).take (e - i))) := by
  have h2 : i + (e - i) < ws.length := by omega
  obtain ⟨p1, p2⟩ := l.path_of (bars := bars) (e - i) h h2 hb
  refine .inl ⟨_, ⟨⟨p1, ?_⟩, fun us hu' => ?_⟩, rfl⟩
  · rw [p2, l.gl h2, ha]
    congr 1
    omega
  · obtain ⟨q1, q2, q3, q4⟩ := l.path h hu'.1
    have g := hu'.2
    rw [q4, l.gl q1] at g
    have := hu _ q1 g
    have el : us.length = e - i := by omega
    rw [q2, el]
    exact leK.refl _
theorem Ln.sw_none (l : Ln L ws) (h : i < ws.length) (hn : ∀ e, i ≤ e → e < ws.length → aim = ws.getD (e + 1) "" → ∃ b ∈ (ws.drop (i + 1)).take (e - i), b ∈ bars) : SW L ws[i] aim bars .non := by
  refine .inr ⟨fun us hu => ?_, rfl⟩
  obtain ⟨q1, q2, q3, q4⟩ := l.path h hu.1
  have g := hu.2
  rw [q4, l.gl q1] at g
  obtain ⟨b, hb, hb2⟩ := hn _ (Nat.le_add_right _ _) q1 g
  rw [Nat.add_sub_cancel_left, ← q2] at hb
  exact q3 b hb hb2
theorem Ln.last (l : Ln L ws) (he : e < ws.length) (h : "" = ws.getD (e + 1) "") : e + 1 = ws.length := by
  rcases Nat.lt_or_ge (e + 1) ws.length with z | z
  · rw [getD_lt z] at h
    exact absurd (h ▸ List.getElem_mem z) l.ne
  · omega
theorem Ln.at_ (l : Ln L ws) {a : Nat} (ha : a < ws.length) (he : e < ws.length) (h : ws[a] = ws.getD (e + 1) "") : e + 1 = a := by
  rcases Nat.lt_or_ge (e + 1) ws.length with z | z
  · rw [getD_lt z] at h
    exact (nodup_inj l.nd ha z h).symm
  · rw [getD_ge z] at h
    exact absurd (h ▸ List.getElem_mem ha) l.ne
/-- up to the end -/
theorem Ln.sw_up (l : Ln L ws) (h : i < ws.length) : SW L ws[i] "" [] (stD (ws.drop (i + 1))) := by
  have q := l.sw (aim := "") (bars := []) (e := ws.length - 1) h (by omega) (by omega) (by rw [getD_ge (by omega)]) (fun e' he' hh => by have := l.last he' hh; omega) (fun _ _ z => by cases z)
  rw [List.take_of_length_le (by rw [List.length_drop]; omega)] at q
  exact q
theorem Ln.up (l : Ln L ws) : Up L := fun k hk => by
  obtain ⟨i, h, rfl⟩ := List.getElem_of_mem (l.ks.mem_iff.mp hk)
  rcases l.sw_up h with ⟨us, b, _⟩ | ⟨_, z⟩
  · exact ⟨us, b.1⟩
  · cases z
theorem stD_inj {a b : List Str} (h : stD a = stD b) : a = b := by
  have h : a.map D.str = b.map D.str := D.tup.inj h
  induction a generalizing b with
  | nil =>
    cases b with
    | nil => rfl
    | cons y b => cases h
  | cons x a ih =>
    cases b with
    | nil => cases h
    | cons y b =>
      obtain ⟨h1, h2⟩ := List.cons.inj h
      rw [D.str.inj h1, ih (by unfold stD; rw [h2]) h2]
theorem Ln.stp (l : Ln L ws) (h : i < ws.length) : DL.stp L ws[i] = ws.length - 1 - i := by
  rcases l.sw_up h with ⟨us, b, e⟩ | ⟨_, z⟩
  · rw [stp_eq b, ← stD_inj e, List.length_drop]
    omega
  · cases z
theorem Ln.longest (l : Ln L ws) (h : 0 < ws.length) : F_longest_needed (ladD L) = some (.int ((ws.length : Int) - 1)) := by
  have hl : 0 < L.length := by
    have := l.ks.length_eq
    rw [keys_len] at this
    omega
  obtain ⟨m, hm⟩ := max_some hl
  have e2 : dMax1 (.lst ((keys L).map fun k => D.int (DL.stp L k : Int))) = (((keys L).map fun k => (DL.stp L k : Int)).max?).map D.int := by
    have e : ∀ xs : List Str, intsOf (xs.map fun k => D.int (DL.stp L k : Int)) = some (xs.map fun k => (DL.stp L k : Int)) := by
      intro xs
      induction xs with
      | nil => rfl
      | cons n ns ih =>
        show (intsOf (ns.map fun k => D.int (DL.stp L k : Int))).map ((DL.stp L n : Int) :: ·) = _
        rw [ih]
        rfl
    show (match intsOf ((keys L).map fun k => D.int (DL.stp L k : Int)) with
      | some ns => (ns.max?).map D.int
      | none => match strL ((keys L).map fun k => D.int (DL.stp L k : Int)) with
        | some (x :: xs) => some (.str (maxS x xs))
        | _ => none) = _
    rw [e]
  have hmax : ((keys L).map fun k => (DL.stp L k : Int)).max? = some ((ws.length : Int) - 1) := by
    rw [List.max?_eq_some_iff]
    refine ⟨List.mem_map.mpr ⟨ws[0], l.mem h, by rw [l.stp h]; omega⟩, fun x hx => ?_⟩
    obtain ⟨k, hk, rfl⟩ := List.mem_map.mp hx
    obtain ⟨i, hi, rfl⟩ := List.getElem_of_mem (l.ks.mem_iff.mp hk)
    rw [l.stp hi]
    omega
  refine longest_ok l.ok l.up ?_
  rw [e2, hmax]
  rfl
theorem Ln.must (l : Ln L ws) (h : 0 < ws.length) (hs : (keys L).Pairwise fun a b => leS a b = true) : F_must_pass (ladD L) (.str ws[0]) = some (stD (srt (ws.drop 1))) := by
  rw [must_ok l.ok (l.mem h)]
  congr 2
  have e1 : (keys L).filter (fun o => decide (o ≠ ws[0]) && noWay L ws[0] o) = (keys L).filter fun o => decide (o ≠ ws[0]) := by
    refine List.filter_congr fun o ho => ?_
    by_cases q : o ≠ ws[0]
    · rw [decide_eq_true q, Bool.true_and]
      obtain ⟨i, hi, rfl⟩ := List.getElem_of_mem (l.ks.mem_iff.mp ho)
      have i0 : 0 < i := Nat.pos_of_ne_zero fun z => q (by subst z; rfl)
      have s := l.sw_none (aim := "") (bars := [ws[i]]) h fun e _ he hh => by
        have := l.last he hh
        refine ⟨ws[i], ?_, List.mem_singleton_self _⟩
        rw [List.take_of_length_le (by rw [List.length_drop]; omega)]
        rw [List.mem_iff_getElem]
        refine ⟨i - 1, by rw [List.length_drop]; omega, ?_⟩
        rw [List.getElem_drop]
        congr 1
        omega
      rw [← s.isNon]
      rfl
    · rw [decide_eq_false q]
      rfl
  rw [e1]
  refine sorted_eq (hs.filter _) (srt_pw _) ?_
  refine ((l.ks.filter _).trans ?_).trans (srt_perm _).symm
  have e2 : ws.filter (fun o => decide (o ≠ ws[0])) = ws.drop 1 := by
    cases ws with
    | nil => cases h
    | cons x xs =>
      show (x :: xs).filter (fun o => decide (o ≠ x)) = xs
      rw [List.filter_cons_of_neg (by simp), List.filter_eq_self]
      intro a ha
      rw [decide_eq_true_eq]
      exact fun z => (List.nodup_cons.mp l.nd).1 (z ▸ ha)
  rw [e2]
end
end DL

set_option Elab.async false
set_option linter.all false
set_option maxRecDepth 100000
set_option maxHeartbeats 1000000
namespace DL
open PySem PySem.Spec PyProof.Rows L2
open Classical in
theorem noWay_t {L : List Row} {k o : Str} (h : ∀ us, ¬ Way (nbL L [o]) (gl L "") k us) : noWay L k o = true := by
  unfold noWay
  exact decide_eq_true h
open Classical in
theorem noWay_f {L : List Row} {k o : Str} {us : List Str} (h : Way (nbL L [o]) (gl L "") k us) : noWay L k o = false := by
  unfold noWay
  exact decide_eq_false fun z => z _ h
/-! ### the two ways of one length -/
def rows2 (a b c d : Str) : List Row := [(a, srt [b, c]), (b, [d]), (c, [d]), (d, [""])]
structure Four (a b c d : Str) : Prop where
  nd : [a, b, c, d].Nodup
  ne : ("" : Str) ∉ [a, b, c, d]
section
variable {a b c d o : Str} {bars us : List Str}
theorem Four.ab (h : Four a b c d) : a ≠ b ∧ a ≠ c ∧ a ≠ d ∧ b ≠ c ∧ b ≠ d ∧ c ≠ d := by
  have := h.nd
  simp only [List.nodup_cons, List.mem_cons, List.not_mem_nil, or_false, not_or] at this
  obtain ⟨⟨h1, h2, h3⟩, ⟨h4, h5⟩, h6, _⟩ := this
  exact ⟨h1, h2, h3, h4, h5, h6⟩
theorem Four.n (h : Four a b c d) : a ≠ "" ∧ b ≠ "" ∧ c ≠ "" ∧ d ≠ "" := by
  have := h.ne
  simp only [List.mem_cons, List.not_mem_nil, or_false, not_or] at this
  obtain ⟨h1, h2, h3, h4⟩ := this
  exact ⟨fun z => h1 z.symm, fun z => h2 z.symm, fun z => h3 z.symm, fun z => h4 z.symm⟩
theorem srt2 {x : Str} : x ∈ srt [b, c] ↔ x = b ∨ x = c := by
  rw [srt_mem]
  simp
theorem Four.keys (h : Four a b c d) : (keys (srtR (rows2 a b c d))).Perm [a, b, c, d] := srtR_keys _
theorem Four.ok (h : Four a b c d) : LOk (srtR (rows2 a b c d)) := by
  have pk := h.keys
  have mem : ∀ {r}, r ∈ srtR (rows2 a b c d) ↔ r ∈ rows2 a b c d := fun {r} => (srtR_perm _).mem_iff
  obtain ⟨h1, h2, h3, h4, h5, h6⟩ := h.ab
  have kk : ∀ {x}, x ∈ DL.keys (srtR (rows2 a b c d)) ↔ x ∈ [a, b, c, d] := fun {x} => pk.mem_iff
  refine ⟨pk.nodup_iff.mpr h.nd, fun z => h.ne (kk.mp z), fun r hr x hx => ?_, fun r hr => ?_, ?_⟩
  · have hr := mem.mp hr
    rw [kk]
    simp only [rows2, List.mem_cons, List.not_mem_nil, or_false] at hr
    rcases hr with rfl | rfl | rfl | rfl
    · right
      rcases srt2.mp hx with rfl | rfl <;> simp
    · right
      rw [List.mem_singleton.mp hx]; simp
    · right
      rw [List.mem_singleton.mp hx]; simp
    · left
      exact List.mem_singleton.mp hx
  · have hr := mem.mp hr
    simp only [rows2, List.mem_cons, List.not_mem_nil, or_false] at hr
    rcases hr with rfl | rfl | rfl | rfl
    · exact (srt_perm _).nodup_iff.mpr (by simp [h4])
    · simp
    · simp
    · simp
  · rw [(srtR_perm _).length_eq]
    show 4 ≤ 5
    decide
theorem Four.bo (h : Four a b c d) : bo (srtR (rows2 a b c d)) a = some (srt [b, c]) ∧ bo (srtR (rows2 a b c d)) b = some [d] ∧ bo (srtR (rows2 a b c d)) c = some [d] ∧ bo (srtR (rows2 a b c d)) d = some [("" : Str)] := by
  have nd := h.ok.nd
  have mem : ∀ {r}, r ∈ srtR (rows2 a b c d) ↔ r ∈ rows2 a b c d := fun {r} => (srtR_perm _).mem_iff
  refine ⟨bo_of nd (mem.mpr ?_), bo_of nd (mem.mpr ?_), bo_of nd (mem.mpr ?_), bo_of nd (mem.mpr ?_)⟩ <;> simp [rows2]
theorem Four.nba (h : Four a b c d) {x : Str} : x ∈ nbL (srtR (rows2 a b c d)) bars a ↔ (x = b ∨ x = c) ∧ x ∉ bars := by
  obtain ⟨b1, b2, b3, b4⟩ := h.bo
  obtain ⟨n1, n2, n3, n4⟩ := h.n
  rw [nbL_mem, b1]
  constructor
  · rintro ⟨bs, e, h1, h2, h3⟩
    cases e
    exact ⟨srt2.mp h1, h3⟩
  · rintro ⟨h1, h3⟩
    refine ⟨_, rfl, srt2.mpr h1, ?_, h3⟩
    rcases h1 with rfl | rfl
    · exact n2
    · exact n3
theorem Four.nbx (h : Four a b c d) {x y : Str} (hx : x = b ∨ x = c) : y ∈ nbL (srtR (rows2 a b c d)) bars x ↔ y = d ∧ y ∉ bars := by
  obtain ⟨b1, b2, b3, b4⟩ := h.bo
  obtain ⟨n1, n2, n3, n4⟩ := h.n
  have e : DL.bo (srtR (rows2 a b c d)) x = some [d] := by
    rcases hx with rfl | rfl
    · exact b2
    · exact b3
  rw [nbL_mem, e]
  constructor
  · rintro ⟨bs, e, h1, h2, h3⟩
    cases e
    exact ⟨List.mem_singleton.mp h1, h3⟩
  · rintro ⟨rfl, h3⟩
    exact ⟨_, rfl, List.mem_singleton_self _, n4, h3⟩
theorem Four.nbd (h : Four a b c d) {y : Str} : y ∉ nbL (srtR (rows2 a b c d)) bars d := by
  obtain ⟨b1, b2, b3, b4⟩ := h.bo
  rw [nbL_mem, b4]
  rintro ⟨bs, e, h1, h2, h3⟩
  cases e
  exact h2 (List.mem_singleton.mp h1)
theorem Four.way (h : Four a b c d) : Way (nbL (srtR (rows2 a b c d)) bars) (gl (srtR (rows2 a b c d)) "") a us ↔ ∃ x, us = [x, d] ∧ (x = b ∨ x = c) ∧ x ∉ bars ∧ d ∉ bars := by
  obtain ⟨b1, b2, b3, b4⟩ := h.bo
  obtain ⟨n1, n2, n3, n4⟩ := h.n
  constructor
  · rintro ⟨p, g⟩
    match us, p, g with
    | [], p, g =>
      obtain ⟨bs, e, m⟩ := g
      have e : DL.bo (srtR (rows2 a b c d)) a = some bs := e
      rw [b1] at e
      cases e
      rcases srt2.mp m with z | z
      · exact absurd z.symm n2
      · exact absurd z.symm n3
    | [x], p, g =>
      obtain ⟨hx, _⟩ := h.nba.mp p.1
      obtain ⟨bs, e, m⟩ := g
      have e : DL.bo (srtR (rows2 a b c d)) x = some bs := e
      have e2 : DL.bo (srtR (rows2 a b c d)) x = some [d] := by
        rcases hx with rfl | rfl
        · exact b2
        · exact b3
      rw [e2] at e
      cases e
      exact absurd (List.mem_singleton.mp m).symm n4
    | [x, y], p, g =>
      obtain ⟨hx, hx2⟩ := h.nba.mp p.1
      obtain ⟨rfl, hy⟩ := (h.nbx hx).mp p.2.1
      exact ⟨x, rfl, hx, hx2, hy⟩
    | x :: y :: z :: vs, p, g =>
      obtain ⟨hx, hx2⟩ := h.nba.mp p.1
      obtain ⟨rfl, hy⟩ := (h.nbx hx).mp p.2.1
      exact absurd p.2.2.1 h.nbd
  · rintro ⟨x, rfl, hx, hx2, hd⟩
    exact ⟨⟨h.nba.mpr ⟨hx, hx2⟩, (h.nbx hx).mpr ⟨rfl, hd⟩, trivial⟩, [""], b4, List.mem_singleton_self _⟩
theorem leW_two {x y z : Str} (h : leS x y = true) : leW [x, z] [y, z] = true := by
  unfold leW
  split
  · exact leW_refl _
  · exact h
theorem Four.less (h : Four a b c d) {l : Str} (hl : l = b ∨ l = c) (h1 : leS l b = true) (h2 : leS l c = true) : SW (srtR (rows2 a b c d)) a "" [] (stD [l, d]) := by
  refine .inl ⟨_, ⟨h.way.mpr ⟨l, rfl, hl, (fun z => by cases z), fun z => by cases z⟩, fun us hu => ?_⟩, rfl⟩
  obtain ⟨x, rfl, hx, _⟩ := h.way.mp hu
  refine .inr ⟨rfl, leW_two ?_⟩
  rcases hx with rfl | rfl
  · exact h1
  · exact h2
theorem Four.more (h : Four a b c d) {l m : Str} (hlm : (l = b ∧ m = c) ∨ (l = c ∧ m = b)) : SW (srtR (rows2 a b c d)) a "" [l] (stD [m, d]) := by
  obtain ⟨h1, h2, h3, h4, h5, h6⟩ := h.ab
  have hm : m = b ∨ m = c := by rcases hlm with ⟨_, z⟩ | ⟨_, z⟩ <;> simp [z]
  have ne : m ≠ l := by
    rcases hlm with ⟨z, y⟩ | ⟨z, y⟩
    · rw [z, y]; exact fun q => h4 q.symm
    · rw [z, y]; exact h4
  have nd : d ≠ l := by
    rcases hlm with ⟨z, y⟩ | ⟨z, y⟩
    · rw [z]; exact fun q => h5 q.symm
    · rw [z]; exact fun q => h6 q.symm
  refine .inl ⟨_, ⟨h.way.mpr ⟨m, rfl, hm, fun z => ne (List.mem_singleton.mp z), fun z => nd (List.mem_singleton.mp z)⟩, fun us hu => ?_⟩, rfl⟩
  obtain ⟨x, rfl, hx, hx2, _⟩ := h.way.mp hu
  have hx2 : x ≠ l := fun z => hx2 (List.mem_singleton.mpr z)
  have : x = m := by
    rcases hlm with ⟨z, y⟩ | ⟨z, y⟩ <;> rcases hx with q | q
    · exact absurd (q.trans z.symm) hx2
    · exact q.trans y.symm
    · exact q.trans y.symm
    · exact absurd (q.trans z.symm) hx2
  rw [this]
  exact leK.refl _
theorem filter_one : ∀ {l : List Str} {x : Str}, l.Nodup → x ∈ l → l.filter (fun o => decide (o = x)) = [x]
  | y :: l, x, nd, h => by
    obtain ⟨h1, h2⟩ := List.nodup_cons.mp nd
    by_cases e : y = x
    · subst e
      rw [List.filter_cons_of_pos (by simp)]
      congr 1
      rw [List.filter_eq_nil_iff]
      intro z hz
      rw [decide_eq_true_eq]
      exact fun q => h1 (q ▸ hz)
    · rw [List.filter_cons_of_neg (by simpa using e)]
      exact filter_one h2 ((List.mem_cons.mp h).resolve_left fun q => e q.symm)
theorem Four.must (h : Four a b c d) : F_must_pass (ladD (srtR (rows2 a b c d))) (.str a) = some (stD [d]) := by
  obtain ⟨h1, h2, h3, h4, h5, h6⟩ := h.ab
  have kk : ∀ {x}, x ∈ DL.keys (srtR (rows2 a b c d)) ↔ x ∈ [a, b, c, d] := fun {x} => h.keys.mem_iff
  rw [must_ok h.ok (kk.mpr (by simp))]
  congr 2
  have e : (DL.keys (srtR (rows2 a b c d))).filter (fun o => decide (o ≠ a) && noWay (srtR (rows2 a b c d)) a o) = (DL.keys (srtR (rows2 a b c d))).filter fun o => decide (o = d) := by
    refine List.filter_congr fun o ho => ?_
    have ho := kk.mp ho
    simp only [List.mem_cons, List.not_mem_nil, or_false] at ho
    rcases ho with rfl | rfl | rfl | rfl
    · rw [decide_eq_false (fun z => z rfl), decide_eq_false h3]; rfl
    · rw [decide_eq_false h5, noWay_f (us := [c, d]) (h.way.mpr ⟨c, rfl, .inr rfl, fun q => h4 (List.mem_singleton.mp q).symm, fun q => h5 (List.mem_singleton.mp q).symm⟩), Bool.and_false]
    · rw [decide_eq_false h6, noWay_f (us := [b, d]) (h.way.mpr ⟨b, rfl, .inl rfl, fun q => h4 (List.mem_singleton.mp q), fun q => h6 (List.mem_singleton.mp q).symm⟩), Bool.and_false]
    · rw [decide_eq_true (show o = o from rfl), decide_eq_true (show o ≠ a from fun z => h3 z.symm), noWay_t fun us hu => by
        obtain ⟨x, _, _, _, z⟩ := h.way.mp hu
        exact z (List.mem_singleton_self _)]
      rfl
  rw [e]
  exact filter_one h.ok.nd (kk.mpr (by simp))
theorem Four.none1 (h : Four a b c d) : SW (srtR (rows2 a b c d)) a d (srt [b, c]) .non := by
  obtain ⟨h1, h2, h3, h4, h5, h6⟩ := h.ab
  obtain ⟨b1, b2, b3, b4⟩ := h.bo
  refine .inr ⟨fun us hu => ?_, rfl⟩
  cases us with
  | nil =>
    obtain ⟨bs, e, m⟩ := hu.2
    have e : DL.bo (srtR (rows2 a b c d)) a = some bs := e
    rw [b1] at e
    cases e
    rcases srt2.mp m with z | z
    · exact h5 z.symm
    · exact h6 z.symm
  | cons x us =>
    obtain ⟨hx, hx2⟩ := h.nba.mp hu.1.1
    exact hx2 (srt2.mpr hx)
theorem Four.none2 (h : Four a b c d) : SW (srtR (rows2 a b c d)) d d [] .non := by
  obtain ⟨b1, b2, b3, b4⟩ := h.bo
  obtain ⟨n1, n2, n3, n4⟩ := h.n
  refine .inr ⟨fun us hu => ?_, rfl⟩
  cases us with
  | nil =>
    obtain ⟨bs, e, m⟩ := hu.2
    have e : DL.bo (srtR (rows2 a b c d)) d = some bs := e
    rw [b4] at e
    cases e
    exact n4 (List.mem_singleton.mp m)
  | cons x us => exact h.nbd hu.1.1
end
end DL

set_option Elab.async false
set_option linter.all false
set_option maxRecDepth 100000
set_option maxHeartbeats 2000000
namespace DL
open PySem PySem.Spec PyProof.Rows L2
section
variable {ws : List Str} {o x : Ow}
def lrow (ws : List Str) (k : Nat) : Row := (ws.getD k "", [ws.getD (k + 1) ""])
def lrows (ws : List Str) : List Row := (List.range ws.length).map (lrow ws)
theorem lrows_keys (ws : List Str) : keys (lrows ws) = ws := by
  unfold keys lrows
  rw [List.map_map]
  have := range_get (fun w : Str => w) ws (fun k => ws.getD k "") fun k hk => getD_lt hk
  rw [List.map_id'] at this
  exact this
theorem ln_of (nd : ws.Nodup) (ne : ("" : Str) ∉ ws) (hl : ws.length ≤ 5) : Ln (srtR (lrows ws)) ws := by
  have pk : (keys (srtR (lrows ws))).Perm ws := by
    have := srtR_keys (lrows ws)
    rw [lrows_keys] at this
    exact this
  have mem : ∀ {r}, r ∈ srtR (lrows ws) ↔ r ∈ lrows ws := fun {r} => (srtR_perm _).mem_iff
  have ok : LOk (srtR (lrows ws)) := by
    refine ⟨pk.nodup_iff.mpr nd, fun z => ne (pk.mem_iff.mp z), fun r hr b hb => ?_, fun r hr => ?_, ?_⟩
    · obtain ⟨k, hk, rfl⟩ := List.mem_map.mp (mem.mp hr)
      rw [List.mem_singleton.mp hb]
      rcases Nat.lt_or_ge (k + 1) ws.length with z | z
      · right
        rw [pk.mem_iff, getD_lt z]
        exact List.getElem_mem z
      · left
        exact getD_ge z
    · obtain ⟨k, hk, rfl⟩ := List.mem_map.mp (mem.mp hr)
      exact List.nodup_cons.mpr ⟨by simp, List.nodup_nil⟩
    · rw [(srtR_perm _).length_eq]
      unfold lrows
      rw [List.length_map, List.length_range]
      exact hl
  refine ⟨ok, fun i h => bo_of ok.nd (mem.mpr (List.mem_map.mpr ⟨i, List.mem_range.mpr h, ?_⟩)), pk, nd, ne⟩
  unfold lrow
  rw [getD_lt h]
theorem C1_line {k : Nat} (hk : k < ws.length) : C1__law_line (.lst (ws.map .str), x) (.int (k : Int)) = some (some (rowD (lrow ws k))) := by
  unfold C1__law_line
  have i0 : dIx (.lst (ws.map .str)) (.int (k : Int)) = some (.str (ws.getD k "")) := by rw [dIx_strs hk, getD_lt hk]
  rw [i0]; try simp only [Option.bind_some, cond_true, cond_false, Bool.not_true, Bool.not_false]
  rw [dAdd_ii]; try simp only [Option.bind_some, cond_true, cond_false, Bool.not_true, Bool.not_false]
  rw [dLen_strs]; try simp only [Option.bind_some, cond_true, cond_false, Bool.not_true, Bool.not_false]
  rw [dLt_ii]; try simp only [Option.bind_some, cond_true, cond_false, Bool.not_true, Bool.not_false]
  rw [asB_bl]; try simp only [Option.bind_some, cond_true, cond_false, Bool.not_true, Bool.not_false]
  by_cases h : k + 1 < ws.length
  · have e : dIx (.lst (ws.map .str)) (.int ((k : Int) + 1)) = some (.str (ws.getD (k + 1) "")) := by
      rw [show ((k : Int) + 1) = ((k + 1 : Nat) : Int) by omega, dIx_strs h, getD_lt h]
    rw [decide_eq_true (by omega)]
    rw [e]; try simp only [Option.bind_some, cond_true, cond_false, Bool.not_true, Bool.not_false]
    rfl
  · rw [decide_eq_false (by omega)]
    unfold lrow
    rw [getD_ge (i := k + 1) (by omega)]
    rfl
theorem lc_line : lcP (C1__law_line (.lst (ws.map .str), x)) (rngD 0 ws.length) = some ((lrows ws).map rowD) := by
  rw [lcP_rng (g := fun k => rowD (lrow ws k)) fun k hk => C1_line hk]
  unfold lrows
  rw [List.map_map]
  rfl
theorem ixN_last {n : Nat} (h : 0 < n) : ixN n (-1) = some (n - 1) := by
  unfold ixN
  rw [if_neg (by decide), if_pos (by omega)]
  congr 1
  omega
theorem dIx_last (h : 0 < ws.length) : dIx (.lst (ws.map .str)) (.int (-1)) = some (.str (ws[ws.length - 1]'(by omega))) := by
  show atI (ws.map D.str) (-1) = _
  unfold atI
  rw [List.length_map, ixN_last h, Option.bind_some, List.getElem?_map, List.getElem?_eq_getElem (by omega)]
  rfl
theorem sl_from1 (h : 0 < ws.length) : dSlL (.lst (ws.map .str)) (some 1) none = some (.lst ((ws.drop 1).map .str)) := by
  show some (Ow.lst (cutD (ws.map .str) (some 1) none)) = _
  unfold cutD
  have e1 : HT.sIx (ws.map D.str).length 0 (some 1) = 1 := by
    rw [List.length_map]
    show (if (1 : Int) < 0 then ((1 : Int) + (ws.length : Int)).toNat else min (1 : Int).toNat ws.length) = 1
    rw [if_neg (by decide)]
    show min 1 ws.length = 1
    omega
  have e2 : HT.sIx (ws.map D.str).length (ws.map D.str).length none = ws.length := by
    rw [List.length_map]
    rfl
  rw [e1, e2, List.take_of_length_le (by rw [List.length_drop, List.length_map]; omega), List.map_drop]
theorem sl_mid (h : 1 < ws.length) : dSlL (.lst (ws.map .str)) (some 1) (some (-1)) = some (.lst (((ws.drop 1).take (ws.length - 2)).map .str)) := by
  show some (Ow.lst (cutD (ws.map .str) (some 1) (some (-1)))) = _
  unfold cutD
  have e1 : HT.sIx (ws.map D.str).length 0 (some 1) = 1 := by
    rw [List.length_map]
    show (if (1 : Int) < 0 then ((1 : Int) + (ws.length : Int)).toNat else min (1 : Int).toNat ws.length) = 1
    rw [if_neg (by decide)]
    show min 1 ws.length = 1
    omega
  have e2 : HT.sIx (ws.map D.str).length (ws.map D.str).length (some (-1)) = ws.length - 1 := by
    rw [List.length_map]
    show (if (-1 : Int) < 0 then ((-1 : Int) + (ws.length : Int)).toNat else min (-1 : Int).toNat ws.length) = _
    rw [if_pos (by decide)]
    omega
  rw [e1, e2, show ws.length - 1 - 1 = ws.length - 2 by omega, List.map_take, List.map_drop]

theorem isB_f : dIsB (.bl false) (.bl false) = some (.bl true) := rfl
theorem notB_f : dNotB (.bl false) (.bl false) = some (.bl false) := rfl
theorem asI1 (i : Int) : asI (.int i) = some (some i) := rfl
theorem same_st {ws : List Str} (h : ws.length < 1000) : F__law_same (stD ws) (stD ws) = some (.bl true) := same_self (.inr ⟨ws, h, rfl⟩)
theorem tup_lst (ds : List D) : dTuple (Ow.lst ds).d = some (.tup ds) := rfl
noncomputable def tail2 (o3 : Ow) : Option (D × Ow) := (F__law_words o3 (.int 4)).bind fun t79 => (un4 t79.1).bind fun t80 => (dMin2 [t80.2.1, t80.2.2.1]).bind fun t81 => (dMax2 [t80.2.1, t80.2.2.1]).bind fun t82 => (un2 (.tup [t81, t82])).bind fun t83 => (dSort ((Ow.lst [t80.2.1, t80.2.2.1])).d).bind fun t84 => (dTuple (t84).d).bind fun t85 => (dSort ((Ow.lst [(.tup [t80.1, t85]), (.tup [t80.2.1, (.tup [t80.2.2.2])]), (.tup [t80.2.2.1, (.tup [t80.2.2.2])]), (.tup [t80.2.2.2, (.tup [(.str "")])])])).d).bind fun t86 => (dTuple (t86).d).bind fun t87 => (F_short_way t87 t80.1 (.str "") (.tup [])).bind fun t88 => (F__law_same t88 (.tup [t83.1, t80.2.2.2])).bind fun t89 => (dTru t89).bind fun t90 => ((cond (!t90) (some true) ((F_short_way t87 t80.1 (.str "") (.tup [t83.1])).bind fun t91 => (F__law_same t91 (.tup [t83.2, t80.2.2.2])).bind fun t92 => (dTru t92).bind fun t93 => some (!t93)) : Option Bool)).bind fun t94 => cond t94 (some ((.bl false), t79.2)) ((F_must_pass t87 t80.1).bind fun t95 => (F__law_same t95 (.tup [t80.2.2.2])).bind fun t96 => (dTru t96).bind fun t97 => ((cond t97 ((dSort ((Ow.lst [t80.2.1, t80.2.2.1])).d).bind fun t98 => (dTuple (t98).d).bind fun t99 => (F_has_way t87 t80.1 t80.2.2.2 t99).bind fun t100 => (dIsB t100 (.bl false)).bind fun t101 => (dTru t101).bind fun t102 => ((cond t102 ((F_has_way t87 t80.2.2.2 t80.2.2.2 (.tup [])).bind fun t103 => (dIsB t103 (.bl false)).bind fun t104 => some t104) (some t101) : Option D)).bind fun t105 => some t105) (some t96) : Option D)).bind fun t106 => some (t106, t79.2))
theorem second_ok {o3 : Ow} (ho3 : FtOk o3) : ∃ o', tail2 o3 = some (.bl true, o') := by
  obtain ⟨us, o4, e4, ho4, lu, ndu, neu⟩ := words_ok ho3 (m := 4) (by decide)
  have e4 : F__law_words o3 (.int 4) = _ := e4
  match us, lu, ndu, neu, e4 with
  | [a, b, c, d], _, ndu, neu, e4 =>
    have fr : Four a b c d := ⟨ndu, neu⟩
    obtain ⟨a1, a2, a3, a4, a5, a6⟩ := fr.ab
    have kk : ∀ {x}, x ∈ keys (srtR (rows2 a b c d)) ↔ x ∈ [a, b, c, d] := fun {x} => fr.keys.mem_iff
    have ka : a ∈ keys (srtR (rows2 a b c d)) := kk.mpr (by simp)
    have kd : d ∈ keys (srtR (rows2 a b c d)) := kk.mpr (by simp)
    have lm : ∃ l m : Str, dMin2 [.str b, .str c] = some (.str l) ∧ dMax2 [.str b, .str c] = some (.str m) ∧ ((l = b ∧ m = c) ∨ (l = c ∧ m = b)) ∧ leS l b = true ∧ leS l c = true := by
      have e : dMin2 [.str b, .str c] = some (.str (if leS b c = true then b else c)) := rfl
      have e' : dMax2 [.str b, .str c] = some (.str (if leS c b = true then b else c)) := rfl
      refine ⟨_, _, e, e', ?_⟩
      by_cases q : leS b c = true
      · have q' : leS c b ≠ true := fun z => a4 (leS_anti q z)
        rw [if_pos q, if_neg q']
        exact ⟨.inl ⟨rfl, rfl⟩, leS_refl _, q⟩
      · have q' : leS c b = true := (leS_total b c).resolve_left q
        rw [if_neg q, if_pos q']
        exact ⟨.inr ⟨rfl, rfl⟩, q', leS_refl _⟩
    obtain ⟨l, m, el, em, hlm, hlb, hlc⟩ := lm
    have hl : l = b ∨ l = c := by rcases hlm with ⟨z, _⟩ | ⟨z, _⟩ <;> simp [z]
    have f1 : F_short_way (ladD (srtR (rows2 a b c d))) (.str a) (.str "") (.tup []) = some (stD [l, d]) := short_is (bars := []) fr.ok ka (fr.less hl hlb hlc)
    have f2 : F_short_way (ladD (srtR (rows2 a b c d))) (.str a) (.str "") (.tup [.str l]) = some (stD [m, d]) := short_is (bars := [l]) fr.ok ka (fr.more hlm)
    have f3 := fr.must
    have f4 : F_has_way (ladD (srtR (rows2 a b c d))) (.str a) (.str d) (.tup ((srt [b, c]).map .str)) = some (.bl false) := has_is fr.ok ka fr.none1
    have f5 : F_has_way (ladD (srtR (rows2 a b c d))) (.str d) (.str d) (.tup []) = some (.bl false) := has_is (bars := []) fr.ok kd fr.none2
    have u4 : un4 (.lst ([a, b, c, d].map D.str)) = some (.str a, .str b, .str c, .str d) := rfl
    have u2 : un2 (.tup [D.str l, .str m]) = some (.str l, .str m) := rfl
    have g1 : dSort (Ow.lst [D.str b, .str c]).d = some (.lst ((srt [b, c]).map .str)) := dSort_strs [b, c]
    have g2 : dTuple (Ow.lst ((srt [b, c]).map .str)).d = some (.tup ((srt [b, c]).map .str)) := rfl
    have g3 : dSort (Ow.lst [(.tup [.str a, .tup ((srt [b, c]).map .str)]), (.tup [.str b, (.tup [.str d])]), (.tup [.str c, (.tup [.str d])]), (.tup [.str d, (.tup [(.str "")])])]).d = some (.lst ((srtR (rows2 a b c d)).map rowD)) := dSort_rows (rows2 a b c d)
    have g4 : dTuple (Ow.lst ((srtR (rows2 a b c d)).map rowD)).d = some (ladD (srtR (rows2 a b c d))) := rfl
    have p1 : F__law_same (stD [l, d]) (.tup [.str l, .str d]) = some (.bl true) := same_st (ws := [l, d]) (by show 2 < 1000; decide)
    have p2 : F__law_same (stD [m, d]) (.tup [.str m, .str d]) = some (.bl true) := same_st (ws := [m, d]) (by show 2 < 1000; decide)
    have p3 : F__law_same (stD [d]) (.tup [.str d]) = some (.bl true) := same_st (ws := [d]) (by show 1 < 1000; decide)
    refine ⟨o4, ?_⟩
    unfold tail2
    rw [e4]; try simp only [Option.bind_some, cond_true, cond_false, Bool.not_true, Bool.not_false]
    rw [u4]; try simp only [Option.bind_some, cond_true, cond_false, Bool.not_true, Bool.not_false]
    rw [el]; try simp only [Option.bind_some, cond_true, cond_false, Bool.not_true, Bool.not_false]
    rw [em]; try simp only [Option.bind_some, cond_true, cond_false, Bool.not_true, Bool.not_false]
    rw [u2]; try simp only [Option.bind_some, cond_true, cond_false, Bool.not_true, Bool.not_false]
    rw [g1]; try simp only [Option.bind_some, cond_true, cond_false, Bool.not_true, Bool.not_false]
    rw [g2]; try simp only [Option.bind_some, cond_true, cond_false, Bool.not_true, Bool.not_false]
    rw [g3]; try simp only [Option.bind_some, cond_true, cond_false, Bool.not_true, Bool.not_false]
    rw [g4]; try simp only [Option.bind_some, cond_true, cond_false, Bool.not_true, Bool.not_false]
    rw [f1]; try simp only [Option.bind_some, cond_true, cond_false, Bool.not_true, Bool.not_false]
    rw [p1]; try simp only [Option.bind_some, cond_true, cond_false, Bool.not_true, Bool.not_false]
    rw [dTru_b]; try simp only [Option.bind_some, cond_true, cond_false, Bool.not_true, Bool.not_false]
    rw [f2]; try simp only [Option.bind_some, cond_true, cond_false, Bool.not_true, Bool.not_false]
    rw [p2]; try simp only [Option.bind_some, cond_true, cond_false, Bool.not_true, Bool.not_false]
    rw [dTru_b]; try simp only [Option.bind_some, cond_true, cond_false, Bool.not_true, Bool.not_false]
    rw [f3]; try simp only [Option.bind_some, cond_true, cond_false, Bool.not_true, Bool.not_false]
    rw [p3]; try simp only [Option.bind_some, cond_true, cond_false, Bool.not_true, Bool.not_false]
    rw [dTru_b]; try simp only [Option.bind_some, cond_true, cond_false, Bool.not_true, Bool.not_false]
    rw [f4]; try simp only [Option.bind_some, cond_true, cond_false, Bool.not_true, Bool.not_false]
    rw [isB_f]; try simp only [Option.bind_some, cond_true, cond_false, Bool.not_true, Bool.not_false]
    rw [dTru_b]; try simp only [Option.bind_some, cond_true, cond_false, Bool.not_true, Bool.not_false]
    rw [f5]; try simp only [Option.bind_some, cond_true, cond_false, Bool.not_true, Bool.not_false]
    rw [isB_f]; try simp only [Option.bind_some, cond_true, cond_false, Bool.not_true, Bool.not_false]
end
end DL

set_option Elab.async false
set_option linter.all false
set_option maxRecDepth 100000
set_option maxHeartbeats 2000000
namespace DL
open PySem PySem.Spec PyProof.Rows L2
theorem bnd {α β : Type} {o : Option α} {f : α → Option β} {x : α} {r : Option β} (h : o = some x) (k : f x = r) : o.bind f = r := by
  rw [h]
  exact k
theorem cnF {α : Type} {a b r : α} (h : b = r) : cond false a b = r := h
theorem cnT {α : Type} {a b r : α} (h : a = r) : cond true a b = r := h
section
variable {o : Ow}
theorem line_ok (ho : FtOk o) : ∃ o', F__law_line o = some (.bl true, o') := by
  obtain ⟨v, o1, e1, hv, ho1⟩ := dip_ok (many := 4) (spot := 0) ho (by decide) (by decide) (by decide)
  have e1 : F__law_dip o (.int 4) (D.int 0) = _ := e1
  obtain ⟨ws, o2, e2, ho2, lw, nd, ne⟩ := words_ok ho1 (m := 2 + v) (by omega)
  have e2 : F__law_words o1 (.int (2 + (v : Int))) = some (.lst (ws.map .str), o2) := by
    rw [show (2 + (v : Int)) = ((2 + v : Nat) : Int) by omega]
    exact e2
  have hn2 : 2 ≤ ws.length := by omega
  have hn5 : ws.length ≤ 5 := by omega
  have h0 : 0 < ws.length := by omega
  have ln := ln_of nd ne hn5
  have eL : dSort (Ow.lst ((lrows ws).map rowD)).d = some (.lst ((srtR (lrows ws)).map rowD)) := dSort_rows _
  have eT : dTuple (Ow.lst ((srtR (lrows ws)).map rowD)).d = some (ladD (srtR (lrows ws))) := rfl
  have i0 : dIx (.lst (ws.map .str)) (.int 0) = some (.str ws[0]) := dIx_strs (i := 0) h0
  have s1 : F_short_way (ladD (srtR (lrows ws))) (.str ws[0]) (.str "") (.tup []) = some (stD (ws.drop 1)) := short_is (bars := []) ln.ok (ln.mem h0) (ln.sw_up h0)
  have t1 : dTuple (Ow.lst ((ws.drop 1).map .str)).d = some (stD (ws.drop 1)) := rfl
  have l1 := ln.longest h0
  have q1 : (ws.drop 1).length < 1000 := by rw [List.length_drop]; omega
  obtain ⟨v2, o3, e3, hv2, ho3⟩ := dip_ok (many := ws.length - 1) (spot := 0) ho2 (by omega) (by omega) (by decide)
  have e3 : F__law_dip o2 (.int ((ws.length : Int) - 1)) (D.int 0) = some (.int ((v2 : Nat) : Int), o3) := by
    rw [show ((ws.length : Int) - 1) = ((ws.length - 1 : Nat) : Int) by omega]
    exact e3
  have hb : 1 + v2 < ws.length := by omega
  have i1 : dIx (.lst (ws.map .str)) (.int (1 + (v2 : Int))) = some (.str ws[1 + v2]) := by
    rw [show (1 + (v2 : Int)) = ((1 + v2 : Nat) : Int) by omega]
    exact dIx_strs hb
  have h1 : F_has_way (ladD (srtR (lrows ws))) (.str ws[0]) (.str "") (.tup [.str ws[1 + v2]]) = some (.bl false) := has_is (bars := [ws[1 + v2]]) ln.ok (ln.mem h0) (ln.sw_none h0 fun e _ he hh => by
    have := ln.last he hh
    refine ⟨ws[1 + v2], ?_, List.mem_singleton_self _⟩
    rw [List.take_of_length_le (by rw [List.length_drop]; omega), List.mem_iff_getElem]
    refine ⟨v2, by rw [List.length_drop]; omega, ?_⟩
    rw [List.getElem_drop])
  have il := dIx_last h0
  have hlast : ws.length - 1 < ws.length := by omega
  -- the ends barred
  have mid : ∀ bars : List Str, (∀ b ∈ bars, b = ws[0] ∨ b = ws[ws.length - 1]) → F_short_way (ladD (srtR (lrows ws))) (.str ws[0]) (.str ws[ws.length - 1]) (.tup (bars.map .str)) = some (stD ((ws.drop 1).take (ws.length - 2))) := fun bars hbars => by
    refine short_is ln.ok (ln.mem h0) (ln.sw (e := ws.length - 2) h0 (by omega) (Nat.zero_le _) ?_ (fun e' he' hh => ?_) fun b hb hb2 => ?_)
    · rw [show ws.length - 2 + 1 = ws.length - 1 by omega, getD_lt hlast]
    · have := ln.at_ hlast he' hh
      omega
    · obtain ⟨j, hj, rfl⟩ := List.getElem_of_mem hb
      rw [List.getElem_take, List.getElem_drop] at hb2
      rw [List.length_take, List.length_drop] at hj
      rcases hbars _ hb2 with z | z
      · have := nodup_inj nd _ _ z
        omega
      · have := nodup_inj nd _ _ z
        omega
  have m1 : F_short_way (ladD (srtR (lrows ws))) (.str ws[0]) (.str ws[ws.length - 1]) (.tup [.str ws[0], .str ws[ws.length - 1]]) = some (stD ((ws.drop 1).take (ws.length - 2))) := mid [ws[0], ws[ws.length - 1]] fun b hb => by simpa using hb
  have m2 : F_short_way (ladD (srtR (lrows ws))) (.str ws[0]) (.str ws[ws.length - 1]) (.tup [.str ws[ws.length - 1], .str ws[0]]) = some (stD ((ws.drop 1).take (ws.length - 2))) := mid [ws[ws.length - 1], ws[0]] fun b hb => by simpa [or_comm] using hb
  have t2 : dTuple (Ow.lst (((ws.drop 1).take (ws.length - 2)).map .str)).d = some (stD ((ws.drop 1).take (ws.length - 2))) := rfl
  have q2 : ((ws.drop 1).take (ws.length - 2)).length < 1000 := by rw [List.length_take, List.length_drop]; omega
  have mu := ln.must h0 (srtR_keys_pw _)
  have sd : dSort (Ow.lst ((ws.drop 1).map .str)).d = some (.lst ((srt (ws.drop 1)).map .str)) := dSort_strs _
  have t3 : dTuple (Ow.lst ((srt (ws.drop 1)).map .str)).d = some (stD (srt (ws.drop 1))) := rfl
  have q3 : (srt (ws.drop 1)).length < 1000 := by rw [(srt_perm _).length_eq]; exact q1
  have n1 : F_short_way (ladD (srtR (lrows ws))) (.str ws[ws.length - 1]) (.str ws[0]) (.tup []) = some .non := short_is (bars := []) ln.ok (ln.mem hlast) (ln.sw_none hlast fun e _ he hh => by
    have := ln.at_ h0 he hh
    omega)
  have sn : F__law_same .non .non = some (.bl true) := same_self (.inl .non)
  have si := same_self (.inl (.int ((ws.length : Int) - 1)))
  have ds : dSub (.int (ws.length : Int)) (.int 1) = some (.int ((ws.length : Int) - 1)) := rfl
  obtain ⟨o', es⟩ := second_ok ho3
  refine ⟨o', ?_⟩
  unfold F__law_line
  refine bnd (e1) ?_
  refine bnd (dAdd_ii) ?_
  refine bnd (e2) ?_
  refine bnd (dLen_strs _) ?_
  refine bnd (rng1_nat (by omega)) ?_
  refine bnd (lc_line) ?_
  refine bnd (szG_ok (by rw [List.length_map]; unfold lrows; rw [List.length_map, List.length_range]; omega)) ?_
  refine bnd (eL) ?_
  refine bnd (eT) ?_
  refine bnd (i0) ?_
  refine bnd (s1) ?_
  refine bnd (asI1 1) ?_
  refine bnd (sl_from1 h0) ?_
  refine bnd (t1) ?_
  refine bnd (same_st q1) ?_
  refine bnd (dTru_b true) ?_
  refine bnd (x := false) (cnF (bnd l1 (bnd (dLen_strs _) (bnd ds (bnd si (bnd (dTru_b true) rfl)))))) ?_
  refine cnF ?_
  refine bnd (dLen_strs _) ?_
  refine bnd (ds) ?_
  refine bnd (e3) ?_
  refine bnd (dAdd_ii) ?_
  refine bnd (i1) ?_
  refine bnd (i0) ?_
  refine bnd (h1) ?_
  refine bnd (notB_f) ?_
  refine bnd (asB_bl (b := false)) ?_
  refine bnd (x := false) (cnF ?_) ?_
  · refine bnd (i0) ?_
    refine bnd (dNeg_i) ?_
    refine bnd (il) ?_
    refine bnd (i0) ?_
    refine bnd (dNeg_i) ?_
    refine bnd (il) ?_
    refine bnd ((show dLt (.str ws[0]) (.str ws[ws.length - 1]) = some (.bl (decide (ws[0].cps.toList < ws[ws.length - 1].cps.toList))) from rfl)) ?_
    refine bnd (asB_bl) ?_
    generalize decide (ws[0].cps.toList < ws[ws.length - 1].cps.toList) = q
    cases q with
    | true =>
      refine bnd (x := .tup [.str ws[0], .str ws[ws.length - 1]]) (cnT (bnd i0 (bnd dNeg_i (bnd il rfl)))) ?_
      refine bnd (m1) ?_
      refine bnd (asI1 1) ?_
      refine bnd (dNeg_i) ?_
      refine bnd (asI1 (-1)) ?_
      refine bnd (sl_mid (by omega)) ?_
      refine bnd (t2) ?_
      refine bnd (same_st q2) ?_
      refine bnd (dTru_b true) ?_
      rfl
    | false =>
      refine bnd (x := .tup [.str ws[ws.length - 1], .str ws[0]]) (cnF (bnd dNeg_i (bnd il (bnd i0 rfl)))) ?_
      refine bnd (m2) ?_
      refine bnd (asI1 1) ?_
      refine bnd (dNeg_i) ?_
      refine bnd (asI1 (-1)) ?_
      refine bnd (sl_mid (by omega)) ?_
      refine bnd (t2) ?_
      refine bnd (same_st q2) ?_
      refine bnd (dTru_b true) ?_
      rfl
  · refine cnF ?_
    refine bnd (i0) ?_
    refine bnd (mu) ?_
    refine bnd (asI1 1) ?_
    refine bnd (sl_from1 h0) ?_
    refine bnd (sd) ?_
    refine bnd (t3) ?_
    refine bnd (same_st q3) ?_
    refine bnd (dTru_b true) ?_
    refine bnd (x := false) (cnF (bnd dNeg_i (bnd il (bnd i0 (bnd n1 (bnd sn (bnd (dTru_b true) rfl))))))) ?_
    refine cnF ?_
    exact es
end
end DL

set_option Elab.async false
set_option linter.all false
set_option maxRecDepth 100000
set_option maxHeartbeats 2000000
namespace DL
open PySem PySem.Spec PyProof.Rows L2
theorem forL_inv {σ ε : Type} {step : D → σ → Option (Lp σ ε)} (I : σ → Prop) (h : ∀ d s, I s → ∃ s', step d s = some (.nx s') ∧ I s') : ∀ (ds : List D) (s : σ), I s → ∃ s', forL step ds s = some (.inl s') ∧ I s'
  | [], s, i => ⟨s, rfl, i⟩
  | d :: ds, s, i => by
    obtain ⟨s1, e1, i1⟩ := h d s i
    obtain ⟨s2, e2, i2⟩ := forL_inv I h ds s1 i1
    refine ⟨s2, ?_, i2⟩
    show (step d s).bind (lpL fun s' => forL step ds s') = _
    rw [e1]
    exact e2
theorem bars_ok {n : Nat} (hn : n < 100) : ∀ (ks : List Str) {o : Ow}, FtOk o → ∃ (bars : List Str) (o' : Ow), lcS (C2_law (.int (n : Int))) (ks.map .str) o = some (bars.map .str, o') ∧ FtOk o' ∧ bars.length ≤ ks.length
  | [], o, ho => ⟨[], o, rfl, ho, Nat.le_refl _⟩
  | k :: ks, o, ho => by
    obtain ⟨v, o1, e1, hv, ho1⟩ := dip_ok (many := n + 1) (spot := 0) ho (by omega) (by omega) (by decide)
    have e1 : F__law_dip o (.int ((n : Int) + 1)) (D.int 0) = some (.int ((v : Nat) : Int), o1) := e1
    obtain ⟨bars, o2, e2, ho2, hl⟩ := bars_ok hn ks ho1
    have ec : C2_law (.int (n : Int)) (.str k) o = some (if decide (((v : Nat) : Int) = 0) = true then some (.str k) else none, o1) := by
      unfold C2_law
      refine bnd (dAdd_ii) ?_
      refine bnd (e1) ?_
      refine bnd (dEq_int _ _) ?_
      refine bnd (asB_bl) ?_
      cases decide (((v : Nat) : Int) = 0) <;> rfl
    have e3 : lcS (C2_law (.int (n : Int))) ((k :: ks).map .str) o = some ((if decide (((v : Nat) : Int) = 0) = true then some (D.str k) else none).toList ++ bars.map .str, o2) := by
      show (C2_law (.int (n : Int)) (.str k) o).bind (fun r => (lcS (C2_law (.int (n : Int))) (ks.map .str) r.2).map fun q => (r.1.toList ++ q.1, q.2)) = _
      rw [ec, Option.bind_some, e2]
      rfl
    rw [e3]
    by_cases q : decide (((v : Nat) : Int) = 0) = true
    · rw [if_pos q]
      exact ⟨k :: bars, o2, rfl, ho2, by rw [List.length_cons, List.length_cons]; omega⟩
    · rw [if_neg q]
      exact ⟨bars, o2, rfl, ho2, by rw [List.length_cons]; omega⟩
theorem lap_ok {L : List Row} (hL : LOk L) (hl : 0 < L.length) {x : Ow} (d : D) {o : Ow} (ho : FtOk o) : ∃ o', F1_law (ladD L, x) ((keys L).map .str) d o = some (.nx o') ∧ FtOk o' := by
  have l5 := hL.len
  have kl := keys_len L
  obtain ⟨v, o1, e1, hv, ho1⟩ := dip_ok (many := (keys L).length) (spot := 0) ho (by omega) (by omega) (by decide)
  obtain ⟨v2, o2, e2, hv2, ho2⟩ := dip_ok (many := (keys L).length + 2) (spot := 0) ho1 (by omega) (by omega) (by decide)
  obtain ⟨v3, o3, e3, hv3, ho3⟩ := dip_ok (many := 4) (spot := 0) ho2 (by decide) (by decide) (by decide)
  obtain ⟨bars, o4, e4, ho4, hb⟩ := bars_ok (n := 1 + v3) (by omega) (keys L) ho3
  have e4 : lcS (C2_law (.int (1 + (v3 : Int)))) ((keys L).map .str) o3 = some (bars.map .str, o4) := by
    rw [show (1 + (v3 : Int)) = ((1 + v3 : Nat) : Int) by omega]
    exact e4
  have e2 : F__law_dip o1 (.int (((keys L).length : Int) + 2)) (D.int 0) = some (.int ((v2 : Nat) : Int), o2) := e2
  have hv2' : v2 < (keys L ++ [("" : Str), ("" : Str)]).length := by rw [List.length_append]; exact hv2
  have c2 : dCat (.lst ((keys L).map .str)) (.lst [.str "", .str ""]) = some (.lst ((keys L ++ [("" : Str), ("" : Str)]).map .str)) := dCat_strs (b := [("" : Str), ("" : Str)]) (by show (keys L).length + 2 < 1000; omega)
  have dl : dLen (.lst ((keys L).map .str)) = some (.int ((keys L).length : Int)) := dLen_strs _
  have ix1 : dIx (.lst ((keys L).map .str)) (.int (v : Int)) = some (.str (keys L)[v]) := dIx_strs hv
  have ix2 : dIx (Ow.lst ((keys L ++ [("" : Str), ("" : Str)]).map .str)).d (.int (v2 : Int)) = some (.str (keys L ++ [("" : Str), ("" : Str)])[v2]) := dIx_strs hv2'
  have as := asked_ok hL (List.getElem_mem hv) (keys L ++ [("" : Str), ("" : Str)])[v2] bars
  refine ⟨o4, ?_, ho4⟩
  unfold F1_law
  refine bnd (dl) ?_
  refine bnd (e1) ?_
  refine bnd (ix1) ?_
  refine bnd (c2) ?_
  refine bnd (dl) ?_
  refine bnd (dAdd_ii) ?_
  refine bnd (e2) ?_
  refine bnd (ix2) ?_
  refine bnd (e3) ?_
  refine bnd (dAdd_ii) ?_
  refine bnd ((show itemsOf (Ow.lst ((keys L).map D.str)).d = some ((keys L).map D.str) from rfl)) ?_
  refine bnd (e4) ?_
  refine bnd (szG_ok (by rw [List.length_map]; omega)) ?_
  refine bnd (tup_lst (bars.map D.str)) ?_
  refine bnd (as) ?_
  refine bnd (dTru_b true) ?_
  rfl
theorem turn_ok (d : D) {o : Ow} (ho : FtOk o) : ∃ o', F2_law d o = some (.nx o') ∧ FtOk o' := by
  obtain ⟨L, o1, e1, ho1, hL, hu, hl⟩ := ladder_ok ho
  have l5 := hL.len
  have eN : lcP C1_law (L.map rowD) = some ((keys L).map .str) := by
    have q := lcP_map (e := rowD) (f := C1_law) (p := fun _ => true) (g := fun r => D.str r.1) (xs := L) fun r hr => rfl
    rw [q, List.filter_eq_self.mpr fun _ _ => rfl]
    unfold keys
    rw [List.map_map]
    rfl
  obtain ⟨o2, e2, ho2⟩ := forL_inv (step := F1_law (ladD L, o1) ((keys L).map .str)) FtOk (fun d s hs => lap_ok hL hl d hs) (rngD 0 10) o1 ho1
  refine ⟨o2, ?_, ho2⟩
  unfold F2_law
  refine bnd (e1) ?_
  refine bnd ((show itemsOf (ladD L) = some (L.map rowD) from rfl)) ?_
  refine bnd (eN) ?_
  refine bnd (szG_ok (by rw [List.length_map, keys_len]; omega)) ?_
  refine bnd (looked_ok hL hu hl) ?_
  refine bnd (dTru_b true) ?_
  refine cnF ?_
  refine bnd (rng1_nat (n := 10) (by decide)) ?_
  refine bnd (e2) ?_
  rfl
theorem law_true (ns : List Int) : F_law (.scr (ns.map .int)) = some (.bl true) := by
  obtain ⟨o, e0, ho⟩ := fount_ok ns
  obtain ⟨o1, e1, ho1⟩ := forL_inv (step := F2_law) FtOk (fun d s hs => turn_ok d hs) (rngD 0 3) o ho
  obtain ⟨o2, e2⟩ := line_ok ho1
  unfold F_law
  refine bnd (e0) ?_
  refine bnd (rng1_nat (n := 3) (by decide)) ?_
  refine bnd (e1) ?_
  show (F__law_line o1).bind _ = _
  refine bnd (e2) ?_
  rfl
end DL

set_option Elab.async false
set_option linter.all false
set_option maxRecDepth 100000
set_option maxHeartbeats 0
namespace DL
open PySem PySem.Spec PyProof.Rows L2
theorem lf_next_layers {x_ladder : D} {x_kind : D} {x_bars : D} {r : D} (h : F_next_layers x_ladder x_kind x_bars = some r) : f_next_layers [.va x_ladder, .va x_kind, .va x_bars] = some (.va r, none) := by
  unfold F_next_layers at h
  unfold f_next_layers
  refine fn_V rfl ?_
  unfold m_next_layers
  show EvI _ [.va x_ladder, .va x_kind, .va x_bars, .no, .no, .no, .no, .no, .no, .no] _
  obtain ⟨t1, et1, h⟩ := bs h
  refine evi_seq (v_setO (v_m1n (hb_va rfl) et1) rfl) ?_
  refine evi_seq (v_setO v_dct0 rfl) ?_
  refine evi_seq (v_setO (v_lst (v_cons (v_tup (v_cons (v_tup v_nil) (v_cons (v_va rfl) v_nil))) v_nil)) rfl) ?_
  obtain ⟨s8, es8, h⟩ := bs h
  refine evi_seq (v_whC (s0 := ((Ow.dct [] []), (Ow.lst [(.tup [(.tup []), x_kind])]))) (fun s1 => [.no, .no, .va x_bars, .ow t1, .ow s1.1, .ow s1.2, .no, .no, .no, .no]) (.cons (le_n _) (.cons (le_n _) (.cons (.rf _) (.cons (.rf _) (.cons (.rf _) (.cons (.rf _) (.cons (.rf _) (.cons (.rf _) (.cons (.rf _) (.cons (.rf _) Le.nil)))))))))) es8 (fun s1 qq kw1 => by (unfold F4_next_layers at kw1; obtain ⟨t2, et2, kw1⟩ := bs kw1; cases kw1; exact (v_m1n (hb_ow rfl) et2))) (fun s1 so g1 => ?_)) ?_
  · (
    unfold F5_next_layers at g1
    unfold l4_next_layers
    refine evi_seq (v_setO (v_lst v_nil) rfl) ?_
    obtain ⟨t3, et3, g1⟩ := bs g1
    obtain ⟨s5, es5, g1⟩ := bs g1
    refine evi_seq (v_forN (s0 := (Ow.lst [])) (fun s2 => [.no, .no, .va x_bars, .ow t1, .ow s1.1, .no, .ow s2, .no, .no, .no]) (v_it (v_ow rfl) et3) (.cons (.rf _) (.cons (.rf _) (.cons (.rf _) (.cons (.rf _) (.cons (.rf _) (.cons (le_n _) (.cons (.rf _) (.cons (.rf _) (.cons (.rf _) (.cons (.rf _) Le.nil)))))))))) es5 (fun d2 s2 so g2 => ?_)) ?_
    · (
      unfold F2_next_layers at g2
      obtain ⟨t4, et4, g2⟩ := bs g2
      refine ⟨[.no, .no, .va x_bars, .ow t1, .ow s1.1, .no, .ow s2, .va t4.1, .va t4.2, .no], (ag_2 et4 ag_n ag_n), ?_⟩
      unfold l2_next_layers
      obtain ⟨t5, et5, g2⟩ := bs g2
      obtain ⟨t6, et6, g2⟩ := bs g2
      obtain ⟨s4, es4, g2⟩ := bs g2
      replace g2 := Option.some.inj g2
      subst g2
      refine evi (v_forN (s0 := s2) (fun s3 => [.no, .no, .va x_bars, .ow t1, .ow s1.1, .no, .ow s3, .va t4.1, .no, .no]) (v_it (v_m2nn (hb_ow rfl) (hb_va rfl) et5) et6) (.cons (.rf _) (.cons (.rf _) (.cons (.rf _) (.cons (.rf _) (.cons (.rf _) (.cons (.rf _) (.cons (.rf _) (.cons (.rf _) (.cons (le_n _) (.cons (.rf _) Le.nil)))))))))) es4 (fun d3 s3 so g3 => ?_)) ⟨.inl rfl, (.cons (.rf _) (.cons (.rf _) (.cons (.rf _) (.cons (.rf _) (.cons (.rf _) (.cons (.rf _) (.cons (.rf _) (.cons (le_n _) (.cons (.rf _) (.cons (.rf _) Le.nil))))))))))⟩
      · (
        unfold F1_next_layers at g3
        refine ⟨[.no, .no, .va x_bars, .ow t1, .ow s1.1, .no, .ow s3, .va t4.1, .no, .va d3], ag_n, ?_⟩
        unfold l1_next_layers
        obtain ⟨t7, et7, g3⟩ := bs g3
        obtain ⟨t8, et8, g3⟩ := bs g3
        obtain ⟨t14, et14, g3⟩ := bs g3
        rcases b2 t14 with q | q
        · replace g3 := cdT q g3
          refine evi_T (v_and (b := t14) (ρ' := [.no, .no, .va x_bars, .ow t1, .ow s1.1, .no, .ow s3, .va t4.1, .no, .va d3]) (v_tb (v_m2ne (hb_va rfl) v_c (hb_va rfl) et7) et8) (fun q => by have k2 := cdT q et14; obtain ⟨t9, et9, k2⟩ := bs k2; obtain ⟨t10, et10, k2⟩ := bs k2; obtain ⟨t13, et13, k2⟩ := bs k2; exact Ev.val (Ev.wk (v_and (b := t13) (ρ' := [.no, .no, .va x_bars, .ow t1, .ow s1.1, .no, .ow s3, .va t4.1, .no, .va d3]) (v_tb (v_m2nn (hb_va rfl) (hb_va rfl) et9) et10) (fun q => by have k1 := cdT q et13; obtain ⟨t11, et11, k1⟩ := bs k1; obtain ⟨t12, et12, k1⟩ := bs k1; exact Ev.val (Ev.wk (v_tb (v_m2nn (hb_va rfl) (hb_ow rfl) et11) et12) (.cons (.rf _) (.cons (.rf _) (.cons (.rf _) (.cons (.rf _) (.cons (.rf _) (.cons (.rf _) (.cons (.rf _) (.cons (.rf _) (.cons (.rf _) (.cons (.rf _) Le.nil))))))))))) (Option.some.inj k1)) (fun q => by have k1 := cdF q et13; exact ⟨(Option.some.inj k1).symm, (.cons (.rf _) (.cons (.rf _) (.cons (.rf _) (.cons (.rf _) (.cons (.rf _) (.cons (.rf _) (.cons (.rf _) (.cons (.rf _) (.cons (.rf _) (.cons (.rf _) Le.nil))))))))))⟩)) (.cons (.rf _) (.cons (.rf _) (.cons (.rf _) (.cons (.rf _) (.cons (.rf _) (.cons (.rf _) (.cons (.rf _) (.cons (.rf _) (.cons (.rf _) (.cons (.rf _) Le.nil))))))))))) (Option.some.inj k2)) (fun q => by have k2 := cdF q et14; exact ⟨(Option.some.inj k2).symm, (.cons (.rf _) (.cons (.rf _) (.cons (.rf _) (.cons (.rf _) (.cons (.rf _) (.cons (.rf _) (.cons (.rf _) (.cons (.rf _) (.cons (.rf _) (.cons (.rf _) Le.nil))))))))))⟩)) q ?_
          obtain ⟨t15, et15, g3⟩ := bs g3
          obtain ⟨t16, et16, g3⟩ := bs g3
          cases g3
          exact evi (v_expr (v_M1' rfl (.ow _) (v_tup (v_cons (v_m2ne (hb_va rfl) (v_tup (v_cons (v_va rfl) v_nil)) (hb_va rfl) et15) (v_cons (v_va rfl) v_nil))) rfl et16)) ⟨.inl rfl, (.cons (.rf _) (.cons (.rf _) (.cons (.rf _) (.cons (.rf _) (.cons (.rf _) (.cons (.rf _) (.cons (.rf _) (.cons (.rf _) (.cons (.rf _) (.cons (le_n _) Le.nil))))))))))⟩
        · replace g3 := cdF q g3
          refine evi_F (v_and (b := t14) (ρ' := [.no, .no, .va x_bars, .ow t1, .ow s1.1, .no, .ow s3, .va t4.1, .no, .va d3]) (v_tb (v_m2ne (hb_va rfl) v_c (hb_va rfl) et7) et8) (fun q => by have k2 := cdT q et14; obtain ⟨t9, et9, k2⟩ := bs k2; obtain ⟨t10, et10, k2⟩ := bs k2; obtain ⟨t13, et13, k2⟩ := bs k2; exact Ev.val (Ev.wk (v_and (b := t13) (ρ' := [.no, .no, .va x_bars, .ow t1, .ow s1.1, .no, .ow s3, .va t4.1, .no, .va d3]) (v_tb (v_m2nn (hb_va rfl) (hb_va rfl) et9) et10) (fun q => by have k1 := cdT q et13; obtain ⟨t11, et11, k1⟩ := bs k1; obtain ⟨t12, et12, k1⟩ := bs k1; exact Ev.val (Ev.wk (v_tb (v_m2nn (hb_va rfl) (hb_ow rfl) et11) et12) (.cons (.rf _) (.cons (.rf _) (.cons (.rf _) (.cons (.rf _) (.cons (.rf _) (.cons (.rf _) (.cons (.rf _) (.cons (.rf _) (.cons (.rf _) (.cons (.rf _) Le.nil))))))))))) (Option.some.inj k1)) (fun q => by have k1 := cdF q et13; exact ⟨(Option.some.inj k1).symm, (.cons (.rf _) (.cons (.rf _) (.cons (.rf _) (.cons (.rf _) (.cons (.rf _) (.cons (.rf _) (.cons (.rf _) (.cons (.rf _) (.cons (.rf _) (.cons (.rf _) Le.nil))))))))))⟩)) (.cons (.rf _) (.cons (.rf _) (.cons (.rf _) (.cons (.rf _) (.cons (.rf _) (.cons (.rf _) (.cons (.rf _) (.cons (.rf _) (.cons (.rf _) (.cons (.rf _) Le.nil))))))))))) (Option.some.inj k2)) (fun q => by have k2 := cdF q et14; exact ⟨(Option.some.inj k2).symm, (.cons (.rf _) (.cons (.rf _) (.cons (.rf _) (.cons (.rf _) (.cons (.rf _) (.cons (.rf _) (.cons (.rf _) (.cons (.rf _) (.cons (.rf _) (.cons (.rf _) Le.nil))))))))))⟩)) q ?_
          replace g3 := Option.some.inj g3
          subst g3
          exact evi v_skip ⟨.inl rfl, (.cons (.rf _) (.cons (.rf _) (.cons (.rf _) (.cons (.rf _) (.cons (.rf _) (.cons (.rf _) (.cons (.rf _) (.cons (.rf _) (.cons (.rf _) (.cons (le_n _) Le.nil))))))))))⟩
        )
      )
    refine evi_seq (v_setO (v_lst v_nil) rfl) ?_
    obtain ⟨t17, et17, g1⟩ := bs g1
    obtain ⟨t18, et18, g1⟩ := bs g1
    obtain ⟨s7, es7, g1⟩ := bs g1
    cases g1
    refine evi (v_forN (s0 := (s1.1, (Ow.lst []))) (fun s6 => [.no, .no, .va x_bars, .ow t1, .ow s6.1, .ow s6.2, .no, .no, .no, .no]) (v_it (v_ov (v_m1n (hb_ow rfl) et17)) et18) (.cons (.rf _) (.cons (.rf _) (.cons (.rf _) (.cons (.rf _) (.cons (.rf _) (.cons (.rf _) (.cons (le_o _) (.cons (.rf _) (.cons (.rf _) (.cons (.rf _) Le.nil)))))))))) es7 (fun d4 s6 so g4 => ?_)) ⟨.inl rfl, (.cons (.rf _) (.cons (.rf _) (.cons (.rf _) (.cons (.rf _) (.cons (.rf _) (.cons (.rf _) (.cons (.rf _) (.cons (.rf _) (.cons (.rf _) (.cons (.rf _) Le.nil))))))))))⟩
    · (
      unfold F3_next_layers at g4
      obtain ⟨t19, et19, g4⟩ := bs g4
      refine ⟨[.no, .no, .va x_bars, .ow t1, .ow s6.1, .ow s6.2, .no, .va t19.1, .va t19.2, .no], (ag_2 et19 ag_n ag_n), ?_⟩
      unfold l3_next_layers
      obtain ⟨t20, et20, g4⟩ := bs g4
      obtain ⟨t21, et21, g4⟩ := bs g4
      rcases b2 t21 with q | q
      · replace g4 := cdT q g4
        refine evi_T (v_tb (v_m2nn (hb_va rfl) (hb_ow rfl) et20) et21) q ?_
        obtain ⟨t22, et22, g4⟩ := bs g4
        refine evi_seq (v_setIx (v_va rfl) rfl (.ow _) (v_va rfl) rfl (.ow _) et22) ?_
        obtain ⟨t23, et23, g4⟩ := bs g4
        cases g4
        exact evi (v_expr (v_M1' rfl (.ow _) (v_tup (v_cons (v_va rfl) (v_cons (v_va rfl) v_nil))) rfl et23)) ⟨.inl rfl, (.cons (.rf _) (.cons (.rf _) (.cons (.rf _) (.cons (.rf _) (.cons (.rf _) (.cons (.rf _) (.cons (.rf _) (.cons (le_n _) (.cons (le_n _) (.cons (.rf _) Le.nil))))))))))⟩
      · replace g4 := cdF q g4
        refine evi_F (v_tb (v_m2nn (hb_va rfl) (hb_ow rfl) et20) et21) q ?_
        cases g4
        exact evi v_skip ⟨.inl rfl, (.cons (.rf _) (.cons (.rf _) (.cons (.rf _) (.cons (.rf _) (.cons (.rf _) (.cons (.rf _) (.cons (.rf _) (.cons (le_n _) (.cons (le_n _) (.cons (.rf _) Le.nil))))))))))⟩
      )
    )
  cases h
  exact evi (v_mret (v_ow rfl)) (.inl rfl)
theorem lf_short_way {x_ladder : D} {x_kind : D} {x_aim : D} {x_bars : D} {r : D} (h : F_short_way x_ladder x_kind x_aim x_bars = some r) : f_short_way [.va x_ladder, .va x_kind, .va x_aim, .va x_bars] = some (.va r, none) := by
  unfold F_short_way at h
  unfold f_short_way
  refine fn_V rfl ?_
  unfold m_short_way
  show EvI _ [.va x_ladder, .va x_kind, .va x_aim, .va x_bars, .no, .no, .no, .no] _
  obtain ⟨t1, et1, h⟩ := bs h
  refine evi_seq (v_setO (v_m1n (hb_va rfl) et1) rfl) ?_
  obtain ⟨t2, et2, h⟩ := bs h
  obtain ⟨t3, et3, h⟩ := bs h
  obtain ⟨t4, et4, h⟩ := bs h
  rcases b2 t4 with q | q
  · replace h := cdT q h
    refine evi_seqX (evi_T (v_tb (v_m2ne (hb_va rfl) (v_m2nn (hb_ow rfl) (hb_va rfl) et2) (hb_va rfl) et3) et4) q ?_)
    cases h
    exact evi (v_mret (v_tup v_nil)) ⟨(fun z => nomatch z), (.inl rfl)⟩
  · replace h := cdF q h
    refine evi_seq (vv_F (v_tb (v_m2ne (hb_va rfl) (v_m2nn (hb_ow rfl) (hb_va rfl) et2) (hb_va rfl) et3) et4) q v_skip) ?_
    obtain ⟨t5, et5, h⟩ := bs h
    obtain ⟨t6, et6, h⟩ := bs h
    obtain ⟨t11, et11, h⟩ := bs h
    obtain ⟨t12, et12, h⟩ := bs h
    refine evi_seq (v_setO (v_lcP (ρ0 := [.va x_ladder, .va x_kind, .va x_aim, .va x_bars, .ow t1, .no, .no, .no]) (v_items (v_asV (v_callV [x_ladder, x_kind, x_bars] (v_av (v_va rfl) (v_av (v_va rfl) (v_av (v_va rfl) v_a0))) rfl (lf_next_layers et5))) et6) (.cons (.rf _) (.cons (.rf _) (.cons (.rf _) (.cons (.rf _) (.cons (.rf _) (.cons (.rf _) (.cons (.rf _) (.cons (.rf _) Le.nil)))))))) et11 et12 (fun d1 r k1 => by (unfold C1_short_way at k1; obtain ⟨t7, et7, k1⟩ := bs k1; obtain ⟨t8, et8, k1⟩ := bs k1; obtain ⟨t9, et9, k1⟩ := bs k1; obtain ⟨t10, et10, k1⟩ := bs k1; refine Or.elim (b2 t10) (fun q => by (replace k1 := cdT q k1; cases k1; exact ⟨_, _, _, (ag_2 et7 ag_n ag_n), (v_tb (v_m2ne (hb_va rfl) (v_m2nn (hb_ow rfl) (hb_va rfl) et8) (hb_va rfl) et9) et10), .inr ⟨_, _, q, rfl, (v_va rfl), (.cons (.rf _) (.cons (.rf _) (.cons (.rf _) (.cons (.rf _) (.cons (.rf _) (.cons (.rf _) (.cons (.rf _) (.cons (.rf _) Le.nil))))))))⟩⟩)) (fun q => by (replace k1 := cdF q k1; cases k1; exact ⟨_, _, _, (ag_2 et7 ag_n ag_n), (v_tb (v_m2ne (hb_va rfl) (v_m2nn (hb_ow rfl) (hb_va rfl) et8) (hb_va rfl) et9) et10), .inl ⟨q, rfl, (.cons (.rf _) (.cons (.rf _) (.cons (.rf _) (.cons (.rf _) (.cons (.rf _) (.cons (.rf _) (.cons (.rf _) (.cons (.rf _) Le.nil))))))))⟩⟩))))) rfl) ?_
    obtain ⟨t13, et13, h⟩ := bs h
    obtain ⟨t15, et15, h⟩ := bs h
    replace h := Option.some.inj h
    subst h
    exact evi (v_mret (v_if (z := t15) (ρ' := [.va x_ladder, .va x_kind, .va x_aim, .va x_bars, .ow t1, .ow (Ow.lst t11), .no, .no]) (v_m1n (hb_ow rfl) et13) (fun q => by have k2 := cdT q et15; obtain ⟨t14, et14, k2⟩ := bs k2; exact Ev.val (Ev.wk (v_m1n (hb_ow rfl) et14) (.cons (.rf _) (.cons (.rf _) (.cons (.rf _) (.cons (.rf _) (.cons (.rf _) (.cons (.rf _) (.cons (.rf _) (.cons (.rf _) Le.nil))))))))) (Option.some.inj k2)) (fun q => by have k2 := cdF q et15; exact Ev.val (Ev.wk v_c (.cons (.rf _) (.cons (.rf _) (.cons (.rf _) (.cons (.rf _) (.cons (.rf _) (.cons (.rf _) (.cons (.rf _) (.cons (.rf _) Le.nil))))))))) (Option.some.inj k2)))) (.inl rfl)
theorem lf_has_way {x_ladder : D} {x_kind : D} {x_aim : D} {x_bars : D} {r : D} (h : F_has_way x_ladder x_kind x_aim x_bars = some r) : f_has_way [.va x_ladder, .va x_kind, .va x_aim, .va x_bars] = some (.va r, none) := by
  unfold F_has_way at h
  unfold f_has_way
  refine fn_V rfl ?_
  unfold m_has_way
  show EvI _ [.va x_ladder, .va x_kind, .va x_aim, .va x_bars] _
  obtain ⟨t1, et1, h⟩ := bs h
  obtain ⟨t2, et2, h⟩ := bs h
  replace h := Option.some.inj h
  subst h
  exact evi (v_mret (v_m2ee (v_asV (v_callV [x_ladder, x_kind, x_aim, x_bars] (v_av (v_va rfl) (v_av (v_va rfl) (v_av (v_va rfl) (v_av (v_va rfl) v_a0)))) rfl (lf_short_way et1))) v_c et2)) (.inl rfl)
theorem lf_longest_needed {x_ladder : D} {r : D} (h : F_longest_needed x_ladder = some r) : f_longest_needed [.va x_ladder] = some (.va r, none) := by
  unfold F_longest_needed at h
  unfold f_longest_needed
  refine fn_V rfl ?_
  unfold m_longest_needed
  show EvI _ [.va x_ladder, .no, .no] _
  obtain ⟨t1, et1, h⟩ := bs h
  obtain ⟨t5, et5, h⟩ := bs h
  obtain ⟨t6, et6, h⟩ := bs h
  obtain ⟨t7, et7, h⟩ := bs h
  replace h := Option.some.inj h
  subst h
  exact evi (v_mret (v_m1e (v_ov (v_lcP (ρ0 := [.va x_ladder, .no, .no]) (v_it (v_va rfl) et1) (.cons (.rf _) (.cons (.rf _) (.cons (.rf _) Le.nil))) et5 et6 (fun d1 r k1 => by (unfold C1_longest_needed at k1; obtain ⟨t2, et2, k1⟩ := bs k1; obtain ⟨t3, et3, k1⟩ := bs k1; obtain ⟨t4, et4, k1⟩ := bs k1; cases k1; exact ⟨_, true, _, (ag_2 et2 ag_n ag_n), v_ret, .inr ⟨_, _, rfl, rfl, (v_m1e (v_asV (v_callV [x_ladder, t2.1, (.str ""), (.tup [])] (v_av (v_va rfl) (v_av (v_va rfl) (v_av v_c (v_av (v_tup v_nil) v_a0)))) rfl (lf_short_way et3))) et4), (.cons (.rf _) (.cons (.rf _) (.cons (.rf _) Le.nil)))⟩⟩)))) et7)) (.inl rfl)
theorem lf_must_pass {x_ladder : D} {x_kind : D} {r : D} (h : F_must_pass x_ladder x_kind = some r) : f_must_pass [.va x_ladder, .va x_kind] = some (.va r, none) := by
  unfold F_must_pass at h
  unfold f_must_pass
  refine fn_V rfl ?_
  unfold m_must_pass
  show EvI _ [.va x_ladder, .va x_kind, .no, .no, .no] _
  obtain ⟨t1, et1, h⟩ := bs h
  obtain ⟨t5, et5, h⟩ := bs h
  obtain ⟨t6, et6, h⟩ := bs h
  refine evi_seq (v_setO (v_lcP (ρ0 := [.va x_ladder, .va x_kind, .no, .no, .no]) (v_it (v_va rfl) et1) (.cons (.rf _) (.cons (.rf _) (.cons (.rf _) (.cons (.rf _) (.cons (.rf _) Le.nil))))) et5 et6 (fun d1 r k1 => by (unfold C1_must_pass at k1; obtain ⟨t2, et2, k1⟩ := bs k1; obtain ⟨t3, et3, k1⟩ := bs k1; obtain ⟨t4, et4, k1⟩ := bs k1; refine Or.elim (b2 t4) (fun q => by (replace k1 := cdT q k1; cases k1; exact ⟨_, _, _, (ag_2 et2 ag_n ag_n), (v_tb (v_m2nn (hb_va rfl) (hb_va rfl) et3) et4), .inr ⟨_, _, q, rfl, (v_va rfl), (.cons (.rf _) (.cons (.rf _) (.cons (.rf _) (.cons (.rf _) (.cons (.rf _) Le.nil)))))⟩⟩)) (fun q => by (replace k1 := cdF q k1; cases k1; exact ⟨_, _, _, (ag_2 et2 ag_n ag_n), (v_tb (v_m2nn (hb_va rfl) (hb_va rfl) et3) et4), .inl ⟨q, rfl, (.cons (.rf _) (.cons (.rf _) (.cons (.rf _) (.cons (.rf _) (.cons (.rf _) Le.nil)))))⟩⟩))))) rfl) ?_
  obtain ⟨t7, et7, h⟩ := bs h
  obtain ⟨t10, et10, h⟩ := bs h
  obtain ⟨t11, et11, h⟩ := bs h
  obtain ⟨t12, et12, h⟩ := bs h
  replace h := Option.some.inj h
  subst h
  exact evi (v_mret (v_m1e (v_ov (v_lcP (ρ0 := [.va x_ladder, .va x_kind, .va (Ow.lst t5).d, .no, .no]) (v_it (v_ow rfl) et7) (.cons (.rf _) (.cons (.rf _) (.cons (.rf _) (.cons (.rf _) (.cons (.rf _) Le.nil))))) et10 et11 (fun d2 r k2 => by (unfold C2_must_pass at k2; obtain ⟨t8, et8, k2⟩ := bs k2; obtain ⟨t9, et9, k2⟩ := bs k2; refine Or.elim (b2 (!t9)) (fun q => by (replace k2 := cdT q k2; cases k2; exact ⟨_, _, _, ag_n, (v_not (v_m1e (v_asV (v_callV [x_ladder, x_kind, (.str ""), (.tup [d2])] (v_av (v_va rfl) (v_av (v_va rfl) (v_av v_c (v_av (v_tup (v_cons (v_va rfl) v_nil)) v_a0)))) rfl (lf_has_way et8))) et9)), .inr ⟨_, _, q, rfl, (v_va rfl), (.cons (.rf _) (.cons (.rf _) (.cons (.rf _) (.cons (.rf _) (.cons (.rf _) Le.nil)))))⟩⟩)) (fun q => by (replace k2 := cdF q k2; cases k2; exact ⟨_, _, _, ag_n, (v_not (v_m1e (v_asV (v_callV [x_ladder, x_kind, (.str ""), (.tup [d2])] (v_av (v_va rfl) (v_av (v_va rfl) (v_av v_c (v_av (v_tup (v_cons (v_va rfl) v_nil)) v_a0)))) rfl (lf_has_way et8))) et9)), .inl ⟨q, rfl, (.cons (.rf _) (.cons (.rf _) (.cons (.rf _) (.cons (.rf _) (.cons (.rf _) Le.nil)))))⟩⟩)))))) et12)) (.inl rfl)
theorem lf__law_fount {x_script : D} {r : Ow} (h : F__law_fount x_script = some r) : f__law_fount [.va x_script] = some (.ow r, none) := by
  unfold F__law_fount at h
  unfold f__law_fount
  refine fn_O rfl ?_
  unfold m__law_fount
  show EvI _ [.va x_script, .no, .no, .no, .no] _
  refine evi_seq (v_asg v_c ag_n) ?_
  refine evi_seq (v_asg v_c ag_n) ?_
  obtain ⟨t1, et1, h⟩ := bs h
  obtain ⟨t2, et2, h⟩ := bs h
  obtain ⟨t3, et3, h⟩ := bs h
  obtain ⟨s2, es2, h⟩ := bs h
  refine evi_seq (v_forN (s0 := ((.int 0), (.int 40169))) (fun s1 => [.no, .va s1.1, .va s1.2, .no, .no]) (v_it (v_ov (v_sln (hb_va rfl) v_pn (v_ps v_c et1) (hb_va rfl) et2)) et3) (.cons (le_n _) (.cons (.rf _) (.cons (.rf _) (.cons (.rf _) (.cons (.rf _) Le.nil))))) es2 (fun d1 s1 so g1 => ?_)) ?_
  · (
    unfold F1__law_fount at g1
    refine ⟨[.no, .va s1.1, .va s1.2, .va d1, .no], ag_n, ?_⟩
    unfold l1__law_fount
    obtain ⟨t4, et4, g1⟩ := bs g1
    obtain ⟨t5, et5, g1⟩ := bs g1
    obtain ⟨t6, et6, g1⟩ := bs g1
    obtain ⟨t7, et7, g1⟩ := bs g1
    refine evi_seq (v_asg (v_m2ee (v_m1e (v_m1n (hb_va rfl) et4) et5) (v_m2ee v_c v_c et6) et7) ag_n) ?_
    obtain ⟨t8, et8, g1⟩ := bs g1
    obtain ⟨t9, et9, g1⟩ := bs g1
    obtain ⟨t10, et10, g1⟩ := bs g1
    obtain ⟨t11, et11, g1⟩ := bs g1
    obtain ⟨t12, et12, g1⟩ := bs g1
    obtain ⟨t13, et13, g1⟩ := bs g1
    refine evi_seq (v_asg (v_m2ee (v_m1e (v_m2ee (v_m2ee (v_m2ne (hb_va rfl) v_c (hb_va rfl) et8) (v_m2ne (hb_va rfl) v_c (hb_va rfl) et9) et10) v_c et11) et12) v_c et13) ag_n) ?_
    obtain ⟨t14, et14, g1⟩ := bs g1
    obtain ⟨t15, et15, g1⟩ := bs g1
    obtain ⟨t16, et16, g1⟩ := bs g1
    rcases b2 t16 with q | q
    · replace g1 := cdT q g1
      refine evi_T (v_tb (v_m2ne (hb_va rfl) (v_m2ee v_c v_c et14) (hb_va rfl) et15) et16) q ?_
      obtain ⟨t17, et17, g1⟩ := bs g1
      cases g1
      exact evi (v_asg (v_m2nn (hb_va rfl) (hb_va rfl) et17) ag_n) ⟨.inl rfl, (.cons (.rf _) (.cons (.rf _) (.cons (.rf _) (.cons (le_n _) (.cons (le_n _) Le.nil)))))⟩
    · replace g1 := cdF q g1
      refine evi_F (v_tb (v_m2ne (hb_va rfl) (v_m2ee v_c v_c et14) (hb_va rfl) et15) et16) q ?_
      cases g1
      exact evi v_skip ⟨.inl rfl, (.cons (.rf _) (.cons (.rf _) (.cons (.rf _) (.cons (le_n _) (.cons (le_n _) Le.nil)))))⟩
    )
  obtain ⟨t18, et18, h⟩ := bs h
  obtain ⟨t19, et19, h⟩ := bs h
  obtain ⟨t20, et20, h⟩ := bs h
  cases h
  exact evi (v_mretO (v_lst (v_cons (v_va rfl) (v_cons (v_va rfl) (v_cons (v_m2ee (v_m1e (v_m2ne (hb_va rfl) v_c (hb_va rfl) et18) et19) v_c et20) v_nil))))) rfl
theorem lf__law_dip {x_fount : Ow} {x_many : D} {x_spot : D} {r : (D × Ow)} (h : F__law_dip x_fount x_many x_spot = some r) : f__law_dip [.io x_fount, .va x_many, .va x_spot] = some (.va r.1, some r.2) := by
  unfold F__law_dip at h
  unfold f__law_dip
  refine fn_VI rfl ?_
  unfold m__law_dip
  show EvI _ [.io x_fount, .va x_many, .va x_spot, .no, .no] _
  obtain ⟨t1, et1, h⟩ := bs h
  obtain ⟨t2, et2, h⟩ := bs h
  obtain ⟨t3, et3, h⟩ := bs h
  rcases b2 t3 with q | q
  · replace h := cdT q h
    refine evi_seqX (evi_T (v_tb (v_m2ee (v_m2ne (hb_io rfl) v_c (hb_io rfl) et1) v_c et2) et3) q ?_)
    obtain ⟨t4, et4, h⟩ := bs h
    obtain ⟨t5, et5, h⟩ := bs h
    obtain ⟨t6, et6, h⟩ := bs h
    refine evi_seq (v_asg (v_m2en (v_m1e (v_m2ne (hb_io rfl) v_c (hb_io rfl) et4) et5) (hb_va rfl) et6) ag_n) ?_
    obtain ⟨t7, et7, h⟩ := bs h
    obtain ⟨t8, et8, h⟩ := bs h
    obtain ⟨t9, et9, h⟩ := bs h
    refine evi_seq (v_setIx (v_m2en (v_m2ne (hb_io rfl) v_c (hb_io rfl) et7) (hb_va rfl) et8) rfl (.io _) v_c rfl (.io _) et9) ?_
    cases h
    exact evi (v_mret (v_va rfl)) ⟨(fun z => nomatch z), ⟨.inl rfl, rfl⟩⟩
  · replace h := cdF q h
    refine evi_seq (vv_F (v_tb (v_m2ee (v_m2ne (hb_io rfl) v_c (hb_io rfl) et1) v_c et2) et3) q v_skip) ?_
    obtain ⟨t10, et10, h⟩ := bs h
    obtain ⟨t11, et11, h⟩ := bs h
    obtain ⟨t12, et12, h⟩ := bs h
    obtain ⟨t13, et13, h⟩ := bs h
    obtain ⟨t14, et14, h⟩ := bs h
    obtain ⟨t15, et15, h⟩ := bs h
    refine evi_seq (v_setIx (v_m2ee (v_m1e (v_m2ee (v_m2ee (v_m2ne (hb_io rfl) v_c (hb_io rfl) et10) v_c et11) v_c et12) et13) v_c et14) rfl (.io _) v_c rfl (.io _) et15) ?_
    obtain ⟨t16, et16, h⟩ := bs h
    obtain ⟨t24, et24, h⟩ := bs h
    refine evi_seq (v_asg (v_if (z := t24) (ρ' := [.io t15, .va x_many, .va x_spot, .no, .no]) (v_m1n (hb_va rfl) et16) (fun q => by have k1 := cdT q et24; obtain ⟨t17, et17, k1⟩ := bs k1; obtain ⟨t18, et18, k1⟩ := bs k1; obtain ⟨t19, et19, k1⟩ := bs k1; obtain ⟨t20, et20, k1⟩ := bs k1; obtain ⟨t21, et21, k1⟩ := bs k1; obtain ⟨t22, et22, k1⟩ := bs k1; obtain ⟨t23, et23, k1⟩ := bs k1; exact Ev.val (Ev.wk (v_m2ee (v_m1e (v_m2en (v_m2ee (v_m2ne (hb_io rfl) v_c (hb_io rfl) et17) (v_m2ee (v_m2en v_c (hb_va rfl) et18) v_c et19) et20) (hb_va rfl) et21) et22) v_c et23) (.cons (.rf _) (.cons (.rf _) (.cons (.rf _) (.cons (.rf _) (.cons (.rf _) Le.nil)))))) (Option.some.inj k1)) (fun q => by have k1 := cdF q et24; exact Ev.val (Ev.wk v_c (.cons (.rf _) (.cons (.rf _) (.cons (.rf _) (.cons (.rf _) (.cons (.rf _) Le.nil)))))) (Option.some.inj k1))) ag_n) ?_
    obtain ⟨t25, et25, h⟩ := bs h
    obtain ⟨t26, et26, h⟩ := bs h
    rcases b2 t26 with q | q
    · replace h := cdT q h
      refine evi_seqX (evi_T (v_tb (v_m2ne (hb_va rfl) v_c (hb_va rfl) et25) et26) q ?_)
      cases h
      exact evi (v_mret v_c) ⟨(fun z => nomatch z), ⟨.inl rfl, rfl⟩⟩
    · replace h := cdF q h
      refine evi_seq (vv_F (v_tb (v_m2ne (hb_va rfl) v_c (hb_va rfl) et25) et26) q v_skip) ?_
      obtain ⟨t27, et27, h⟩ := bs h
      obtain ⟨t28, et28, h⟩ := bs h
      rcases b2 t28 with q | q
      · replace h := cdT q h
        refine evi_seqX (evi_T (v_tb (v_m2ne (hb_va rfl) v_c (hb_va rfl) et27) et28) q ?_)
        obtain ⟨t29, et29, h⟩ := bs h
        cases h
        exact evi (v_mret (v_m2ne (hb_va rfl) v_c (hb_va rfl) et29)) ⟨(fun z => nomatch z), ⟨.inl rfl, rfl⟩⟩
      · replace h := cdF q h
        refine evi_seq (vv_F (v_tb (v_m2ne (hb_va rfl) v_c (hb_va rfl) et27) et28) q v_skip) ?_
        obtain ⟨t30, et30, h⟩ := bs h
        obtain ⟨t31, et31, h⟩ := bs h
        rcases b2 t31 with q | q
        · replace h := cdT q h
          refine evi_seqX (evi_T (v_tb (v_m2ne (hb_va rfl) v_c (hb_va rfl) et30) et31) q ?_)
          obtain ⟨t32, et32, h⟩ := bs h
          obtain ⟨t33, et33, h⟩ := bs h
          obtain ⟨t34, et34, h⟩ := bs h
          cases h
          exact evi (v_mret (v_m2en (v_m1e (v_m2ne (hb_io rfl) v_c (hb_io rfl) et32) et33) (hb_va rfl) et34)) ⟨(fun z => nomatch z), ⟨.inl rfl, rfl⟩⟩
        · replace h := cdF q h
          refine evi_seq (vv_F (v_tb (v_m2ne (hb_va rfl) v_c (hb_va rfl) et30) et31) q v_skip) ?_
          obtain ⟨t35, et35, h⟩ := bs h
          obtain ⟨t36, et36, h⟩ := bs h
          obtain ⟨t37, et37, h⟩ := bs h
          obtain ⟨t38, et38, h⟩ := bs h
          cases h
          exact evi (v_mret (v_m2en (v_m1e (v_m2ee (v_m2ne (hb_io rfl) v_c (hb_io rfl) et35) v_c et36) et37) (hb_va rfl) et38)) ⟨.inl rfl, rfl⟩
theorem lf__law_stirred {x_fount : Ow} {x_things : D} {r : (D × Ow)} (h : F__law_stirred x_fount x_things = some r) : f__law_stirred [.io x_fount, .va x_things] = some (.va r.1, some r.2) := by
  unfold F__law_stirred at h
  unfold f__law_stirred
  refine fn_VI rfl ?_
  unfold m__law_stirred
  show EvI _ [.io x_fount, .va x_things, .no, .no] _
  obtain ⟨t1, et1, h⟩ := bs h
  refine evi_seq (v_setO (v_m1n (hb_va rfl) et1) rfl) ?_
  refine evi_seq (v_setO (v_lst v_nil) rfl) ?_
  obtain ⟨s2, es2, h⟩ := bs h
  refine evi_seq (v_whC (s0 := (x_fount, t1, (Ow.lst []))) (fun s1 => [.io s1.1, .no, .ow s1.2.1, .ow s1.2.2]) (.cons (.rf _) (.cons (le_n _) (.cons (.rf _) (.cons (.rf _) Le.nil)))) es2 (fun s1 qq kw1 => by (unfold F1__law_stirred at kw1; obtain ⟨t2, et2, kw1⟩ := bs kw1; cases kw1; exact (v_m1n (hb_ow rfl) et2))) (fun s1 so g1 => ?_)) ?_
  · (
    unfold F2__law_stirred at g1
    unfold l1__law_stirred
    obtain ⟨t3, et3, g1⟩ := bs g1
    obtain ⟨t4, et4, g1⟩ := bs g1
    obtain ⟨t5, et5, g1⟩ := bs g1
    obtain ⟨t6, et6, g1⟩ := bs g1
    cases g1
    exact evi (v_expr (v_M1' rfl (.ow _) (v_M1' rfl (.ow _) (v_asV (v_callI [] [t3, (D.int 0)] (v_ao rfl (.io _) (v_av (v_m1n (hb_ow rfl) et3) (v_av v_c v_a0))) rfl (.io _) rfl (lf__law_dip et4))) rfl et5) rfl et6)) ⟨.inl rfl, (.cons (.rf _) (.cons (.rf _) (.cons (.rf _) (.cons (.rf _) Le.nil))))⟩
    )
  cases h
  exact evi (v_mret (v_ow rfl)) ⟨.inl rfl, rfl⟩
theorem lf__law_same {x_told : D} {x_due : D} {r : D} (h : F__law_same x_told x_due = some r) : f__law_same [.va x_told, .va x_due] = some (.va r, none) := by
  unfold F__law_same at h
  unfold f__law_same
  refine fn_V rfl ?_
  unfold m__law_same
  show EvI _ [.va x_told, .va x_due, .no, .no, .no, .no] _
  refine evi_seq (v_setO (v_lst (v_cons (v_tup (v_cons (v_va rfl) (v_cons (v_va rfl) v_nil))) v_nil)) rfl) ?_
  obtain ⟨r1, er1, h⟩ := bs h
  refine evi_mid (r := r1) (v_whD (I := FV) (s0 := (Ow.lst [(.tup [x_told, x_due])])) (fun s1 => [.no, .no, .ow s1, .no, .no, .no]) (.cons (le_n _) (.cons (le_n _) (.cons (.rf _) (.cons (.rf _) (.cons (.rf _) (.cons (.rf _) Le.nil)))))) er1 (fun s1 qq kw1 => by (unfold F1__law_same at kw1; obtain ⟨t1, et1, kw1⟩ := bs kw1; cases kw1; exact (v_m1n (hb_ow rfl) et1))) (fun s1 so g1 => ?_)) (fun s2 q => ?_) (fun x f ρ' q n p => by have w := smX h q; subst w; exact p)
  · (
    unfold F2__law_same at g1
    unfold l1__law_same
    obtain ⟨t2, et2, g1⟩ := bs g1
    obtain ⟨t3, et3, g1⟩ := bs g1
    refine evi_seq (v_asg (v_M0 rfl (.ow _) et2) (ag_2 et3 ag_n ag_n)) ?_
    obtain ⟨t4, et4, g1⟩ := bs g1
    obtain ⟨t5, et5, g1⟩ := bs g1
    rcases b2 t5 with q | q
    · replace g1 := cdT q g1
      refine evi_T (v_m1e (v_m1n (hb_va rfl) et4) et5) q ?_
      obtain ⟨t6, et6, g1⟩ := bs g1
      obtain ⟨t7, et7, g1⟩ := bs g1
      obtain ⟨t17, et17, g1⟩ := bs g1
      rcases b2 t17 with q | q
      · replace g1 := cdT q g1
        refine evi_seqX (evi_T (v_or (b := t17) (ρ' := [.no, .no, .ow t2.2, .va t3.1, .va t3.2, .no]) (v_not (v_m1e (v_m1n (hb_va rfl) et6) et7)) (fun q => by have k2 := cdF q et17; obtain ⟨t8, et8, k2⟩ := bs k2; obtain ⟨t9, et9, k2⟩ := bs k2; obtain ⟨t10, et10, k2⟩ := bs k2; obtain ⟨t11, et11, k2⟩ := bs k2; obtain ⟨t16, et16, k2⟩ := bs k2; exact Ev.val (Ev.wk (v_or (b := t16) (ρ' := [.no, .no, .ow t2.2, .va t3.1, .va t3.2, .no]) (v_tb (v_m2ee (v_m1n (hb_va rfl) et8) (v_m1n (hb_va rfl) et9) et10) et11) (fun q => by have k1 := cdF q et16; obtain ⟨t12, et12, k1⟩ := bs k1; obtain ⟨t13, et13, k1⟩ := bs k1; obtain ⟨t14, et14, k1⟩ := bs k1; obtain ⟨t15, et15, k1⟩ := bs k1; exact Ev.val (Ev.wk (v_tb (v_m2ee (v_m1n (hb_va rfl) et12) (v_m1n (hb_va rfl) et13) et14) et15) (.cons (.rf _) (.cons (.rf _) (.cons (.rf _) (.cons (.rf _) (.cons (.rf _) (.cons (.rf _) Le.nil))))))) (Option.some.inj k1)) (fun q => by have k1 := cdT q et16; exact ⟨(Option.some.inj k1).symm, (.cons (.rf _) (.cons (.rf _) (.cons (.rf _) (.cons (.rf _) (.cons (.rf _) (.cons (.rf _) Le.nil))))))⟩)) (.cons (.rf _) (.cons (.rf _) (.cons (.rf _) (.cons (.rf _) (.cons (.rf _) (.cons (.rf _) Le.nil))))))) (Option.some.inj k2)) (fun q => by have k2 := cdT q et17; exact ⟨(Option.some.inj k2).symm, (.cons (.rf _) (.cons (.rf _) (.cons (.rf _) (.cons (.rf _) (.cons (.rf _) (.cons (.rf _) Le.nil))))))⟩)) q ?_)
        cases g1
        exact evi (v_mret v_c) ⟨(fun z => nomatch z), ⟨.inl ⟨_, rfl⟩, (.inl rfl)⟩⟩
      · replace g1 := cdF q g1
        refine evi_seq (vv_F (v_or (b := t17) (ρ' := [.no, .no, .ow t2.2, .va t3.1, .va t3.2, .no]) (v_not (v_m1e (v_m1n (hb_va rfl) et6) et7)) (fun q => by have k2 := cdF q et17; obtain ⟨t8, et8, k2⟩ := bs k2; obtain ⟨t9, et9, k2⟩ := bs k2; obtain ⟨t10, et10, k2⟩ := bs k2; obtain ⟨t11, et11, k2⟩ := bs k2; obtain ⟨t16, et16, k2⟩ := bs k2; exact Ev.val (Ev.wk (v_or (b := t16) (ρ' := [.no, .no, .ow t2.2, .va t3.1, .va t3.2, .no]) (v_tb (v_m2ee (v_m1n (hb_va rfl) et8) (v_m1n (hb_va rfl) et9) et10) et11) (fun q => by have k1 := cdF q et16; obtain ⟨t12, et12, k1⟩ := bs k1; obtain ⟨t13, et13, k1⟩ := bs k1; obtain ⟨t14, et14, k1⟩ := bs k1; obtain ⟨t15, et15, k1⟩ := bs k1; exact Ev.val (Ev.wk (v_tb (v_m2ee (v_m1n (hb_va rfl) et12) (v_m1n (hb_va rfl) et13) et14) et15) (.cons (.rf _) (.cons (.rf _) (.cons (.rf _) (.cons (.rf _) (.cons (.rf _) (.cons (.rf _) Le.nil))))))) (Option.some.inj k1)) (fun q => by have k1 := cdT q et16; exact ⟨(Option.some.inj k1).symm, (.cons (.rf _) (.cons (.rf _) (.cons (.rf _) (.cons (.rf _) (.cons (.rf _) (.cons (.rf _) Le.nil))))))⟩)) (.cons (.rf _) (.cons (.rf _) (.cons (.rf _) (.cons (.rf _) (.cons (.rf _) (.cons (.rf _) Le.nil))))))) (Option.some.inj k2)) (fun q => by have k2 := cdT q et17; exact ⟨(Option.some.inj k2).symm, (.cons (.rf _) (.cons (.rf _) (.cons (.rf _) (.cons (.rf _) (.cons (.rf _) (.cons (.rf _) Le.nil))))))⟩)) q v_skip) ?_
        obtain ⟨t18, et18, g1⟩ := bs g1
        obtain ⟨t19, et19, g1⟩ := bs g1
        obtain ⟨t22, et22, g1⟩ := bs g1
        obtain ⟨t23, et23, g1⟩ := bs g1
        obtain ⟨t24, et24, g1⟩ := bs g1
        cases g1
        exact evi (v_setO (v_m2ne (hb_ow rfl) (v_ov (v_lcP (ρ0 := [.no, .no, .ow t2.2, .va t3.1, .va t3.2, .no]) (v_rng (v_cons (v_m1n (hb_va rfl) et18) v_nil) et19) (.cons (.rf _) (.cons (.rf _) (.cons (.rf _) (.cons (.rf _) (.cons (.rf _) (.cons (.rf _) Le.nil)))))) et22 et23 (fun d2 r k3 => by (unfold C1__law_same at k3; obtain ⟨t20, et20, k3⟩ := bs k3; obtain ⟨t21, et21, k3⟩ := bs k3; cases k3; exact ⟨_, true, _, ag_n, v_ret, .inr ⟨_, _, rfl, rfl, (v_tup (v_cons (v_m2nn (hb_va rfl) (hb_va rfl) et20) (v_cons (v_m2nn (hb_va rfl) (hb_va rfl) et21) v_nil))), (.cons (.rf _) (.cons (.rf _) (.cons (.rf _) (.cons (.rf _) (.cons (.rf _) (.cons (.rf _) Le.nil))))))⟩⟩)))) (hb_ow rfl) et24) rfl) ⟨.inl rfl, (.cons (.rf _) (.cons (.rf _) (.cons (.rf _) (.cons (le_n _) (.cons (le_n _) (.cons (.rf _) Le.nil))))))⟩
    · replace g1 := cdF q g1
      refine evi_F (v_m1e (v_m1n (hb_va rfl) et4) et5) q ?_
      obtain ⟨t25, et25, g1⟩ := bs g1
      obtain ⟨t26, et26, g1⟩ := bs g1
      obtain ⟨t29, et29, g1⟩ := bs g1
      rcases b2 t29 with q | q
      · replace g1 := cdT q g1
        refine evi_T (v_or (b := t29) (ρ' := [.no, .no, .ow t2.2, .va t3.1, .va t3.2, .no]) (v_tb (v_m2ne (hb_va rfl) v_c (hb_va rfl) et25) et26) (fun q => by have k4 := cdF q et29; obtain ⟨t27, et27, k4⟩ := bs k4; obtain ⟨t28, et28, k4⟩ := bs k4; exact Ev.val (Ev.wk (v_m1e (v_m1n (hb_va rfl) et27) et28) (.cons (.rf _) (.cons (.rf _) (.cons (.rf _) (.cons (.rf _) (.cons (.rf _) (.cons (.rf _) Le.nil))))))) (Option.some.inj k4)) (fun q => by have k4 := cdT q et29; exact ⟨(Option.some.inj k4).symm, (.cons (.rf _) (.cons (.rf _) (.cons (.rf _) (.cons (.rf _) (.cons (.rf _) (.cons (.rf _) Le.nil))))))⟩)) q ?_
        obtain ⟨t30, et30, g1⟩ := bs g1
        obtain ⟨t31, et31, g1⟩ := bs g1
        obtain ⟨t32, et32, g1⟩ := bs g1
        obtain ⟨t33, et33, g1⟩ := bs g1
        obtain ⟨t41, et41, g1⟩ := bs g1
        rcases b2 t41 with q | q
        · replace g1 := cdT q g1
          refine evi_T (v_or (b := t41) (ρ' := [.no, .no, .ow t2.2, .va t3.1, .va t3.2, .no]) (v_tb (v_m2ee (v_m2ne (hb_va rfl) v_c (hb_va rfl) et30) (v_m2ne (hb_va rfl) v_c (hb_va rfl) et31) et32) et33) (fun q => by have k6 := cdF q et41; obtain ⟨t34, et34, k6⟩ := bs k6; obtain ⟨t35, et35, k6⟩ := bs k6; obtain ⟨t36, et36, k6⟩ := bs k6; obtain ⟨t37, et37, k6⟩ := bs k6; obtain ⟨t40, et40, k6⟩ := bs k6; exact Ev.val (Ev.wk (v_or (b := t40) (ρ' := [.no, .no, .ow t2.2, .va t3.1, .va t3.2, .no]) (v_tb (v_m2ee (v_m1n (hb_va rfl) et34) (v_m1n (hb_va rfl) et35) et36) et37) (fun q => by have k5 := cdF q et40; obtain ⟨t38, et38, k5⟩ := bs k5; obtain ⟨t39, et39, k5⟩ := bs k5; exact Ev.val (Ev.wk (v_tb (v_m2nn (hb_va rfl) (hb_va rfl) et38) et39) (.cons (.rf _) (.cons (.rf _) (.cons (.rf _) (.cons (.rf _) (.cons (.rf _) (.cons (.rf _) Le.nil))))))) (Option.some.inj k5)) (fun q => by have k5 := cdT q et40; exact ⟨(Option.some.inj k5).symm, (.cons (.rf _) (.cons (.rf _) (.cons (.rf _) (.cons (.rf _) (.cons (.rf _) (.cons (.rf _) Le.nil))))))⟩)) (.cons (.rf _) (.cons (.rf _) (.cons (.rf _) (.cons (.rf _) (.cons (.rf _) (.cons (.rf _) Le.nil))))))) (Option.some.inj k6)) (fun q => by have k6 := cdT q et41; exact ⟨(Option.some.inj k6).symm, (.cons (.rf _) (.cons (.rf _) (.cons (.rf _) (.cons (.rf _) (.cons (.rf _) (.cons (.rf _) Le.nil))))))⟩)) q ?_
          cases g1
          exact evi (v_mret v_c) ⟨.inl ⟨_, rfl⟩, (.inl rfl)⟩
        · replace g1 := cdF q g1
          refine evi_F (v_or (b := t41) (ρ' := [.no, .no, .ow t2.2, .va t3.1, .va t3.2, .no]) (v_tb (v_m2ee (v_m2ne (hb_va rfl) v_c (hb_va rfl) et30) (v_m2ne (hb_va rfl) v_c (hb_va rfl) et31) et32) et33) (fun q => by have k6 := cdF q et41; obtain ⟨t34, et34, k6⟩ := bs k6; obtain ⟨t35, et35, k6⟩ := bs k6; obtain ⟨t36, et36, k6⟩ := bs k6; obtain ⟨t37, et37, k6⟩ := bs k6; obtain ⟨t40, et40, k6⟩ := bs k6; exact Ev.val (Ev.wk (v_or (b := t40) (ρ' := [.no, .no, .ow t2.2, .va t3.1, .va t3.2, .no]) (v_tb (v_m2ee (v_m1n (hb_va rfl) et34) (v_m1n (hb_va rfl) et35) et36) et37) (fun q => by have k5 := cdF q et40; obtain ⟨t38, et38, k5⟩ := bs k5; obtain ⟨t39, et39, k5⟩ := bs k5; exact Ev.val (Ev.wk (v_tb (v_m2nn (hb_va rfl) (hb_va rfl) et38) et39) (.cons (.rf _) (.cons (.rf _) (.cons (.rf _) (.cons (.rf _) (.cons (.rf _) (.cons (.rf _) Le.nil))))))) (Option.some.inj k5)) (fun q => by have k5 := cdT q et40; exact ⟨(Option.some.inj k5).symm, (.cons (.rf _) (.cons (.rf _) (.cons (.rf _) (.cons (.rf _) (.cons (.rf _) (.cons (.rf _) Le.nil))))))⟩)) (.cons (.rf _) (.cons (.rf _) (.cons (.rf _) (.cons (.rf _) (.cons (.rf _) (.cons (.rf _) Le.nil))))))) (Option.some.inj k6)) (fun q => by have k6 := cdT q et41; exact ⟨(Option.some.inj k6).symm, (.cons (.rf _) (.cons (.rf _) (.cons (.rf _) (.cons (.rf _) (.cons (.rf _) (.cons (.rf _) Le.nil))))))⟩)) q ?_
          cases g1
          exact evi v_skip ⟨.inl rfl, (.cons (.rf _) (.cons (.rf _) (.cons (.rf _) (.cons (le_n _) (.cons (le_n _) (.cons (.rf _) Le.nil))))))⟩
      · replace g1 := cdF q g1
        refine evi_F (v_or (b := t29) (ρ' := [.no, .no, .ow t2.2, .va t3.1, .va t3.2, .no]) (v_tb (v_m2ne (hb_va rfl) v_c (hb_va rfl) et25) et26) (fun q => by have k4 := cdF q et29; obtain ⟨t27, et27, k4⟩ := bs k4; obtain ⟨t28, et28, k4⟩ := bs k4; exact Ev.val (Ev.wk (v_m1e (v_m1n (hb_va rfl) et27) et28) (.cons (.rf _) (.cons (.rf _) (.cons (.rf _) (.cons (.rf _) (.cons (.rf _) (.cons (.rf _) Le.nil))))))) (Option.some.inj k4)) (fun q => by have k4 := cdT q et29; exact ⟨(Option.some.inj k4).symm, (.cons (.rf _) (.cons (.rf _) (.cons (.rf _) (.cons (.rf _) (.cons (.rf _) (.cons (.rf _) Le.nil))))))⟩)) q ?_
        obtain ⟨t42, et42, g1⟩ := bs g1
        obtain ⟨t43, et43, g1⟩ := bs g1
        rcases b2 t43 with q | q
        · replace g1 := cdT q g1
          refine evi_T (v_m1e (v_m1n (hb_va rfl) et42) et43) q ?_
          obtain ⟨t44, et44, g1⟩ := bs g1
          obtain ⟨t45, et45, g1⟩ := bs g1
          obtain ⟨t51, et51, g1⟩ := bs g1
          rcases b2 t51 with q | q
          · replace g1 := cdT q g1
            refine evi_T (v_or (b := t51) (ρ' := [.no, .no, .ow t2.2, .va t3.1, .va t3.2, .no]) (v_not (v_m1e (v_m1n (hb_va rfl) et44) et45)) (fun q => by have k8 := cdF q et51; obtain ⟨t46, et46, k8⟩ := bs k8; obtain ⟨t47, et47, k8⟩ := bs k8; obtain ⟨t50, et50, k8⟩ := bs k8; exact Ev.val (Ev.wk (v_or (b := t50) (ρ' := [.no, .no, .ow t2.2, .va t3.1, .va t3.2, .no]) (v_m1e (v_m1n (hb_va rfl) et46) et47) (fun q => by have k7 := cdF q et50; obtain ⟨t48, et48, k7⟩ := bs k7; obtain ⟨t49, et49, k7⟩ := bs k7; exact Ev.val (Ev.wk (v_tb (v_m2nn (hb_va rfl) (hb_va rfl) et48) et49) (.cons (.rf _) (.cons (.rf _) (.cons (.rf _) (.cons (.rf _) (.cons (.rf _) (.cons (.rf _) Le.nil))))))) (Option.some.inj k7)) (fun q => by have k7 := cdT q et50; exact ⟨(Option.some.inj k7).symm, (.cons (.rf _) (.cons (.rf _) (.cons (.rf _) (.cons (.rf _) (.cons (.rf _) (.cons (.rf _) Le.nil))))))⟩)) (.cons (.rf _) (.cons (.rf _) (.cons (.rf _) (.cons (.rf _) (.cons (.rf _) (.cons (.rf _) Le.nil))))))) (Option.some.inj k8)) (fun q => by have k8 := cdT q et51; exact ⟨(Option.some.inj k8).symm, (.cons (.rf _) (.cons (.rf _) (.cons (.rf _) (.cons (.rf _) (.cons (.rf _) (.cons (.rf _) Le.nil))))))⟩)) q ?_
            cases g1
            exact evi (v_mret v_c) ⟨.inl ⟨_, rfl⟩, (.inl rfl)⟩
          · replace g1 := cdF q g1
            refine evi_F (v_or (b := t51) (ρ' := [.no, .no, .ow t2.2, .va t3.1, .va t3.2, .no]) (v_not (v_m1e (v_m1n (hb_va rfl) et44) et45)) (fun q => by have k8 := cdF q et51; obtain ⟨t46, et46, k8⟩ := bs k8; obtain ⟨t47, et47, k8⟩ := bs k8; obtain ⟨t50, et50, k8⟩ := bs k8; exact Ev.val (Ev.wk (v_or (b := t50) (ρ' := [.no, .no, .ow t2.2, .va t3.1, .va t3.2, .no]) (v_m1e (v_m1n (hb_va rfl) et46) et47) (fun q => by have k7 := cdF q et50; obtain ⟨t48, et48, k7⟩ := bs k7; obtain ⟨t49, et49, k7⟩ := bs k7; exact Ev.val (Ev.wk (v_tb (v_m2nn (hb_va rfl) (hb_va rfl) et48) et49) (.cons (.rf _) (.cons (.rf _) (.cons (.rf _) (.cons (.rf _) (.cons (.rf _) (.cons (.rf _) Le.nil))))))) (Option.some.inj k7)) (fun q => by have k7 := cdT q et50; exact ⟨(Option.some.inj k7).symm, (.cons (.rf _) (.cons (.rf _) (.cons (.rf _) (.cons (.rf _) (.cons (.rf _) (.cons (.rf _) Le.nil))))))⟩)) (.cons (.rf _) (.cons (.rf _) (.cons (.rf _) (.cons (.rf _) (.cons (.rf _) (.cons (.rf _) Le.nil))))))) (Option.some.inj k8)) (fun q => by have k8 := cdT q et51; exact ⟨(Option.some.inj k8).symm, (.cons (.rf _) (.cons (.rf _) (.cons (.rf _) (.cons (.rf _) (.cons (.rf _) (.cons (.rf _) Le.nil))))))⟩)) q ?_
            cases g1
            exact evi v_skip ⟨.inl rfl, (.cons (.rf _) (.cons (.rf _) (.cons (.rf _) (.cons (le_n _) (.cons (le_n _) (.cons (.rf _) Le.nil))))))⟩
        · replace g1 := cdF q g1
          refine evi_F (v_m1e (v_m1n (hb_va rfl) et42) et43) q ?_
          obtain ⟨t52, et52, g1⟩ := bs g1
          obtain ⟨t53, et53, g1⟩ := bs g1
          obtain ⟨t59, et59, g1⟩ := bs g1
          rcases b2 t59 with q | q
          · replace g1 := cdT q g1
            refine evi_T (v_or (b := t59) (ρ' := [.no, .no, .ow t2.2, .va t3.1, .va t3.2, .no]) (v_not (v_m1e (v_m1n (hb_va rfl) et52) et53)) (fun q => by have k10 := cdF q et59; obtain ⟨t54, et54, k10⟩ := bs k10; obtain ⟨t55, et55, k10⟩ := bs k10; obtain ⟨t58, et58, k10⟩ := bs k10; exact Ev.val (Ev.wk (v_or (b := t58) (ρ' := [.no, .no, .ow t2.2, .va t3.1, .va t3.2, .no]) (v_not (v_m1e (v_m1n (hb_va rfl) et54) et55)) (fun q => by have k9 := cdF q et58; obtain ⟨t56, et56, k9⟩ := bs k9; obtain ⟨t57, et57, k9⟩ := bs k9; exact Ev.val (Ev.wk (v_tb (v_m2nn (hb_va rfl) (hb_va rfl) et56) et57) (.cons (.rf _) (.cons (.rf _) (.cons (.rf _) (.cons (.rf _) (.cons (.rf _) (.cons (.rf _) Le.nil))))))) (Option.some.inj k9)) (fun q => by have k9 := cdT q et58; exact ⟨(Option.some.inj k9).symm, (.cons (.rf _) (.cons (.rf _) (.cons (.rf _) (.cons (.rf _) (.cons (.rf _) (.cons (.rf _) Le.nil))))))⟩)) (.cons (.rf _) (.cons (.rf _) (.cons (.rf _) (.cons (.rf _) (.cons (.rf _) (.cons (.rf _) Le.nil))))))) (Option.some.inj k10)) (fun q => by have k10 := cdT q et59; exact ⟨(Option.some.inj k10).symm, (.cons (.rf _) (.cons (.rf _) (.cons (.rf _) (.cons (.rf _) (.cons (.rf _) (.cons (.rf _) Le.nil))))))⟩)) q ?_
            cases g1
            exact evi (v_mret v_c) ⟨.inl ⟨_, rfl⟩, (.inl rfl)⟩
          · replace g1 := cdF q g1
            refine evi_F (v_or (b := t59) (ρ' := [.no, .no, .ow t2.2, .va t3.1, .va t3.2, .no]) (v_not (v_m1e (v_m1n (hb_va rfl) et52) et53)) (fun q => by have k10 := cdF q et59; obtain ⟨t54, et54, k10⟩ := bs k10; obtain ⟨t55, et55, k10⟩ := bs k10; obtain ⟨t58, et58, k10⟩ := bs k10; exact Ev.val (Ev.wk (v_or (b := t58) (ρ' := [.no, .no, .ow t2.2, .va t3.1, .va t3.2, .no]) (v_not (v_m1e (v_m1n (hb_va rfl) et54) et55)) (fun q => by have k9 := cdF q et58; obtain ⟨t56, et56, k9⟩ := bs k9; obtain ⟨t57, et57, k9⟩ := bs k9; exact Ev.val (Ev.wk (v_tb (v_m2nn (hb_va rfl) (hb_va rfl) et56) et57) (.cons (.rf _) (.cons (.rf _) (.cons (.rf _) (.cons (.rf _) (.cons (.rf _) (.cons (.rf _) Le.nil))))))) (Option.some.inj k9)) (fun q => by have k9 := cdT q et58; exact ⟨(Option.some.inj k9).symm, (.cons (.rf _) (.cons (.rf _) (.cons (.rf _) (.cons (.rf _) (.cons (.rf _) (.cons (.rf _) Le.nil))))))⟩)) (.cons (.rf _) (.cons (.rf _) (.cons (.rf _) (.cons (.rf _) (.cons (.rf _) (.cons (.rf _) Le.nil))))))) (Option.some.inj k10)) (fun q => by have k10 := cdT q et59; exact ⟨(Option.some.inj k10).symm, (.cons (.rf _) (.cons (.rf _) (.cons (.rf _) (.cons (.rf _) (.cons (.rf _) (.cons (.rf _) Le.nil))))))⟩)) q ?_
            cases g1
            exact evi v_skip ⟨.inl rfl, (.cons (.rf _) (.cons (.rf _) (.cons (.rf _) (.cons (le_n _) (.cons (le_n _) (.cons (.rf _) Le.nil))))))⟩
    )
  replace h := smK h q
  cases h
  exact evi (v_mret v_c) (.inl rfl)
theorem lf__law_words {x_fount : Ow} {x_many : D} {r : (D × Ow)} (h : F__law_words x_fount x_many = some r) : f__law_words [.io x_fount, .va x_many] = some (.va r.1, some r.2) := by
  unfold F__law_words at h
  unfold f__law_words
  refine fn_VI rfl ?_
  unfold m__law_words
  show EvI _ [.io x_fount, .va x_many, .no, .no, .no] _
  refine evi_seq (v_setO (v_lst v_nil) rfl) ?_
  obtain ⟨t1, et1, h⟩ := bs h
  obtain ⟨s2, es2, h⟩ := bs h
  refine evi_seq (v_forN (s0 := (x_fount, (Ow.lst []))) (fun s1 => [.io s1.1, .no, .ow s1.2, .no, .no]) (v_rng (v_cons (v_va rfl) v_nil) et1) (.cons (.rf _) (.cons (le_n _) (.cons (.rf _) (.cons (.rf _) (.cons (.rf _) Le.nil))))) es2 (fun d1 s1 so g1 => ?_)) ?_
  · (
    unfold F1__law_words at g1
    refine ⟨[.io s1.1, .no, .ow s1.2, .va d1, .no], ag_n, ?_⟩
    unfold l1__law_words
    obtain ⟨t2, et2, g1⟩ := bs g1
    obtain ⟨t3, et3, g1⟩ := bs g1
    obtain ⟨t4, et4, g1⟩ := bs g1
    obtain ⟨t5, et5, g1⟩ := bs g1
    obtain ⟨t6, et6, g1⟩ := bs g1
    refine evi_seq (v_asg (v_m2ee (v_m2ee v_c (v_asV (v_callI [] [(.int 16), (D.int 0)] (v_ao rfl (.io _) (v_av v_c (v_av v_c v_a0))) rfl (.io _) rfl (lf__law_dip et2))) et3) (v_m2ee (v_ov (v_lst (v_cons v_c (v_cons v_c (v_cons v_c (v_cons v_c (v_cons v_c (v_cons v_c (v_cons v_c (v_cons v_c v_nil)))))))))) (v_asV (v_callI [] [(.int 8), (.int 7)] (v_ao rfl (.io _) (v_av v_c (v_av v_c v_a0))) rfl (.io _) rfl (lf__law_dip et4))) et5) et6) ag_n) ?_
    obtain ⟨t7, et7, g1⟩ := bs g1
    obtain ⟨t8, et8, g1⟩ := bs g1
    obtain ⟨t12, et12, g1⟩ := bs g1
    obtain ⟨t13, et13, g1⟩ := bs g1
    cases g1
    exact evi (v_expr (v_M1' rfl (.ow _) (v_if (z := t12) (ρ' := [.io t4.2, .no, .ow s1.2, .va d1, .va t6]) (v_tb (v_m2nn (hb_va rfl) (hb_ow rfl) et7) et8) (fun q => by have k1 := cdT q et12; exact Ev.val (Ev.wk (v_va rfl) (.cons (.rf _) (.cons (.rf _) (.cons (.rf _) (.cons (.rf _) (.cons (.rf _) Le.nil)))))) (Option.some.inj k1)) (fun q => by have k1 := cdF q et12; obtain ⟨t9, et9, k1⟩ := bs k1; obtain ⟨t10, et10, k1⟩ := bs k1; obtain ⟨t11, et11, k1⟩ := bs k1; exact Ev.val (Ev.wk (v_m2ee v_c (v_m1e (v_m2en v_c (hb_va rfl) et9) et10) et11) (.cons (.rf _) (.cons (.rf _) (.cons (.rf _) (.cons (.rf _) (.cons (.rf _) Le.nil)))))) (Option.some.inj k1))) rfl et13)) ⟨.inl rfl, (.cons (.rf _) (.cons (.rf _) (.cons (.rf _) (.cons (le_n _) (.cons (le_n _) Le.nil)))))⟩
    )
  cases h
  exact evi (v_mret (v_ow rfl)) ⟨.inl rfl, rfl⟩
theorem lf__law_ladder {x_fount : Ow} {x_most : D} {r : (D × Ow)} (h : F__law_ladder x_fount x_most = some r) : f__law_ladder [.io x_fount, .va x_most] = some (.va r.1, some r.2) := by
  unfold F__law_ladder at h
  unfold f__law_ladder
  refine fn_VI rfl ?_
  unfold m__law_ladder
  show EvI _ [.io x_fount, .va x_most, .no, .no, .no, .no, .no, .no] _
  obtain ⟨t1, et1, h⟩ := bs h
  obtain ⟨t2, et2, h⟩ := bs h
  obtain ⟨t3, et3, h⟩ := bs h
  obtain ⟨t4, et4, h⟩ := bs h
  refine evi_seq (v_asg (v_asV (v_callI [] [t3.1] (v_ao rfl (.io _) (v_av (v_asV (v_callI [] [t2] (v_ao rfl (.io _) (v_av (v_m2ee v_c (v_asV (v_callI [] [x_most, (.int 3)] (v_ao rfl (.io _) (v_av (v_va rfl) (v_av v_c v_a0))) rfl (.io _) rfl (lf__law_dip et1))) et2) v_a0)) rfl (.io _) rfl (lf__law_words et3))) v_a0)) rfl (.io _) rfl (lf__law_stirred et4))) ag_n) ?_
  refine evi_seq (v_setO (v_lst v_nil) rfl) ?_
  obtain ⟨t5, et5, h⟩ := bs h
  obtain ⟨t6, et6, h⟩ := bs h
  obtain ⟨s4, es4, h⟩ := bs h
  refine evi_seq (v_forN (s0 := (t4.2, (Ow.lst []))) (fun s1 => [.io s1.1, .no, .va t4.1, .ow s1.2, .no, .no, .no, .no]) (v_rng (v_cons (v_m1n (hb_va rfl) et5) v_nil) et6) (.cons (.rf _) (.cons (le_n _) (.cons (.rf _) (.cons (.rf _) (.cons (.rf _) (.cons (.rf _) (.cons (.rf _) (.cons (.rf _) Le.nil)))))))) es4 (fun d1 s1 so g1 => ?_)) ?_
  · (
    unfold F2__law_ladder at g1
    refine ⟨[.io s1.1, .no, .va t4.1, .ow s1.2, .va d1, .no, .no, .no], ag_n, ?_⟩
    unfold l2__law_ladder
    obtain ⟨t7, et7, g1⟩ := bs g1
    obtain ⟨t8, et8, g1⟩ := bs g1
    obtain ⟨t12, et12, g1⟩ := bs g1
    obtain ⟨t15, et15, g1⟩ := bs g1
    refine evi_seq (v_setO (v_if (z := t15.1) (ρ' := [.io t15.2, .no, .va t4.1, .ow s1.2, .va d1, .no, .no, .no]) (v_or (b := t12.1) (ρ' := [.io t12.2, .no, .va t4.1, .ow s1.2, .va d1, .no, .no, .no]) (v_tb (v_m2ne (hb_va rfl) v_c (hb_va rfl) et7) et8) (fun q => by have k1 := cdF q et12; obtain ⟨t9, et9, k1⟩ := bs k1; obtain ⟨t10, et10, k1⟩ := bs k1; obtain ⟨t11, et11, k1⟩ := bs k1; cases k1; exact Ev.wk (v_tb (v_m2ee (v_asV (v_callI [] [(.int 4), (D.int 0)] (v_ao rfl (.io _) (v_av v_c (v_av v_c v_a0))) rfl (.io _) rfl (lf__law_dip et9))) v_c et10) et11) (.cons (.rf _) (.cons (.rf _) (.cons (.rf _) (.cons (.rf _) (.cons (.rf _) (.cons (.rf _) (.cons (.rf _) (.cons (.rf _) Le.nil))))))))) (fun q => by have k1 := cdT q et12; cases k1; exact ⟨rfl, (.cons (.rf _) (.cons (.rf _) (.cons (.rf _) (.cons (.rf _) (.cons (.rf _) (.cons (.rf _) (.cons (.rf _) (.cons (.rf _) Le.nil))))))))⟩)) (fun q => by have k2 := cdT q et15; cases k2; exact Ev.wk (v_lst (v_cons v_c v_nil)) (.cons (.rf _) (.cons (.rf _) (.cons (.rf _) (.cons (.rf _) (.cons (.rf _) (.cons (.rf _) (.cons (.rf _) (.cons (.rf _) Le.nil))))))))) (fun q => by have k2 := cdF q et15; obtain ⟨t13, et13, k2⟩ := bs k2; obtain ⟨t14, et14, k2⟩ := bs k2; cases k2; exact Ev.wk (v_lst (v_cons (v_m2ne (hb_va rfl) (v_asV (v_callI [] [d1, (D.int 0)] (v_ao rfl (.io _) (v_av (v_va rfl) (v_av v_c v_a0))) rfl (.io _) rfl (lf__law_dip et13))) (hb_va rfl) et14) v_nil)) (.cons (.rf _) (.cons (.rf _) (.cons (.rf _) (.cons (.rf _) (.cons (.rf _) (.cons (.rf _) (.cons (.rf _) (.cons (.rf _) Le.nil)))))))))) rfl) ?_
    obtain ⟨t16, et16, g1⟩ := bs g1
    obtain ⟨t17, et17, g1⟩ := bs g1
    obtain ⟨s3, es3, g1⟩ := bs g1
    refine evi_seq (v_forN (s0 := (t16.2, t15.1)) (fun s2 => [.io s2.1, .no, .va t4.1, .ow s1.2, .va d1, .ow s2.2, .no, .no]) (v_rng (v_cons (v_asV (v_callI [] [(.int 3), (.int 4)] (v_ao rfl (.io _) (v_av v_c (v_av v_c v_a0))) rfl (.io _) rfl (lf__law_dip et16))) v_nil) et17) (.cons (.rf _) (.cons (.rf _) (.cons (.rf _) (.cons (.rf _) (.cons (.rf _) (.cons (.rf _) (.cons (.rf _) (.cons (.rf _) Le.nil)))))))) es3 (fun d2 s2 so g2 => ?_)) ?_
    · (
      unfold F1__law_ladder at g2
      refine ⟨[.io s2.1, .no, .va t4.1, .ow s1.2, .va d1, .ow s2.2, .va d2, .no], ag_n, ?_⟩
      unfold l1__law_ladder
      obtain ⟨t18, et18, g2⟩ := bs g2
      obtain ⟨t19, et19, g2⟩ := bs g2
      obtain ⟨t20, et20, g2⟩ := bs g2
      obtain ⟨t21, et21, g2⟩ := bs g2
      obtain ⟨t22, et22, g2⟩ := bs g2
      refine evi_seq (v_asg (v_m2ee (v_ov (v_m2ne (hb_va rfl) (v_ov (v_lst (v_cons v_c v_nil))) (hb_va rfl) et18)) (v_asV (v_callI [] [t20, (D.int 0)] (v_ao rfl (.io _) (v_av (v_m2ee (v_m1n (hb_va rfl) et19) v_c et20) (v_av v_c v_a0))) rfl (.io _) rfl (lf__law_dip et21))) et22) ag_n) ?_
      obtain ⟨t23, et23, g2⟩ := bs g2
      obtain ⟨t24, et24, g2⟩ := bs g2
      rcases b2 t24 with q | q
      · replace g2 := cdT q g2
        refine evi_T (v_tb (v_m2nn (hb_va rfl) (hb_ow rfl) et23) et24) q ?_
        obtain ⟨t25, et25, g2⟩ := bs g2
        cases g2
        exact evi (v_expr (v_M1' rfl (.ow _) (v_va rfl) rfl et25)) ⟨.inl rfl, (.cons (.rf _) (.cons (.rf _) (.cons (.rf _) (.cons (.rf _) (.cons (.rf _) (.cons (.rf _) (.cons (le_n _) (.cons (le_n _) Le.nil))))))))⟩
      · replace g2 := cdF q g2
        refine evi_F (v_tb (v_m2nn (hb_va rfl) (hb_ow rfl) et23) et24) q ?_
        cases g2
        exact evi v_skip ⟨.inl rfl, (.cons (.rf _) (.cons (.rf _) (.cons (.rf _) (.cons (.rf _) (.cons (.rf _) (.cons (.rf _) (.cons (le_n _) (.cons (le_n _) Le.nil))))))))⟩
      )
    obtain ⟨t26, et26, g1⟩ := bs g1
    obtain ⟨t27, et27, g1⟩ := bs g1
    obtain ⟨t28, et28, g1⟩ := bs g1
    obtain ⟨t29, et29, g1⟩ := bs g1
    cases g1
    exact evi (v_expr (v_M1' rfl (.ow _) (v_tup (v_cons (v_m2nn (hb_va rfl) (hb_va rfl) et26) (v_cons (v_m1e (v_ov (v_m1n (hb_ow rfl) et27)) et28) v_nil))) rfl et29)) ⟨.inl rfl, (.cons (.rf _) (.cons (.rf _) (.cons (.rf _) (.cons (.rf _) (.cons (le_n _) (.cons (le_o _) (.cons (.rf _) (.cons (.rf _) Le.nil))))))))⟩
    )
  obtain ⟨t30, et30, h⟩ := bs h
  obtain ⟨t31, et31, h⟩ := bs h
  cases h
  exact evi (v_mret (v_m1e (v_ov (v_m1n (hb_ow rfl) et30)) et31)) ⟨.inl rfl, rfl⟩
theorem lf__law_way {x_ladder : D} {x_kind : D} {x_aim : D} {x_bars : D} {r : D} (h : F__law_way x_ladder x_kind x_aim x_bars = some r) : f__law_way [.va x_ladder, .va x_kind, .va x_aim, .va x_bars] = some (.va r, none) := by
  unfold F__law_way at h
  unfold f__law_way
  refine fn_V rfl ?_
  unfold m__law_way
  show EvI _ [.va x_ladder, .va x_kind, .va x_aim, .va x_bars, .no, .no, .no, .no, .no, .no, .no, .no] _
  obtain ⟨t1, et1, h⟩ := bs h
  refine evi_seq (v_setO (v_m1n (hb_va rfl) et1) rfl) ?_
  obtain ⟨t2, et2, h⟩ := bs h
  obtain ⟨t6, et6, h⟩ := bs h
  obtain ⟨t7, et7, h⟩ := bs h
  obtain ⟨t8, et8, h⟩ := bs h
  refine evi_seq (v_setO (v_m1e (v_ov (v_lcP (ρ0 := [.va x_ladder, .va x_kind, .va x_aim, .va x_bars, .va t1.d, .no, .no, .no, .no, .no, .no, .no]) (v_it (v_ow rfl) et2) (.cons (.rf _) (.cons (.rf _) (.cons (.rf _) (.cons (.rf _) (.cons (.rf _) (.cons (.rf _) (.cons (.rf _) (.cons (.rf _) (.cons (.rf _) (.cons (.rf _) (.cons (.rf _) (.cons (.rf _) Le.nil)))))))))))) et6 et7 (fun d1 r k1 => by (unfold C1__law_way at k1; obtain ⟨t3, et3, k1⟩ := bs k1; obtain ⟨t4, et4, k1⟩ := bs k1; obtain ⟨t5, et5, k1⟩ := bs k1; refine Or.elim (b2 t5) (fun q => by (replace k1 := cdT q k1; cases k1; exact ⟨_, _, _, ag_n, (v_tb (v_m2ne (hb_va rfl) (v_m2nn (hb_va rfl) (hb_va rfl) et3) (hb_va rfl) et4) et5), .inr ⟨_, _, q, rfl, (v_tup (v_cons (v_va rfl) (v_cons v_c v_nil))), (.cons (.rf _) (.cons (.rf _) (.cons (.rf _) (.cons (.rf _) (.cons (.rf _) (.cons (.rf _) (.cons (.rf _) (.cons (.rf _) (.cons (.rf _) (.cons (.rf _) (.cons (.rf _) (.cons (.rf _) Le.nil))))))))))))⟩⟩)) (fun q => by (replace k1 := cdF q k1; cases k1; exact ⟨_, _, _, ag_n, (v_tb (v_m2ne (hb_va rfl) (v_m2nn (hb_va rfl) (hb_va rfl) et3) (hb_va rfl) et4) et5), .inl ⟨q, rfl, (.cons (.rf _) (.cons (.rf _) (.cons (.rf _) (.cons (.rf _) (.cons (.rf _) (.cons (.rf _) (.cons (.rf _) (.cons (.rf _) (.cons (.rf _) (.cons (.rf _) (.cons (.rf _) (.cons (.rf _) Le.nil))))))))))))⟩⟩)))))) et8) rfl) ?_
  refine evi_seq (v_asg v_c ag_n) ?_
  refine evi_seq (v_asg v_c ag_n) ?_
  obtain ⟨s4, es4, h⟩ := bs h
  refine evi_seq (v_whC (s0 := (t8, (.bl true), (.int 0))) (fun s1 => [.no, .va x_kind, .no, .va x_bars, .va t1.d, .ow s1.1, .va s1.2.1, .va s1.2.2, .no, .no, .no, .no]) (.cons (le_n _) (.cons (.rf _) (.cons (le_n _) (.cons (.rf _) (.cons (.rf _) (.cons (.rf _) (.cons (.rf _) (.cons (.rf _) (.cons (.rf _) (.cons (.rf _) (.cons (.rf _) (.cons (.rf _) Le.nil)))))))))))) es4 (fun s1 qq kw1 => by (unfold F2__law_way at kw1; obtain ⟨t9, et9, kw1⟩ := bs kw1; cases kw1; exact (v_m1n (hb_va rfl) et9))) (fun s1 so g1 => ?_)) ?_
  · (
    unfold F3__law_way at g1
    unfold l2__law_way
    refine evi_seq (v_asg v_c ag_n) ?_
    obtain ⟨t10, et10, g1⟩ := bs g1
    refine evi_seq (v_augI rfl v_c et10 rfl) ?_
    obtain ⟨t11, et11, g1⟩ := bs g1
    obtain ⟨s3, es3, g1⟩ := bs g1
    cases g1
    refine evi (v_forN (s0 := (s1.1, (.bl false))) (fun s2 => [.no, .va x_kind, .no, .va x_bars, .va t1.d, .ow s2.1, .va s2.2, .va t10, .no, .no, .no, .no]) (v_it (v_va rfl) et11) (.cons (.rf _) (.cons (.rf _) (.cons (.rf _) (.cons (.rf _) (.cons (.rf _) (.cons (.rf _) (.cons (.rf _) (.cons (.rf _) (.cons (.rf _) (.cons (.rf _) (.cons (.rf _) (.cons (.rf _) Le.nil)))))))))))) es3 (fun d3 s2 so g2 => ?_)) ⟨.inl rfl, (.cons (.rf _) (.cons (.rf _) (.cons (.rf _) (.cons (.rf _) (.cons (.rf _) (.cons (.rf _) (.cons (.rf _) (.cons (.rf _) (.cons (.rf _) (.cons (.rf _) (.cons (.rf _) (.cons (.rf _) Le.nil))))))))))))⟩
    · (
      unfold F1__law_way at g2
      refine ⟨[.no, .va x_kind, .no, .va x_bars, .va t1.d, .ow s2.1, .va s2.2, .va t10, .va d3, .no, .no, .no], ag_n, ?_⟩
      unfold l1__law_way
      obtain ⟨t12, et12, g2⟩ := bs g2
      obtain ⟨t13, et13, g2⟩ := bs g2
      obtain ⟨t31, et31, g2⟩ := bs g2
      rcases b2 t31 with q | q
      · replace g2 := cdT q g2
        refine evi_T (v_and (b := t31) (ρ' := [.no, .va x_kind, .no, .va x_bars, .va t1.d, .ow s2.1, .va s2.2, .va t10, .va d3, .no, .no, .no]) (v_tb (v_m2nn (hb_va rfl) (hb_ow rfl) et12) et13) (fun q => by have k5 := cdT q et31; obtain ⟨t14, et14, k5⟩ := bs k5; obtain ⟨t15, et15, k5⟩ := bs k5; obtain ⟨t26, et26, k5⟩ := bs k5; obtain ⟨t27, et27, k5⟩ := bs k5; obtain ⟨t28, et28, k5⟩ := bs k5; obtain ⟨t29, et29, k5⟩ := bs k5; obtain ⟨t30, et30, k5⟩ := bs k5; exact Ev.val (Ev.wk (v_tb (v_m2ee (v_m1e (v_ov (v_lcP (ρ0 := [.no, .va x_kind, .no, .va x_bars, .va t1.d, .ow s2.1, .va s2.2, .va t10, .va d3, .no, .no, .no]) (v_it (v_m2nn (hb_va rfl) (hb_va rfl) et14) et15) (.cons (.rf _) (.cons (.rf _) (.cons (.rf _) (.cons (.rf _) (.cons (.rf _) (.cons (.rf _) (.cons (.rf _) (.cons (.rf _) (.cons (.rf _) (.cons (.rf _) (.cons (.rf _) (.cons (.rf _) Le.nil)))))))))))) et26 et27 (fun d4 r k4 => by (unfold C2__law_way at k4; obtain ⟨t16, et16, k4⟩ := bs k4; obtain ⟨t17, et17, k4⟩ := bs k4; obtain ⟨t25, et25, k4⟩ := bs k4; refine Or.elim (b2 t25) (fun q => by (replace k4 := cdT q k4; cases k4; exact ⟨_, _, _, ag_n, (v_and (b := t25) (ρ' := [.no, .va x_kind, .no, .va x_bars, .va t1.d, .ow s2.1, .va s2.2, .va t10, .va d3, .no, .no, .va d4]) (v_tb (v_m2nn (hb_va rfl) (hb_ow rfl) et16) et17) (fun q => by have k3 := cdT q et25; obtain ⟨t18, et18, k3⟩ := bs k3; obtain ⟨t19, et19, k3⟩ := bs k3; obtain ⟨t20, et20, k3⟩ := bs k3; obtain ⟨t21, et21, k3⟩ := bs k3; obtain ⟨t24, et24, k3⟩ := bs k3; exact Ev.val (Ev.wk (v_and (b := t24) (ρ' := [.no, .va x_kind, .no, .va x_bars, .va t1.d, .ow s2.1, .va s2.2, .va t10, .va d3, .no, .no, .va d4]) (v_tb (v_m2ee (v_m2nn (hb_ow rfl) (hb_va rfl) et18) (v_m2ne (hb_va rfl) v_c (hb_va rfl) et19) et20) et21) (fun q => by have k2 := cdT q et24; obtain ⟨t22, et22, k2⟩ := bs k2; obtain ⟨t23, et23, k2⟩ := bs k2; exact Ev.val (Ev.wk (v_tb (v_m2nn (hb_va rfl) (hb_va rfl) et22) et23) (.cons (.rf _) (.cons (.rf _) (.cons (.rf _) (.cons (.rf _) (.cons (.rf _) (.cons (.rf _) (.cons (.rf _) (.cons (.rf _) (.cons (.rf _) (.cons (.rf _) (.cons (.rf _) (.cons (.rf _) Le.nil))))))))))))) (Option.some.inj k2)) (fun q => by have k2 := cdF q et24; exact ⟨(Option.some.inj k2).symm, (.cons (.rf _) (.cons (.rf _) (.cons (.rf _) (.cons (.rf _) (.cons (.rf _) (.cons (.rf _) (.cons (.rf _) (.cons (.rf _) (.cons (.rf _) (.cons (.rf _) (.cons (.rf _) (.cons (.rf _) Le.nil))))))))))))⟩)) (.cons (.rf _) (.cons (.rf _) (.cons (.rf _) (.cons (.rf _) (.cons (.rf _) (.cons (.rf _) (.cons (.rf _) (.cons (.rf _) (.cons (.rf _) (.cons (.rf _) (.cons (.rf _) (.cons (.rf _) Le.nil))))))))))))) (Option.some.inj k3)) (fun q => by have k3 := cdF q et25; exact ⟨(Option.some.inj k3).symm, (.cons (.rf _) (.cons (.rf _) (.cons (.rf _) (.cons (.rf _) (.cons (.rf _) (.cons (.rf _) (.cons (.rf _) (.cons (.rf _) (.cons (.rf _) (.cons (.rf _) (.cons (.rf _) (.cons (.rf _) Le.nil))))))))))))⟩)), .inr ⟨_, _, q, rfl, (v_va rfl), (.cons (.rf _) (.cons (.rf _) (.cons (.rf _) (.cons (.rf _) (.cons (.rf _) (.cons (.rf _) (.cons (.rf _) (.cons (.rf _) (.cons (.rf _) (.cons (.rf _) (.cons (.rf _) (.cons (.rf _) Le.nil))))))))))))⟩⟩)) (fun q => by (replace k4 := cdF q k4; cases k4; exact ⟨_, _, _, ag_n, (v_and (b := t25) (ρ' := [.no, .va x_kind, .no, .va x_bars, .va t1.d, .ow s2.1, .va s2.2, .va t10, .va d3, .no, .no, .va d4]) (v_tb (v_m2nn (hb_va rfl) (hb_ow rfl) et16) et17) (fun q => by have k3 := cdT q et25; obtain ⟨t18, et18, k3⟩ := bs k3; obtain ⟨t19, et19, k3⟩ := bs k3; obtain ⟨t20, et20, k3⟩ := bs k3; obtain ⟨t21, et21, k3⟩ := bs k3; obtain ⟨t24, et24, k3⟩ := bs k3; exact Ev.val (Ev.wk (v_and (b := t24) (ρ' := [.no, .va x_kind, .no, .va x_bars, .va t1.d, .ow s2.1, .va s2.2, .va t10, .va d3, .no, .no, .va d4]) (v_tb (v_m2ee (v_m2nn (hb_ow rfl) (hb_va rfl) et18) (v_m2ne (hb_va rfl) v_c (hb_va rfl) et19) et20) et21) (fun q => by have k2 := cdT q et24; obtain ⟨t22, et22, k2⟩ := bs k2; obtain ⟨t23, et23, k2⟩ := bs k2; exact Ev.val (Ev.wk (v_tb (v_m2nn (hb_va rfl) (hb_va rfl) et22) et23) (.cons (.rf _) (.cons (.rf _) (.cons (.rf _) (.cons (.rf _) (.cons (.rf _) (.cons (.rf _) (.cons (.rf _) (.cons (.rf _) (.cons (.rf _) (.cons (.rf _) (.cons (.rf _) (.cons (.rf _) Le.nil))))))))))))) (Option.some.inj k2)) (fun q => by have k2 := cdF q et24; exact ⟨(Option.some.inj k2).symm, (.cons (.rf _) (.cons (.rf _) (.cons (.rf _) (.cons (.rf _) (.cons (.rf _) (.cons (.rf _) (.cons (.rf _) (.cons (.rf _) (.cons (.rf _) (.cons (.rf _) (.cons (.rf _) (.cons (.rf _) Le.nil))))))))))))⟩)) (.cons (.rf _) (.cons (.rf _) (.cons (.rf _) (.cons (.rf _) (.cons (.rf _) (.cons (.rf _) (.cons (.rf _) (.cons (.rf _) (.cons (.rf _) (.cons (.rf _) (.cons (.rf _) (.cons (.rf _) Le.nil))))))))))))) (Option.some.inj k3)) (fun q => by have k3 := cdF q et25; exact ⟨(Option.some.inj k3).symm, (.cons (.rf _) (.cons (.rf _) (.cons (.rf _) (.cons (.rf _) (.cons (.rf _) (.cons (.rf _) (.cons (.rf _) (.cons (.rf _) (.cons (.rf _) (.cons (.rf _) (.cons (.rf _) (.cons (.rf _) Le.nil))))))))))))⟩)), .inl ⟨q, rfl, (.cons (.rf _) (.cons (.rf _) (.cons (.rf _) (.cons (.rf _) (.cons (.rf _) (.cons (.rf _) (.cons (.rf _) (.cons (.rf _) (.cons (.rf _) (.cons (.rf _) (.cons (.rf _) (.cons (.rf _) Le.nil))))))))))))⟩⟩)))))) et28) v_c et29) et30) (.cons (.rf _) (.cons (.rf _) (.cons (.rf _) (.cons (.rf _) (.cons (.rf _) (.cons (.rf _) (.cons (.rf _) (.cons (.rf _) (.cons (.rf _) (.cons (.rf _) (.cons (.rf _) (.cons (.rf _) Le.nil))))))))))))) (Option.some.inj k5)) (fun q => by have k5 := cdF q et31; exact ⟨(Option.some.inj k5).symm, (.cons (.rf _) (.cons (.rf _) (.cons (.rf _) (.cons (.rf _) (.cons (.rf _) (.cons (.rf _) (.cons (.rf _) (.cons (.rf _) (.cons (.rf _) (.cons (.rf _) (.cons (.rf _) (.cons (.rf _) Le.nil))))))))))))⟩)) q ?_
        obtain ⟨t32, et32, g2⟩ := bs g2
        refine evi_seq (v_setIx (v_va rfl) rfl (.ow _) (v_va rfl) rfl (.ow _) et32) ?_
        cases g2
        exact evi (v_asg v_c ag_n) ⟨.inl rfl, (.cons (.rf _) (.cons (.rf _) (.cons (.rf _) (.cons (.rf _) (.cons (.rf _) (.cons (.rf _) (.cons (.rf _) (.cons (.rf _) (.cons (le_n _) (.cons (.rf _) (.cons (.rf _) (.cons (.rf _) Le.nil))))))))))))⟩
      · replace g2 := cdF q g2
        refine evi_F (v_and (b := t31) (ρ' := [.no, .va x_kind, .no, .va x_bars, .va t1.d, .ow s2.1, .va s2.2, .va t10, .va d3, .no, .no, .no]) (v_tb (v_m2nn (hb_va rfl) (hb_ow rfl) et12) et13) (fun q => by have k5 := cdT q et31; obtain ⟨t14, et14, k5⟩ := bs k5; obtain ⟨t15, et15, k5⟩ := bs k5; obtain ⟨t26, et26, k5⟩ := bs k5; obtain ⟨t27, et27, k5⟩ := bs k5; obtain ⟨t28, et28, k5⟩ := bs k5; obtain ⟨t29, et29, k5⟩ := bs k5; obtain ⟨t30, et30, k5⟩ := bs k5; exact Ev.val (Ev.wk (v_tb (v_m2ee (v_m1e (v_ov (v_lcP (ρ0 := [.no, .va x_kind, .no, .va x_bars, .va t1.d, .ow s2.1, .va s2.2, .va t10, .va d3, .no, .no, .no]) (v_it (v_m2nn (hb_va rfl) (hb_va rfl) et14) et15) (.cons (.rf _) (.cons (.rf _) (.cons (.rf _) (.cons (.rf _) (.cons (.rf _) (.cons (.rf _) (.cons (.rf _) (.cons (.rf _) (.cons (.rf _) (.cons (.rf _) (.cons (.rf _) (.cons (.rf _) Le.nil)))))))))))) et26 et27 (fun d4 r k4 => by (unfold C2__law_way at k4; obtain ⟨t16, et16, k4⟩ := bs k4; obtain ⟨t17, et17, k4⟩ := bs k4; obtain ⟨t25, et25, k4⟩ := bs k4; refine Or.elim (b2 t25) (fun q => by (replace k4 := cdT q k4; cases k4; exact ⟨_, _, _, ag_n, (v_and (b := t25) (ρ' := [.no, .va x_kind, .no, .va x_bars, .va t1.d, .ow s2.1, .va s2.2, .va t10, .va d3, .no, .no, .va d4]) (v_tb (v_m2nn (hb_va rfl) (hb_ow rfl) et16) et17) (fun q => by have k3 := cdT q et25; obtain ⟨t18, et18, k3⟩ := bs k3; obtain ⟨t19, et19, k3⟩ := bs k3; obtain ⟨t20, et20, k3⟩ := bs k3; obtain ⟨t21, et21, k3⟩ := bs k3; obtain ⟨t24, et24, k3⟩ := bs k3; exact Ev.val (Ev.wk (v_and (b := t24) (ρ' := [.no, .va x_kind, .no, .va x_bars, .va t1.d, .ow s2.1, .va s2.2, .va t10, .va d3, .no, .no, .va d4]) (v_tb (v_m2ee (v_m2nn (hb_ow rfl) (hb_va rfl) et18) (v_m2ne (hb_va rfl) v_c (hb_va rfl) et19) et20) et21) (fun q => by have k2 := cdT q et24; obtain ⟨t22, et22, k2⟩ := bs k2; obtain ⟨t23, et23, k2⟩ := bs k2; exact Ev.val (Ev.wk (v_tb (v_m2nn (hb_va rfl) (hb_va rfl) et22) et23) (.cons (.rf _) (.cons (.rf _) (.cons (.rf _) (.cons (.rf _) (.cons (.rf _) (.cons (.rf _) (.cons (.rf _) (.cons (.rf _) (.cons (.rf _) (.cons (.rf _) (.cons (.rf _) (.cons (.rf _) Le.nil))))))))))))) (Option.some.inj k2)) (fun q => by have k2 := cdF q et24; exact ⟨(Option.some.inj k2).symm, (.cons (.rf _) (.cons (.rf _) (.cons (.rf _) (.cons (.rf _) (.cons (.rf _) (.cons (.rf _) (.cons (.rf _) (.cons (.rf _) (.cons (.rf _) (.cons (.rf _) (.cons (.rf _) (.cons (.rf _) Le.nil))))))))))))⟩)) (.cons (.rf _) (.cons (.rf _) (.cons (.rf _) (.cons (.rf _) (.cons (.rf _) (.cons (.rf _) (.cons (.rf _) (.cons (.rf _) (.cons (.rf _) (.cons (.rf _) (.cons (.rf _) (.cons (.rf _) Le.nil))))))))))))) (Option.some.inj k3)) (fun q => by have k3 := cdF q et25; exact ⟨(Option.some.inj k3).symm, (.cons (.rf _) (.cons (.rf _) (.cons (.rf _) (.cons (.rf _) (.cons (.rf _) (.cons (.rf _) (.cons (.rf _) (.cons (.rf _) (.cons (.rf _) (.cons (.rf _) (.cons (.rf _) (.cons (.rf _) Le.nil))))))))))))⟩)), .inr ⟨_, _, q, rfl, (v_va rfl), (.cons (.rf _) (.cons (.rf _) (.cons (.rf _) (.cons (.rf _) (.cons (.rf _) (.cons (.rf _) (.cons (.rf _) (.cons (.rf _) (.cons (.rf _) (.cons (.rf _) (.cons (.rf _) (.cons (.rf _) Le.nil))))))))))))⟩⟩)) (fun q => by (replace k4 := cdF q k4; cases k4; exact ⟨_, _, _, ag_n, (v_and (b := t25) (ρ' := [.no, .va x_kind, .no, .va x_bars, .va t1.d, .ow s2.1, .va s2.2, .va t10, .va d3, .no, .no, .va d4]) (v_tb (v_m2nn (hb_va rfl) (hb_ow rfl) et16) et17) (fun q => by have k3 := cdT q et25; obtain ⟨t18, et18, k3⟩ := bs k3; obtain ⟨t19, et19, k3⟩ := bs k3; obtain ⟨t20, et20, k3⟩ := bs k3; obtain ⟨t21, et21, k3⟩ := bs k3; obtain ⟨t24, et24, k3⟩ := bs k3; exact Ev.val (Ev.wk (v_and (b := t24) (ρ' := [.no, .va x_kind, .no, .va x_bars, .va t1.d, .ow s2.1, .va s2.2, .va t10, .va d3, .no, .no, .va d4]) (v_tb (v_m2ee (v_m2nn (hb_ow rfl) (hb_va rfl) et18) (v_m2ne (hb_va rfl) v_c (hb_va rfl) et19) et20) et21) (fun q => by have k2 := cdT q et24; obtain ⟨t22, et22, k2⟩ := bs k2; obtain ⟨t23, et23, k2⟩ := bs k2; exact Ev.val (Ev.wk (v_tb (v_m2nn (hb_va rfl) (hb_va rfl) et22) et23) (.cons (.rf _) (.cons (.rf _) (.cons (.rf _) (.cons (.rf _) (.cons (.rf _) (.cons (.rf _) (.cons (.rf _) (.cons (.rf _) (.cons (.rf _) (.cons (.rf _) (.cons (.rf _) (.cons (.rf _) Le.nil))))))))))))) (Option.some.inj k2)) (fun q => by have k2 := cdF q et24; exact ⟨(Option.some.inj k2).symm, (.cons (.rf _) (.cons (.rf _) (.cons (.rf _) (.cons (.rf _) (.cons (.rf _) (.cons (.rf _) (.cons (.rf _) (.cons (.rf _) (.cons (.rf _) (.cons (.rf _) (.cons (.rf _) (.cons (.rf _) Le.nil))))))))))))⟩)) (.cons (.rf _) (.cons (.rf _) (.cons (.rf _) (.cons (.rf _) (.cons (.rf _) (.cons (.rf _) (.cons (.rf _) (.cons (.rf _) (.cons (.rf _) (.cons (.rf _) (.cons (.rf _) (.cons (.rf _) Le.nil))))))))))))) (Option.some.inj k3)) (fun q => by have k3 := cdF q et25; exact ⟨(Option.some.inj k3).symm, (.cons (.rf _) (.cons (.rf _) (.cons (.rf _) (.cons (.rf _) (.cons (.rf _) (.cons (.rf _) (.cons (.rf _) (.cons (.rf _) (.cons (.rf _) (.cons (.rf _) (.cons (.rf _) (.cons (.rf _) Le.nil))))))))))))⟩)), .inl ⟨q, rfl, (.cons (.rf _) (.cons (.rf _) (.cons (.rf _) (.cons (.rf _) (.cons (.rf _) (.cons (.rf _) (.cons (.rf _) (.cons (.rf _) (.cons (.rf _) (.cons (.rf _) (.cons (.rf _) (.cons (.rf _) Le.nil))))))))))))⟩⟩)))))) et28) v_c et29) et30) (.cons (.rf _) (.cons (.rf _) (.cons (.rf _) (.cons (.rf _) (.cons (.rf _) (.cons (.rf _) (.cons (.rf _) (.cons (.rf _) (.cons (.rf _) (.cons (.rf _) (.cons (.rf _) (.cons (.rf _) Le.nil))))))))))))) (Option.some.inj k5)) (fun q => by have k5 := cdF q et31; exact ⟨(Option.some.inj k5).symm, (.cons (.rf _) (.cons (.rf _) (.cons (.rf _) (.cons (.rf _) (.cons (.rf _) (.cons (.rf _) (.cons (.rf _) (.cons (.rf _) (.cons (.rf _) (.cons (.rf _) (.cons (.rf _) (.cons (.rf _) Le.nil))))))))))))⟩)) q ?_
        cases g2
        exact evi v_skip ⟨.inl rfl, (.cons (.rf _) (.cons (.rf _) (.cons (.rf _) (.cons (.rf _) (.cons (.rf _) (.cons (.rf _) (.cons (.rf _) (.cons (.rf _) (.cons (le_n _) (.cons (.rf _) (.cons (.rf _) (.cons (.rf _) Le.nil))))))))))))⟩
      )
    )
  obtain ⟨t33, et33, h⟩ := bs h
  obtain ⟨t34, et34, h⟩ := bs h
  rcases b2 t34 with q | q
  · replace h := cdT q h
    refine evi_seqX (evi_T (v_tb (v_m2nn (hb_va rfl) (hb_ow rfl) et33) et34) q ?_)
    cases h
    exact evi (v_mret v_c) ⟨(fun z => nomatch z), (.inl rfl)⟩
  · replace h := cdF q h
    refine evi_seq (vv_F (v_tb (v_m2nn (hb_va rfl) (hb_ow rfl) et33) et34) q v_skip) ?_
    refine evi_seq (v_setO (v_lst v_nil) rfl) ?_
    refine evi_seq (v_asg (v_va rfl) ag_n) ?_
    obtain ⟨s6, es6, h⟩ := bs h
    refine evi_seq (v_whC (s0 := ((Ow.lst []), x_kind)) (fun s5 => [.no, .no, .no, .va x_bars, .va t1.d, .ow s4.1, .no, .no, .no, .ow s5.1, .va s5.2, .no]) (.cons (.rf _) (.cons (le_n _) (.cons (.rf _) (.cons (.rf _) (.cons (.rf _) (.cons (.rf _) (.cons (le_n _) (.cons (le_n _) (.cons (.rf _) (.cons (.rf _) (.cons (.rf _) (.cons (.rf _) Le.nil)))))))))))) es6 (fun s5 qq kw2 => by (unfold F4__law_way at kw2; obtain ⟨t35, et35, kw2⟩ := bs kw2; obtain ⟨t36, et36, kw2⟩ := bs kw2; obtain ⟨t37, et37, kw2⟩ := bs kw2; cases kw2; exact (v_tb (v_m2ee (v_m2nn (hb_ow rfl) (hb_va rfl) et35) v_c et36) et37))) (fun s5 so g3 => ?_)) ?_
    · (
      unfold F5__law_way at g3
      unfold l3__law_way
      obtain ⟨t38, et38, g3⟩ := bs g3
      obtain ⟨t39, et39, g3⟩ := bs g3
      obtain ⟨t51, et51, g3⟩ := bs g3
      obtain ⟨t52, et52, g3⟩ := bs g3
      obtain ⟨t53, et53, g3⟩ := bs g3
      refine evi_seq (v_asg (v_m1e (v_ov (v_lcP (ρ0 := [.no, .no, .no, .va x_bars, .va t1.d, .ow s4.1, .no, .no, .no, .ow s5.1, .va s5.2, .no]) (v_it (v_m2nn (hb_va rfl) (hb_va rfl) et38) et39) (.cons (.rf _) (.cons (.rf _) (.cons (.rf _) (.cons (.rf _) (.cons (.rf _) (.cons (.rf _) (.cons (.rf _) (.cons (.rf _) (.cons (.rf _) (.cons (.rf _) (.cons (.rf _) (.cons (.rf _) Le.nil)))))))))))) et51 et52 (fun d6 r k8 => by (unfold C3__law_way at k8; obtain ⟨t40, et40, k8⟩ := bs k8; obtain ⟨t41, et41, k8⟩ := bs k8; obtain ⟨t50, et50, k8⟩ := bs k8; refine Or.elim (b2 t50) (fun q => by (replace k8 := cdT q k8; cases k8; exact ⟨_, _, _, ag_n, (v_and (b := t50) (ρ' := [.no, .no, .no, .va x_bars, .va t1.d, .ow s4.1, .no, .no, .no, .ow s5.1, .va s5.2, .va d6]) (v_tb (v_m2nn (hb_va rfl) (hb_ow rfl) et40) et41) (fun q => by have k7 := cdT q et50; obtain ⟨t42, et42, k7⟩ := bs k7; obtain ⟨t43, et43, k7⟩ := bs k7; obtain ⟨t49, et49, k7⟩ := bs k7; exact Ev.val (Ev.wk (v_and (b := t49) (ρ' := [.no, .no, .no, .va x_bars, .va t1.d, .ow s4.1, .no, .no, .no, .ow s5.1, .va s5.2, .va d6]) (v_tb (v_m2nn (hb_va rfl) (hb_va rfl) et42) et43) (fun q => by have k6 := cdT q et49; obtain ⟨t44, et44, k6⟩ := bs k6; obtain ⟨t45, et45, k6⟩ := bs k6; obtain ⟨t46, et46, k6⟩ := bs k6; obtain ⟨t47, et47, k6⟩ := bs k6; obtain ⟨t48, et48, k6⟩ := bs k6; exact Ev.val (Ev.wk (v_tb (v_m2ee (v_m2nn (hb_ow rfl) (hb_va rfl) et44) (v_m2ee (v_m2nn (hb_ow rfl) (hb_va rfl) et45) v_c et46) et47) et48) (.cons (.rf _) (.cons (.rf _) (.cons (.rf _) (.cons (.rf _) (.cons (.rf _) (.cons (.rf _) (.cons (.rf _) (.cons (.rf _) (.cons (.rf _) (.cons (.rf _) (.cons (.rf _) (.cons (.rf _) Le.nil))))))))))))) (Option.some.inj k6)) (fun q => by have k6 := cdF q et49; exact ⟨(Option.some.inj k6).symm, (.cons (.rf _) (.cons (.rf _) (.cons (.rf _) (.cons (.rf _) (.cons (.rf _) (.cons (.rf _) (.cons (.rf _) (.cons (.rf _) (.cons (.rf _) (.cons (.rf _) (.cons (.rf _) (.cons (.rf _) Le.nil))))))))))))⟩)) (.cons (.rf _) (.cons (.rf _) (.cons (.rf _) (.cons (.rf _) (.cons (.rf _) (.cons (.rf _) (.cons (.rf _) (.cons (.rf _) (.cons (.rf _) (.cons (.rf _) (.cons (.rf _) (.cons (.rf _) Le.nil))))))))))))) (Option.some.inj k7)) (fun q => by have k7 := cdF q et50; exact ⟨(Option.some.inj k7).symm, (.cons (.rf _) (.cons (.rf _) (.cons (.rf _) (.cons (.rf _) (.cons (.rf _) (.cons (.rf _) (.cons (.rf _) (.cons (.rf _) (.cons (.rf _) (.cons (.rf _) (.cons (.rf _) (.cons (.rf _) Le.nil))))))))))))⟩)), .inr ⟨_, _, q, rfl, (v_va rfl), (.cons (.rf _) (.cons (.rf _) (.cons (.rf _) (.cons (.rf _) (.cons (.rf _) (.cons (.rf _) (.cons (.rf _) (.cons (.rf _) (.cons (.rf _) (.cons (.rf _) (.cons (.rf _) (.cons (.rf _) Le.nil))))))))))))⟩⟩)) (fun q => by (replace k8 := cdF q k8; cases k8; exact ⟨_, _, _, ag_n, (v_and (b := t50) (ρ' := [.no, .no, .no, .va x_bars, .va t1.d, .ow s4.1, .no, .no, .no, .ow s5.1, .va s5.2, .va d6]) (v_tb (v_m2nn (hb_va rfl) (hb_ow rfl) et40) et41) (fun q => by have k7 := cdT q et50; obtain ⟨t42, et42, k7⟩ := bs k7; obtain ⟨t43, et43, k7⟩ := bs k7; obtain ⟨t49, et49, k7⟩ := bs k7; exact Ev.val (Ev.wk (v_and (b := t49) (ρ' := [.no, .no, .no, .va x_bars, .va t1.d, .ow s4.1, .no, .no, .no, .ow s5.1, .va s5.2, .va d6]) (v_tb (v_m2nn (hb_va rfl) (hb_va rfl) et42) et43) (fun q => by have k6 := cdT q et49; obtain ⟨t44, et44, k6⟩ := bs k6; obtain ⟨t45, et45, k6⟩ := bs k6; obtain ⟨t46, et46, k6⟩ := bs k6; obtain ⟨t47, et47, k6⟩ := bs k6; obtain ⟨t48, et48, k6⟩ := bs k6; exact Ev.val (Ev.wk (v_tb (v_m2ee (v_m2nn (hb_ow rfl) (hb_va rfl) et44) (v_m2ee (v_m2nn (hb_ow rfl) (hb_va rfl) et45) v_c et46) et47) et48) (.cons (.rf _) (.cons (.rf _) (.cons (.rf _) (.cons (.rf _) (.cons (.rf _) (.cons (.rf _) (.cons (.rf _) (.cons (.rf _) (.cons (.rf _) (.cons (.rf _) (.cons (.rf _) (.cons (.rf _) Le.nil))))))))))))) (Option.some.inj k6)) (fun q => by have k6 := cdF q et49; exact ⟨(Option.some.inj k6).symm, (.cons (.rf _) (.cons (.rf _) (.cons (.rf _) (.cons (.rf _) (.cons (.rf _) (.cons (.rf _) (.cons (.rf _) (.cons (.rf _) (.cons (.rf _) (.cons (.rf _) (.cons (.rf _) (.cons (.rf _) Le.nil))))))))))))⟩)) (.cons (.rf _) (.cons (.rf _) (.cons (.rf _) (.cons (.rf _) (.cons (.rf _) (.cons (.rf _) (.cons (.rf _) (.cons (.rf _) (.cons (.rf _) (.cons (.rf _) (.cons (.rf _) (.cons (.rf _) Le.nil))))))))))))) (Option.some.inj k7)) (fun q => by have k7 := cdF q et50; exact ⟨(Option.some.inj k7).symm, (.cons (.rf _) (.cons (.rf _) (.cons (.rf _) (.cons (.rf _) (.cons (.rf _) (.cons (.rf _) (.cons (.rf _) (.cons (.rf _) (.cons (.rf _) (.cons (.rf _) (.cons (.rf _) (.cons (.rf _) Le.nil))))))))))))⟩)), .inl ⟨q, rfl, (.cons (.rf _) (.cons (.rf _) (.cons (.rf _) (.cons (.rf _) (.cons (.rf _) (.cons (.rf _) (.cons (.rf _) (.cons (.rf _) (.cons (.rf _) (.cons (.rf _) (.cons (.rf _) (.cons (.rf _) Le.nil))))))))))))⟩⟩)))))) et53) ag_n) ?_
      obtain ⟨t54, et54, g3⟩ := bs g3
      cases g3
      exact evi (v_expr (v_M1' rfl (.ow _) (v_va rfl) rfl et54)) ⟨.inl rfl, (.cons (.rf _) (.cons (.rf _) (.cons (.rf _) (.cons (.rf _) (.cons (.rf _) (.cons (.rf _) (.cons (.rf _) (.cons (.rf _) (.cons (.rf _) (.cons (.rf _) (.cons (.rf _) (.cons (.rf _) Le.nil))))))))))))⟩
      )
    obtain ⟨t55, et55, h⟩ := bs h
    replace h := Option.some.inj h
    subst h
    exact evi (v_mret (v_m1n (hb_ow rfl) et55)) (.inl rfl)
theorem lf__law_asked {x_ladder : D} {x_kind : D} {x_aim : D} {x_bars : D} {r : D} (h : F__law_asked x_ladder x_kind x_aim x_bars = some r) : f__law_asked [.va x_ladder, .va x_kind, .va x_aim, .va x_bars] = some (.va r, none) := by
  unfold F__law_asked at h
  unfold f__law_asked
  refine fn_V rfl ?_
  unfold m__law_asked
  show EvI _ [.va x_ladder, .va x_kind, .va x_aim, .va x_bars, .no, .no] _
  obtain ⟨t1, et1, h⟩ := bs h
  refine evi_seq (v_asg (v_asV (v_callV [x_ladder, x_kind, x_aim, x_bars] (v_av (v_va rfl) (v_av (v_va rfl) (v_av (v_va rfl) (v_av (v_va rfl) v_a0)))) rfl (lf__law_way et1))) ag_n) ?_
  obtain ⟨t2, et2, h⟩ := bs h
  refine evi_seq (v_asg (v_asV (v_callV [x_ladder, x_kind, x_aim, x_bars] (v_av (v_va rfl) (v_av (v_va rfl) (v_av (v_va rfl) (v_av (v_va rfl) v_a0)))) rfl (lf_has_way et2))) ag_n) ?_
  obtain ⟨t3, et3, h⟩ := bs h
  obtain ⟨t4, et4, h⟩ := bs h
  obtain ⟨t11, et11, h⟩ := bs h
  replace h := Option.some.inj h
  subst h
  exact evi (v_mret (v_andV (y := t11) (ρ' := [.va x_ladder, .va x_kind, .va x_aim, .va x_bars, .va t1, .va t2]) (v_m1n (hb_va rfl) et3) et4 (fun q => by have k2 := cdT q et11; obtain ⟨t5, et5, k2⟩ := bs k2; obtain ⟨t6, et6, k2⟩ := bs k2; obtain ⟨t7, et7, k2⟩ := bs k2; obtain ⟨t10, et10, k2⟩ := bs k2; exact Ev.val (Ev.wk (v_andV (y := t10) (ρ' := [.va x_ladder, .va x_kind, .va x_aim, .va x_bars, .va t1, .va t2]) (v_m2ne (hb_va rfl) (v_m2ne (hb_va rfl) v_c (hb_va rfl) et5) (hb_va rfl) et6) et7 (fun q => by have k1 := cdT q et10; obtain ⟨t8, et8, k1⟩ := bs k1; obtain ⟨t9, et9, k1⟩ := bs k1; exact Ev.val (Ev.wk (v_asV (v_callV [t8, t1] (v_av (v_asV (v_callV [x_ladder, x_kind, x_aim, x_bars] (v_av (v_va rfl) (v_av (v_va rfl) (v_av (v_va rfl) (v_av (v_va rfl) v_a0)))) rfl (lf_short_way et8))) (v_av (v_va rfl) v_a0)) rfl (lf__law_same et9))) (.cons (.rf _) (.cons (.rf _) (.cons (.rf _) (.cons (.rf _) (.cons (.rf _) (.cons (.rf _) Le.nil))))))) (Option.some.inj k1)) (fun q => by have k1 := cdF q et10; exact ⟨(Option.some.inj k1).symm, (.cons (.rf _) (.cons (.rf _) (.cons (.rf _) (.cons (.rf _) (.cons (.rf _) (.cons (.rf _) Le.nil))))))⟩)) (.cons (.rf _) (.cons (.rf _) (.cons (.rf _) (.cons (.rf _) (.cons (.rf _) (.cons (.rf _) Le.nil))))))) (Option.some.inj k2)) (fun q => by have k2 := cdF q et11; exact ⟨(Option.some.inj k2).symm, (.cons (.rf _) (.cons (.rf _) (.cons (.rf _) (.cons (.rf _) (.cons (.rf _) (.cons (.rf _) Le.nil))))))⟩))) (.inl rfl)
theorem lf__law_looked {x_ladder : D} {r : D} (h : F__law_looked x_ladder = some r) : f__law_looked [.va x_ladder] = some (.va r, none) := by
  unfold F__law_looked at h
  unfold f__law_looked
  refine fn_V rfl ?_
  unfold m__law_looked
  show EvI _ [.va x_ladder, .no, .no, .no, .no, .no] _
  obtain ⟨t1, et1, h⟩ := bs h
  obtain ⟨t3, et3, h⟩ := bs h
  obtain ⟨t4, et4, h⟩ := bs h
  refine evi_seq (v_setO (v_lcP (ρ0 := [.va x_ladder, .no, .no, .no, .no, .no]) (v_it (v_va rfl) et1) (.cons (.rf _) (.cons (.rf _) (.cons (.rf _) (.cons (.rf _) (.cons (.rf _) (.cons (.rf _) Le.nil)))))) et3 et4 (fun d1 r k1 => by (unfold C1__law_looked at k1; obtain ⟨t2, et2, k1⟩ := bs k1; cases k1; exact ⟨_, true, _, (ag_2 et2 ag_n ag_n), v_ret, .inr ⟨_, _, rfl, rfl, (v_va rfl), (.cons (.rf _) (.cons (.rf _) (.cons (.rf _) (.cons (.rf _) (.cons (.rf _) (.cons (.rf _) Le.nil))))))⟩⟩))) rfl) ?_
  obtain ⟨t5, et5, h⟩ := bs h
  obtain ⟨t6, et6, h⟩ := bs h
  obtain ⟨t9, et9, h⟩ := bs h
  obtain ⟨t10, et10, h⟩ := bs h
  obtain ⟨t11, et11, h⟩ := bs h
  obtain ⟨t12, et12, h⟩ := bs h
  obtain ⟨t13, et13, h⟩ := bs h
  rcases b2 (!t13) with q | q
  · replace h := cdT q h
    refine evi_seqX (evi_T (v_not (v_m1e (v_asV (v_callV [t5, t11] (v_av (v_asV (v_callV [x_ladder] (v_av (v_va rfl) v_a0) rfl (lf_longest_needed et5))) (v_av (v_m1e (v_ov (v_lcP (ρ0 := [.va x_ladder, .va (Ow.lst t3).d, .no, .no, .no, .no]) (v_it (v_ow rfl) et6) (.cons (.rf _) (.cons (.rf _) (.cons (.rf _) (.cons (.rf _) (.cons (.rf _) (.cons (.rf _) Le.nil)))))) et9 et10 (fun d2 r k2 => by (unfold C2__law_looked at k2; obtain ⟨t7, et7, k2⟩ := bs k2; obtain ⟨t8, et8, k2⟩ := bs k2; cases k2; exact ⟨_, true, _, ag_n, v_ret, .inr ⟨_, _, rfl, rfl, (v_m1e (v_asV (v_callV [x_ladder, d2, (.str ""), (.tup [])] (v_av (v_va rfl) (v_av (v_va rfl) (v_av v_c (v_av (v_tup v_nil) v_a0)))) rfl (lf__law_way et7))) et8), (.cons (.rf _) (.cons (.rf _) (.cons (.rf _) (.cons (.rf _) (.cons (.rf _) (.cons (.rf _) Le.nil))))))⟩⟩)))) et11) v_a0)) rfl (lf__law_same et12))) et13)) q ?_)
    cases h
    exact evi (v_mret v_c) ⟨(fun z => nomatch z), (.inl rfl)⟩
  · replace h := cdF q h
    refine evi_seq (vv_F (v_not (v_m1e (v_asV (v_callV [t5, t11] (v_av (v_asV (v_callV [x_ladder] (v_av (v_va rfl) v_a0) rfl (lf_longest_needed et5))) (v_av (v_m1e (v_ov (v_lcP (ρ0 := [.va x_ladder, .va (Ow.lst t3).d, .no, .no, .no, .no]) (v_it (v_ow rfl) et6) (.cons (.rf _) (.cons (.rf _) (.cons (.rf _) (.cons (.rf _) (.cons (.rf _) (.cons (.rf _) Le.nil)))))) et9 et10 (fun d2 r k2 => by (unfold C2__law_looked at k2; obtain ⟨t7, et7, k2⟩ := bs k2; obtain ⟨t8, et8, k2⟩ := bs k2; cases k2; exact ⟨_, true, _, ag_n, v_ret, .inr ⟨_, _, rfl, rfl, (v_m1e (v_asV (v_callV [x_ladder, d2, (.str ""), (.tup [])] (v_av (v_va rfl) (v_av (v_va rfl) (v_av v_c (v_av (v_tup v_nil) v_a0)))) rfl (lf__law_way et7))) et8), (.cons (.rf _) (.cons (.rf _) (.cons (.rf _) (.cons (.rf _) (.cons (.rf _) (.cons (.rf _) Le.nil))))))⟩⟩)))) et11) v_a0)) rfl (lf__law_same et12))) et13)) q v_skip) ?_
    obtain ⟨t14, et14, h⟩ := bs h
    obtain ⟨r1, er1, h⟩ := bs h
    refine evi_mid (r := r1) (v_forL (I := FV) (s0 := ()) (fun s1 => [.va x_ladder, .va (Ow.lst t3).d, .no, .no, .no, .no]) (v_it (v_va rfl) et14) (.cons (.rf _) (.cons (.rf _) (.cons (.rf _) (.cons (.rf _) (.cons (.rf _) (.cons (.rf _) Le.nil)))))) er1 (fun d3 s1 so g1 => ?_)) (fun s2 q => ?_) (fun x f ρ' q n p => by have w := smX h q; subst w; exact p)
    · (
      unfold F1__law_looked at g1
      refine ⟨[.va x_ladder, .va (Ow.lst t3).d, .va d3, .no, .no, .no], ag_n, ?_⟩
      unfold l1__law_looked
      obtain ⟨t15, et15, g1⟩ := bs g1
      obtain ⟨t22, et22, g1⟩ := bs g1
      obtain ⟨t23, et23, g1⟩ := bs g1
      refine evi_seq (v_setO (v_lcP (ρ0 := [.va x_ladder, .va (Ow.lst t3).d, .va d3, .no, .no, .no]) (v_it (v_va rfl) et15) (.cons (.rf _) (.cons (.rf _) (.cons (.rf _) (.cons (.rf _) (.cons (.rf _) (.cons (.rf _) Le.nil)))))) et22 et23 (fun d4 r k4 => by (unfold C3__law_looked at k4; obtain ⟨t16, et16, k4⟩ := bs k4; obtain ⟨t17, et17, k4⟩ := bs k4; obtain ⟨t21, et21, k4⟩ := bs k4; refine Or.elim (b2 t21) (fun q => by (replace k4 := cdT q k4; cases k4; exact ⟨_, _, _, ag_n, (v_and (b := t21) (ρ' := [.va x_ladder, .va (Ow.lst t3).d, .va d3, .no, .no, .va d4]) (v_tb (v_m2nn (hb_va rfl) (hb_va rfl) et16) et17) (fun q => by have k3 := cdT q et21; obtain ⟨t18, et18, k3⟩ := bs k3; obtain ⟨t19, et19, k3⟩ := bs k3; obtain ⟨t20, et20, k3⟩ := bs k3; exact Ev.val (Ev.wk (v_tb (v_m2ee (v_asV (v_callV [x_ladder, d3, (.str ""), (.tup [d4])] (v_av (v_va rfl) (v_av (v_va rfl) (v_av v_c (v_av (v_tup (v_cons (v_va rfl) v_nil)) v_a0)))) rfl (lf__law_way et18))) v_c et19) et20) (.cons (.rf _) (.cons (.rf _) (.cons (.rf _) (.cons (.rf _) (.cons (.rf _) (.cons (.rf _) Le.nil))))))) (Option.some.inj k3)) (fun q => by have k3 := cdF q et21; exact ⟨(Option.some.inj k3).symm, (.cons (.rf _) (.cons (.rf _) (.cons (.rf _) (.cons (.rf _) (.cons (.rf _) (.cons (.rf _) Le.nil))))))⟩)), .inr ⟨_, _, q, rfl, (v_va rfl), (.cons (.rf _) (.cons (.rf _) (.cons (.rf _) (.cons (.rf _) (.cons (.rf _) (.cons (.rf _) Le.nil))))))⟩⟩)) (fun q => by (replace k4 := cdF q k4; cases k4; exact ⟨_, _, _, ag_n, (v_and (b := t21) (ρ' := [.va x_ladder, .va (Ow.lst t3).d, .va d3, .no, .no, .va d4]) (v_tb (v_m2nn (hb_va rfl) (hb_va rfl) et16) et17) (fun q => by have k3 := cdT q et21; obtain ⟨t18, et18, k3⟩ := bs k3; obtain ⟨t19, et19, k3⟩ := bs k3; obtain ⟨t20, et20, k3⟩ := bs k3; exact Ev.val (Ev.wk (v_tb (v_m2ee (v_asV (v_callV [x_ladder, d3, (.str ""), (.tup [d4])] (v_av (v_va rfl) (v_av (v_va rfl) (v_av v_c (v_av (v_tup (v_cons (v_va rfl) v_nil)) v_a0)))) rfl (lf__law_way et18))) v_c et19) et20) (.cons (.rf _) (.cons (.rf _) (.cons (.rf _) (.cons (.rf _) (.cons (.rf _) (.cons (.rf _) Le.nil))))))) (Option.some.inj k3)) (fun q => by have k3 := cdF q et21; exact ⟨(Option.some.inj k3).symm, (.cons (.rf _) (.cons (.rf _) (.cons (.rf _) (.cons (.rf _) (.cons (.rf _) (.cons (.rf _) Le.nil))))))⟩)), .inl ⟨q, rfl, (.cons (.rf _) (.cons (.rf _) (.cons (.rf _) (.cons (.rf _) (.cons (.rf _) (.cons (.rf _) Le.nil))))))⟩⟩))))) rfl) ?_
      obtain ⟨t24, et24, g1⟩ := bs g1
      obtain ⟨t25, et25, g1⟩ := bs g1
      obtain ⟨t26, et26, g1⟩ := bs g1
      obtain ⟨t27, et27, g1⟩ := bs g1
      rcases b2 (!t27) with q | q
      · replace g1 := cdT q g1
        refine evi_T (v_not (v_m1e (v_asV (v_callV [t24, t25] (v_av (v_asV (v_callK [] [x_ladder, d3] [x_ladder, d3] v_a0 (v_av (v_va rfl) (v_av (v_va rfl) v_a0)) rfl rfl (lf_must_pass et24))) (v_av (v_m1n (hb_ow rfl) et25) v_a0)) rfl (lf__law_same et26))) et27)) q ?_
        cases g1
        exact evi (v_mret v_c) ⟨.inl ⟨_, rfl⟩, (.inl rfl)⟩
      · replace g1 := cdF q g1
        refine evi_F (v_not (v_m1e (v_asV (v_callV [t24, t25] (v_av (v_asV (v_callK [] [x_ladder, d3] [x_ladder, d3] v_a0 (v_av (v_va rfl) (v_av (v_va rfl) v_a0)) rfl rfl (lf_must_pass et24))) (v_av (v_m1n (hb_ow rfl) et25) v_a0)) rfl (lf__law_same et26))) et27)) q ?_
        cases g1
        exact evi v_skip ⟨.inl rfl, (.cons (.rf _) (.cons (.rf _) (.cons (le_n _) (.cons (le_o _) (.cons (.rf _) (.cons (.rf _) Le.nil))))))⟩
      )
    replace h := smK h q
    cases h
    exact evi (v_mret v_c) (.inl rfl)
theorem lf__law_line {x_fount : Ow} {r : (D × Ow)} (h : F__law_line x_fount = some r) : f__law_line [.io x_fount] = some (.va r.1, some r.2) := by
  unfold F__law_line at h
  unfold f__law_line
  refine fn_VI rfl ?_
  unfold m__law_line
  show EvI _ [.io x_fount, .no, .no, .no, .no, .no, .no, .no, .no, .no, .no, .no, .no] _
  obtain ⟨t1, et1, h⟩ := bs h
  obtain ⟨t2, et2, h⟩ := bs h
  obtain ⟨t3, et3, h⟩ := bs h
  refine evi_seq (v_asg (v_asV (v_callI [] [t2] (v_ao rfl (.io _) (v_av (v_m2ee v_c (v_asV (v_callI [] [(.int 4), (D.int 0)] (v_ao rfl (.io _) (v_av v_c (v_av v_c v_a0))) rfl (.io _) rfl (lf__law_dip et1))) et2) v_a0)) rfl (.io _) rfl (lf__law_words et3))) ag_n) ?_
  obtain ⟨t4, et4, h⟩ := bs h
  obtain ⟨t5, et5, h⟩ := bs h
  obtain ⟨t14, et14, h⟩ := bs h
  obtain ⟨t15, et15, h⟩ := bs h
  refine evi_seq (v_setO (v_lcP (ρ0 := [.io t3.2, .va t3.1, .no, .no, .no, .no, .no, .no, .no, .no, .no, .no, .no]) (v_rng (v_cons (v_m1n (hb_va rfl) et4) v_nil) et5) (.cons (.rf _) (.cons (.rf _) (.cons (.rf _) (.cons (.rf _) (.cons (.rf _) (.cons (.rf _) (.cons (.rf _) (.cons (.rf _) (.cons (.rf _) (.cons (.rf _) (.cons (.rf _) (.cons (.rf _) (.cons (.rf _) Le.nil))))))))))))) et14 et15 (fun d1 r k2 => by (unfold C1__law_line at k2; obtain ⟨t6, et6, k2⟩ := bs k2; obtain ⟨t7, et7, k2⟩ := bs k2; obtain ⟨t8, et8, k2⟩ := bs k2; obtain ⟨t9, et9, k2⟩ := bs k2; obtain ⟨t10, et10, k2⟩ := bs k2; obtain ⟨t13, et13, k2⟩ := bs k2; cases k2; exact ⟨_, true, _, ag_n, v_ret, .inr ⟨_, _, rfl, rfl, (v_tup (v_cons (v_m2nn (hb_va rfl) (hb_va rfl) et6) (v_cons (v_if (z := t13) (ρ' := [.io t3.2, .va t3.1, .no, .no, .no, .no, .no, .no, .no, .no, .no, .no, .va d1]) (v_tb (v_m2ee (v_m2ne (hb_va rfl) v_c (hb_va rfl) et7) (v_m1n (hb_va rfl) et8) et9) et10) (fun q => by have k1 := cdT q et13; obtain ⟨t11, et11, k1⟩ := bs k1; obtain ⟨t12, et12, k1⟩ := bs k1; exact Ev.val (Ev.wk (v_tup (v_cons (v_m2ne (hb_va rfl) (v_m2ne (hb_va rfl) v_c (hb_va rfl) et11) (hb_va rfl) et12) v_nil)) (.cons (.rf _) (.cons (.rf _) (.cons (.rf _) (.cons (.rf _) (.cons (.rf _) (.cons (.rf _) (.cons (.rf _) (.cons (.rf _) (.cons (.rf _) (.cons (.rf _) (.cons (.rf _) (.cons (.rf _) (.cons (.rf _) Le.nil)))))))))))))) (Option.some.inj k1)) (fun q => by have k1 := cdF q et13; exact Ev.val (Ev.wk (v_tup (v_cons v_c v_nil)) (.cons (.rf _) (.cons (.rf _) (.cons (.rf _) (.cons (.rf _) (.cons (.rf _) (.cons (.rf _) (.cons (.rf _) (.cons (.rf _) (.cons (.rf _) (.cons (.rf _) (.cons (.rf _) (.cons (.rf _) (.cons (.rf _) Le.nil)))))))))))))) (Option.some.inj k1))) v_nil))), (.cons (.rf _) (.cons (.rf _) (.cons (.rf _) (.cons (.rf _) (.cons (.rf _) (.cons (.rf _) (.cons (.rf _) (.cons (.rf _) (.cons (.rf _) (.cons (.rf _) (.cons (.rf _) (.cons (.rf _) (.cons (.rf _) Le.nil)))))))))))))⟩⟩))) rfl) ?_
  obtain ⟨t16, et16, h⟩ := bs h
  obtain ⟨t17, et17, h⟩ := bs h
  refine evi_seq (v_asg (v_m1e (v_ov (v_m1n (hb_ow rfl) et16)) et17) ag_n) ?_
  obtain ⟨t18, et18, h⟩ := bs h
  obtain ⟨t19, et19, h⟩ := bs h
  obtain ⟨t20, et20, h⟩ := bs h
  obtain ⟨t21, et21, h⟩ := bs h
  obtain ⟨t22, et22, h⟩ := bs h
  obtain ⟨t23, et23, h⟩ := bs h
  obtain ⟨t24, et24, h⟩ := bs h
  obtain ⟨t30, et30, h⟩ := bs h
  rcases b2 t30 with q | q
  · replace h := cdT q h
    refine evi_seqX (evi_T (v_or (b := t30) (ρ' := [.io t3.2, .va t3.1, .ow (Ow.lst t14), .va t17, .no, .no, .no, .no, .no, .no, .no, .no, .no]) (v_not (v_m1e (v_asV (v_callV [t19, t22] (v_av (v_asV (v_callK [] [t17, t18, (.str ""), (.tup [])] [t17, t18, (.str ""), (.tup [])] v_a0 (v_av (v_va rfl) (v_av (v_m2ne (hb_va rfl) v_c (hb_va rfl) et18) (v_av v_c (v_av (v_tup v_nil) v_a0)))) rfl rfl (lf_short_way et19))) (v_av (v_m1e (v_ov (v_sln (hb_va rfl) (v_ps v_c et20) v_pn (hb_va rfl) et21)) et22) v_a0)) rfl (lf__law_same et23))) et24)) (fun q => by have k3 := cdF q et30; obtain ⟨t25, et25, k3⟩ := bs k3; obtain ⟨t26, et26, k3⟩ := bs k3; obtain ⟨t27, et27, k3⟩ := bs k3; obtain ⟨t28, et28, k3⟩ := bs k3; obtain ⟨t29, et29, k3⟩ := bs k3; exact Ev.val (Ev.wk (v_not (v_m1e (v_asV (v_callV [t25, t27] (v_av (v_asV (v_callK [] [t17] [t17] v_a0 (v_av (v_va rfl) v_a0) rfl rfl (lf_longest_needed et25))) (v_av (v_m2ee (v_m1n (hb_va rfl) et26) v_c et27) v_a0)) rfl (lf__law_same et28))) et29)) (.cons (.rf _) (.cons (.rf _) (.cons (.rf _) (.cons (.rf _) (.cons (.rf _) (.cons (.rf _) (.cons (.rf _) (.cons (.rf _) (.cons (.rf _) (.cons (.rf _) (.cons (.rf _) (.cons (.rf _) (.cons (.rf _) Le.nil)))))))))))))) (Option.some.inj k3)) (fun q => by have k3 := cdT q et30; exact ⟨(Option.some.inj k3).symm, (.cons (.rf _) (.cons (.rf _) (.cons (.rf _) (.cons (.rf _) (.cons (.rf _) (.cons (.rf _) (.cons (.rf _) (.cons (.rf _) (.cons (.rf _) (.cons (.rf _) (.cons (.rf _) (.cons (.rf _) (.cons (.rf _) Le.nil)))))))))))))⟩)) q ?_)
    cases h
    exact evi (v_mret v_c) ⟨(fun z => nomatch z), ⟨.inl rfl, rfl⟩⟩
  · replace h := cdF q h
    refine evi_seq (vv_F (v_or (b := t30) (ρ' := [.io t3.2, .va t3.1, .ow (Ow.lst t14), .va t17, .no, .no, .no, .no, .no, .no, .no, .no, .no]) (v_not (v_m1e (v_asV (v_callV [t19, t22] (v_av (v_asV (v_callK [] [t17, t18, (.str ""), (.tup [])] [t17, t18, (.str ""), (.tup [])] v_a0 (v_av (v_va rfl) (v_av (v_m2ne (hb_va rfl) v_c (hb_va rfl) et18) (v_av v_c (v_av (v_tup v_nil) v_a0)))) rfl rfl (lf_short_way et19))) (v_av (v_m1e (v_ov (v_sln (hb_va rfl) (v_ps v_c et20) v_pn (hb_va rfl) et21)) et22) v_a0)) rfl (lf__law_same et23))) et24)) (fun q => by have k3 := cdF q et30; obtain ⟨t25, et25, k3⟩ := bs k3; obtain ⟨t26, et26, k3⟩ := bs k3; obtain ⟨t27, et27, k3⟩ := bs k3; obtain ⟨t28, et28, k3⟩ := bs k3; obtain ⟨t29, et29, k3⟩ := bs k3; exact Ev.val (Ev.wk (v_not (v_m1e (v_asV (v_callV [t25, t27] (v_av (v_asV (v_callK [] [t17] [t17] v_a0 (v_av (v_va rfl) v_a0) rfl rfl (lf_longest_needed et25))) (v_av (v_m2ee (v_m1n (hb_va rfl) et26) v_c et27) v_a0)) rfl (lf__law_same et28))) et29)) (.cons (.rf _) (.cons (.rf _) (.cons (.rf _) (.cons (.rf _) (.cons (.rf _) (.cons (.rf _) (.cons (.rf _) (.cons (.rf _) (.cons (.rf _) (.cons (.rf _) (.cons (.rf _) (.cons (.rf _) (.cons (.rf _) Le.nil)))))))))))))) (Option.some.inj k3)) (fun q => by have k3 := cdT q et30; exact ⟨(Option.some.inj k3).symm, (.cons (.rf _) (.cons (.rf _) (.cons (.rf _) (.cons (.rf _) (.cons (.rf _) (.cons (.rf _) (.cons (.rf _) (.cons (.rf _) (.cons (.rf _) (.cons (.rf _) (.cons (.rf _) (.cons (.rf _) (.cons (.rf _) Le.nil)))))))))))))⟩)) q v_skip) ?_
    obtain ⟨t31, et31, h⟩ := bs h
    obtain ⟨t32, et32, h⟩ := bs h
    obtain ⟨t33, et33, h⟩ := bs h
    obtain ⟨t34, et34, h⟩ := bs h
    obtain ⟨t35, et35, h⟩ := bs h
    refine evi_seq (v_asg (v_m2ne (hb_va rfl) (v_m2ee v_c (v_asV (v_callI [] [t32, (D.int 0)] (v_ao rfl (.io _) (v_av (v_m2ee (v_m1n (hb_va rfl) et31) v_c et32) (v_av v_c v_a0))) rfl (.io _) rfl (lf__law_dip et33))) et34) (hb_va rfl) et35) ag_n) ?_
    obtain ⟨t36, et36, h⟩ := bs h
    obtain ⟨t37, et37, h⟩ := bs h
    obtain ⟨t38, et38, h⟩ := bs h
    obtain ⟨t39, et39, h⟩ := bs h
    obtain ⟨t63, et63, h⟩ := bs h
    rcases b2 t63 with q | q
    · replace h := cdT q h
      refine evi_seqX (evi_T (v_or (b := t63) (ρ' := [.io t33.2, .va t3.1, .ow (Ow.lst t14), .va t17, .va t35, .no, .no, .no, .no, .no, .no, .no, .no]) (v_tb (v_m2ee (v_asV (v_callK [] [t17, t36, (.str ""), (.tup [t35])] [t17, t36, (.str ""), (.tup [t35])] v_a0 (v_av (v_va rfl) (v_av (v_m2ne (hb_va rfl) v_c (hb_va rfl) et36) (v_av v_c (v_av (v_tup (v_cons (v_va rfl) v_nil)) v_a0)))) rfl rfl (lf_has_way et37))) v_c et38) et39) (fun q => by have k5 := cdF q et63; obtain ⟨t40, et40, k5⟩ := bs k5; obtain ⟨t41, et41, k5⟩ := bs k5; obtain ⟨t42, et42, k5⟩ := bs k5; obtain ⟨t43, et43, k5⟩ := bs k5; obtain ⟨t44, et44, k5⟩ := bs k5; obtain ⟨t45, et45, k5⟩ := bs k5; obtain ⟨t46, et46, k5⟩ := bs k5; obtain ⟨t47, et47, k5⟩ := bs k5; obtain ⟨t54, et54, k5⟩ := bs k5; obtain ⟨t55, et55, k5⟩ := bs k5; obtain ⟨t56, et56, k5⟩ := bs k5; obtain ⟨t57, et57, k5⟩ := bs k5; obtain ⟨t58, et58, k5⟩ := bs k5; obtain ⟨t59, et59, k5⟩ := bs k5; obtain ⟨t60, et60, k5⟩ := bs k5; obtain ⟨t61, et61, k5⟩ := bs k5; obtain ⟨t62, et62, k5⟩ := bs k5; exact Ev.val (Ev.wk (v_not (v_m1e (v_asV (v_callV [t55, t60] (v_av (v_asV (v_callV [t17, t40, t42, t54] (v_av (v_va rfl) (v_av (v_m2ne (hb_va rfl) v_c (hb_va rfl) et40) (v_av (v_m2ne (hb_va rfl) (v_m1e v_c et41) (hb_va rfl) et42) (v_av (v_if (z := t54) (ρ' := [.io t33.2, .va t3.1, .ow (Ow.lst t14), .va t17, .va t35, .no, .no, .no, .no, .no, .no, .no, .no]) (v_tb (v_m2ee (v_m2ne (hb_va rfl) v_c (hb_va rfl) et43) (v_m2ne (hb_va rfl) (v_m1e v_c et44) (hb_va rfl) et45) et46) et47) (fun q => by have k4 := cdT q et54; obtain ⟨t48, et48, k4⟩ := bs k4; obtain ⟨t49, et49, k4⟩ := bs k4; obtain ⟨t50, et50, k4⟩ := bs k4; exact Ev.val (Ev.wk (v_tup (v_cons (v_m2ne (hb_va rfl) v_c (hb_va rfl) et48) (v_cons (v_m2ne (hb_va rfl) (v_m1e v_c et49) (hb_va rfl) et50) v_nil))) (.cons (.rf _) (.cons (.rf _) (.cons (.rf _) (.cons (.rf _) (.cons (.rf _) (.cons (.rf _) (.cons (.rf _) (.cons (.rf _) (.cons (.rf _) (.cons (.rf _) (.cons (.rf _) (.cons (.rf _) (.cons (.rf _) Le.nil)))))))))))))) (Option.some.inj k4)) (fun q => by have k4 := cdF q et54; obtain ⟨t51, et51, k4⟩ := bs k4; obtain ⟨t52, et52, k4⟩ := bs k4; obtain ⟨t53, et53, k4⟩ := bs k4; exact Ev.val (Ev.wk (v_tup (v_cons (v_m2ne (hb_va rfl) (v_m1e v_c et51) (hb_va rfl) et52) (v_cons (v_m2ne (hb_va rfl) v_c (hb_va rfl) et53) v_nil))) (.cons (.rf _) (.cons (.rf _) (.cons (.rf _) (.cons (.rf _) (.cons (.rf _) (.cons (.rf _) (.cons (.rf _) (.cons (.rf _) (.cons (.rf _) (.cons (.rf _) (.cons (.rf _) (.cons (.rf _) (.cons (.rf _) Le.nil)))))))))))))) (Option.some.inj k4))) v_a0)))) rfl (lf_short_way et55))) (v_av (v_m1e (v_ov (v_sln (hb_va rfl) (v_ps v_c et56) (v_ps (v_m1e v_c et57) et58) (hb_va rfl) et59)) et60) v_a0)) rfl (lf__law_same et61))) et62)) (.cons (.rf _) (.cons (.rf _) (.cons (.rf _) (.cons (.rf _) (.cons (.rf _) (.cons (.rf _) (.cons (.rf _) (.cons (.rf _) (.cons (.rf _) (.cons (.rf _) (.cons (.rf _) (.cons (.rf _) (.cons (.rf _) Le.nil)))))))))))))) (Option.some.inj k5)) (fun q => by have k5 := cdT q et63; exact ⟨(Option.some.inj k5).symm, (.cons (.rf _) (.cons (.rf _) (.cons (.rf _) (.cons (.rf _) (.cons (.rf _) (.cons (.rf _) (.cons (.rf _) (.cons (.rf _) (.cons (.rf _) (.cons (.rf _) (.cons (.rf _) (.cons (.rf _) (.cons (.rf _) Le.nil)))))))))))))⟩)) q ?_)
      cases h
      exact evi (v_mret v_c) ⟨(fun z => nomatch z), ⟨.inl rfl, rfl⟩⟩
    · replace h := cdF q h
      refine evi_seq (vv_F (v_or (b := t63) (ρ' := [.io t33.2, .va t3.1, .ow (Ow.lst t14), .va t17, .va t35, .no, .no, .no, .no, .no, .no, .no, .no]) (v_tb (v_m2ee (v_asV (v_callK [] [t17, t36, (.str ""), (.tup [t35])] [t17, t36, (.str ""), (.tup [t35])] v_a0 (v_av (v_va rfl) (v_av (v_m2ne (hb_va rfl) v_c (hb_va rfl) et36) (v_av v_c (v_av (v_tup (v_cons (v_va rfl) v_nil)) v_a0)))) rfl rfl (lf_has_way et37))) v_c et38) et39) (fun q => by have k5 := cdF q et63; obtain ⟨t40, et40, k5⟩ := bs k5; obtain ⟨t41, et41, k5⟩ := bs k5; obtain ⟨t42, et42, k5⟩ := bs k5; obtain ⟨t43, et43, k5⟩ := bs k5; obtain ⟨t44, et44, k5⟩ := bs k5; obtain ⟨t45, et45, k5⟩ := bs k5; obtain ⟨t46, et46, k5⟩ := bs k5; obtain ⟨t47, et47, k5⟩ := bs k5; obtain ⟨t54, et54, k5⟩ := bs k5; obtain ⟨t55, et55, k5⟩ := bs k5; obtain ⟨t56, et56, k5⟩ := bs k5; obtain ⟨t57, et57, k5⟩ := bs k5; obtain ⟨t58, et58, k5⟩ := bs k5; obtain ⟨t59, et59, k5⟩ := bs k5; obtain ⟨t60, et60, k5⟩ := bs k5; obtain ⟨t61, et61, k5⟩ := bs k5; obtain ⟨t62, et62, k5⟩ := bs k5; exact Ev.val (Ev.wk (v_not (v_m1e (v_asV (v_callV [t55, t60] (v_av (v_asV (v_callV [t17, t40, t42, t54] (v_av (v_va rfl) (v_av (v_m2ne (hb_va rfl) v_c (hb_va rfl) et40) (v_av (v_m2ne (hb_va rfl) (v_m1e v_c et41) (hb_va rfl) et42) (v_av (v_if (z := t54) (ρ' := [.io t33.2, .va t3.1, .ow (Ow.lst t14), .va t17, .va t35, .no, .no, .no, .no, .no, .no, .no, .no]) (v_tb (v_m2ee (v_m2ne (hb_va rfl) v_c (hb_va rfl) et43) (v_m2ne (hb_va rfl) (v_m1e v_c et44) (hb_va rfl) et45) et46) et47) (fun q => by have k4 := cdT q et54; obtain ⟨t48, et48, k4⟩ := bs k4; obtain ⟨t49, et49, k4⟩ := bs k4; obtain ⟨t50, et50, k4⟩ := bs k4; exact Ev.val (Ev.wk (v_tup (v_cons (v_m2ne (hb_va rfl) v_c (hb_va rfl) et48) (v_cons (v_m2ne (hb_va rfl) (v_m1e v_c et49) (hb_va rfl) et50) v_nil))) (.cons (.rf _) (.cons (.rf _) (.cons (.rf _) (.cons (.rf _) (.cons (.rf _) (.cons (.rf _) (.cons (.rf _) (.cons (.rf _) (.cons (.rf _) (.cons (.rf _) (.cons (.rf _) (.cons (.rf _) (.cons (.rf _) Le.nil)))))))))))))) (Option.some.inj k4)) (fun q => by have k4 := cdF q et54; obtain ⟨t51, et51, k4⟩ := bs k4; obtain ⟨t52, et52, k4⟩ := bs k4; obtain ⟨t53, et53, k4⟩ := bs k4; exact Ev.val (Ev.wk (v_tup (v_cons (v_m2ne (hb_va rfl) (v_m1e v_c et51) (hb_va rfl) et52) (v_cons (v_m2ne (hb_va rfl) v_c (hb_va rfl) et53) v_nil))) (.cons (.rf _) (.cons (.rf _) (.cons (.rf _) (.cons (.rf _) (.cons (.rf _) (.cons (.rf _) (.cons (.rf _) (.cons (.rf _) (.cons (.rf _) (.cons (.rf _) (.cons (.rf _) (.cons (.rf _) (.cons (.rf _) Le.nil)))))))))))))) (Option.some.inj k4))) v_a0)))) rfl (lf_short_way et55))) (v_av (v_m1e (v_ov (v_sln (hb_va rfl) (v_ps v_c et56) (v_ps (v_m1e v_c et57) et58) (hb_va rfl) et59)) et60) v_a0)) rfl (lf__law_same et61))) et62)) (.cons (.rf _) (.cons (.rf _) (.cons (.rf _) (.cons (.rf _) (.cons (.rf _) (.cons (.rf _) (.cons (.rf _) (.cons (.rf _) (.cons (.rf _) (.cons (.rf _) (.cons (.rf _) (.cons (.rf _) (.cons (.rf _) Le.nil)))))))))))))) (Option.some.inj k5)) (fun q => by have k5 := cdT q et63; exact ⟨(Option.some.inj k5).symm, (.cons (.rf _) (.cons (.rf _) (.cons (.rf _) (.cons (.rf _) (.cons (.rf _) (.cons (.rf _) (.cons (.rf _) (.cons (.rf _) (.cons (.rf _) (.cons (.rf _) (.cons (.rf _) (.cons (.rf _) (.cons (.rf _) Le.nil)))))))))))))⟩)) q v_skip) ?_
      obtain ⟨t64, et64, h⟩ := bs h
      obtain ⟨t65, et65, h⟩ := bs h
      obtain ⟨t66, et66, h⟩ := bs h
      obtain ⟨t67, et67, h⟩ := bs h
      obtain ⟨t68, et68, h⟩ := bs h
      obtain ⟨t69, et69, h⟩ := bs h
      obtain ⟨t70, et70, h⟩ := bs h
      obtain ⟨t71, et71, h⟩ := bs h
      obtain ⟨t78, et78, h⟩ := bs h
      rcases b2 t78 with q | q
      · replace h := cdT q h
        refine evi_seqX (evi_T (v_or (b := t78) (ρ' := [.io t33.2, .va t3.1, .ow (Ow.lst t14), .va t17, .va t35, .no, .no, .no, .no, .no, .no, .no, .no]) (v_not (v_m1e (v_asV (v_callV [t65, t69] (v_av (v_asV (v_callV [t17, t64] (v_av (v_va rfl) (v_av (v_m2ne (hb_va rfl) v_c (hb_va rfl) et64) v_a0)) rfl (lf_must_pass et65))) (v_av (v_m1e (v_ov (v_m1e (v_ov (v_sln (hb_va rfl) (v_ps v_c et66) v_pn (hb_va rfl) et67)) et68)) et69) v_a0)) rfl (lf__law_same et70))) et71)) (fun q => by have k6 := cdF q et78; obtain ⟨t72, et72, k6⟩ := bs k6; obtain ⟨t73, et73, k6⟩ := bs k6; obtain ⟨t74, et74, k6⟩ := bs k6; obtain ⟨t75, et75, k6⟩ := bs k6; obtain ⟨t76, et76, k6⟩ := bs k6; obtain ⟨t77, et77, k6⟩ := bs k6; exact Ev.val (Ev.wk (v_not (v_m1e (v_asV (v_callV [t75, D.non] (v_av (v_asV (v_callV [t17, t73, t74, (.tup [])] (v_av (v_va rfl) (v_av (v_m2ne (hb_va rfl) (v_m1e v_c et72) (hb_va rfl) et73) (v_av (v_m2ne (hb_va rfl) v_c (hb_va rfl) et74) (v_av (v_tup v_nil) v_a0)))) rfl (lf_short_way et75))) (v_av v_c v_a0)) rfl (lf__law_same et76))) et77)) (.cons (.rf _) (.cons (.rf _) (.cons (.rf _) (.cons (.rf _) (.cons (.rf _) (.cons (.rf _) (.cons (.rf _) (.cons (.rf _) (.cons (.rf _) (.cons (.rf _) (.cons (.rf _) (.cons (.rf _) (.cons (.rf _) Le.nil)))))))))))))) (Option.some.inj k6)) (fun q => by have k6 := cdT q et78; exact ⟨(Option.some.inj k6).symm, (.cons (.rf _) (.cons (.rf _) (.cons (.rf _) (.cons (.rf _) (.cons (.rf _) (.cons (.rf _) (.cons (.rf _) (.cons (.rf _) (.cons (.rf _) (.cons (.rf _) (.cons (.rf _) (.cons (.rf _) (.cons (.rf _) Le.nil)))))))))))))⟩)) q ?_)
        cases h
        exact evi (v_mret v_c) ⟨(fun z => nomatch z), ⟨.inl rfl, rfl⟩⟩
      · replace h := cdF q h
        refine evi_seq (vv_F (v_or (b := t78) (ρ' := [.io t33.2, .va t3.1, .ow (Ow.lst t14), .va t17, .va t35, .no, .no, .no, .no, .no, .no, .no, .no]) (v_not (v_m1e (v_asV (v_callV [t65, t69] (v_av (v_asV (v_callV [t17, t64] (v_av (v_va rfl) (v_av (v_m2ne (hb_va rfl) v_c (hb_va rfl) et64) v_a0)) rfl (lf_must_pass et65))) (v_av (v_m1e (v_ov (v_m1e (v_ov (v_sln (hb_va rfl) (v_ps v_c et66) v_pn (hb_va rfl) et67)) et68)) et69) v_a0)) rfl (lf__law_same et70))) et71)) (fun q => by have k6 := cdF q et78; obtain ⟨t72, et72, k6⟩ := bs k6; obtain ⟨t73, et73, k6⟩ := bs k6; obtain ⟨t74, et74, k6⟩ := bs k6; obtain ⟨t75, et75, k6⟩ := bs k6; obtain ⟨t76, et76, k6⟩ := bs k6; obtain ⟨t77, et77, k6⟩ := bs k6; exact Ev.val (Ev.wk (v_not (v_m1e (v_asV (v_callV [t75, D.non] (v_av (v_asV (v_callV [t17, t73, t74, (.tup [])] (v_av (v_va rfl) (v_av (v_m2ne (hb_va rfl) (v_m1e v_c et72) (hb_va rfl) et73) (v_av (v_m2ne (hb_va rfl) v_c (hb_va rfl) et74) (v_av (v_tup v_nil) v_a0)))) rfl (lf_short_way et75))) (v_av v_c v_a0)) rfl (lf__law_same et76))) et77)) (.cons (.rf _) (.cons (.rf _) (.cons (.rf _) (.cons (.rf _) (.cons (.rf _) (.cons (.rf _) (.cons (.rf _) (.cons (.rf _) (.cons (.rf _) (.cons (.rf _) (.cons (.rf _) (.cons (.rf _) (.cons (.rf _) Le.nil)))))))))))))) (Option.some.inj k6)) (fun q => by have k6 := cdT q et78; exact ⟨(Option.some.inj k6).symm, (.cons (.rf _) (.cons (.rf _) (.cons (.rf _) (.cons (.rf _) (.cons (.rf _) (.cons (.rf _) (.cons (.rf _) (.cons (.rf _) (.cons (.rf _) (.cons (.rf _) (.cons (.rf _) (.cons (.rf _) (.cons (.rf _) Le.nil)))))))))))))⟩)) q v_skip) ?_
        obtain ⟨t79, et79, h⟩ := bs h
        obtain ⟨t80, et80, h⟩ := bs h
        refine evi_seq (v_asg (v_asV (v_callI [] [(.int 4)] (v_ao rfl (.io _) (v_av v_c v_a0)) rfl (.io _) rfl (lf__law_words et79))) (ag_4 et80 ag_n ag_n ag_n ag_n)) ?_
        obtain ⟨t81, et81, h⟩ := bs h
        obtain ⟨t82, et82, h⟩ := bs h
        obtain ⟨t83, et83, h⟩ := bs h
        refine evi_seq (v_asg (v_tup (v_cons (v_callA (v_cons (v_va rfl) (v_cons (v_va rfl) v_nil)) et81) (v_cons (v_callA (v_cons (v_va rfl) (v_cons (v_va rfl) v_nil)) et82) v_nil))) (ag_2 et83 ag_n ag_n)) ?_
        obtain ⟨t84, et84, h⟩ := bs h
        obtain ⟨t85, et85, h⟩ := bs h
        obtain ⟨t86, et86, h⟩ := bs h
        obtain ⟨t87, et87, h⟩ := bs h
        refine evi_seq (v_asg (v_m1e (v_ov (v_m1e (v_ov (v_lst (v_cons (v_tup (v_cons (v_va rfl) (v_cons (v_m1e (v_ov (v_m1e (v_ov (v_lst (v_cons (v_va rfl) (v_cons (v_va rfl) v_nil)))) et84)) et85) v_nil))) (v_cons (v_tup (v_cons (v_va rfl) (v_cons (v_tup (v_cons (v_va rfl) v_nil)) v_nil))) (v_cons (v_tup (v_cons (v_va rfl) (v_cons (v_tup (v_cons (v_va rfl) v_nil)) v_nil))) (v_cons (v_tup (v_cons (v_va rfl) (v_cons (v_tup (v_cons v_c v_nil)) v_nil))) v_nil)))))) et86)) et87) ag_n) ?_
        obtain ⟨t88, et88, h⟩ := bs h
        obtain ⟨t89, et89, h⟩ := bs h
        obtain ⟨t90, et90, h⟩ := bs h
        obtain ⟨t94, et94, h⟩ := bs h
        rcases b2 t94 with q | q
        · replace h := cdT q h
          refine evi_seqX (evi_T (v_or (b := t94) (ρ' := [.io t79.2, .va t3.1, .ow (Ow.lst t14), .va t17, .va t35, .va t80.1, .va t80.2.1, .va t80.2.2.1, .va t80.2.2.2, .va t83.1, .va t83.2, .va t87, .no]) (v_not (v_m1e (v_asV (v_callV [t88, (.tup [t83.1, t80.2.2.2])] (v_av (v_asV (v_callV [t87, t80.1, (.str ""), (.tup [])] (v_av (v_va rfl) (v_av (v_va rfl) (v_av v_c (v_av (v_tup v_nil) v_a0)))) rfl (lf_short_way et88))) (v_av (v_tup (v_cons (v_va rfl) (v_cons (v_va rfl) v_nil))) v_a0)) rfl (lf__law_same et89))) et90)) (fun q => by have k7 := cdF q et94; obtain ⟨t91, et91, k7⟩ := bs k7; obtain ⟨t92, et92, k7⟩ := bs k7; obtain ⟨t93, et93, k7⟩ := bs k7; exact Ev.val (Ev.wk (v_not (v_m1e (v_asV (v_callV [t91, (.tup [t83.2, t80.2.2.2])] (v_av (v_asV (v_callV [t87, t80.1, (.str ""), (.tup [t83.1])] (v_av (v_va rfl) (v_av (v_va rfl) (v_av v_c (v_av (v_tup (v_cons (v_va rfl) v_nil)) v_a0)))) rfl (lf_short_way et91))) (v_av (v_tup (v_cons (v_va rfl) (v_cons (v_va rfl) v_nil))) v_a0)) rfl (lf__law_same et92))) et93)) (.cons (.rf _) (.cons (.rf _) (.cons (.rf _) (.cons (.rf _) (.cons (.rf _) (.cons (.rf _) (.cons (.rf _) (.cons (.rf _) (.cons (.rf _) (.cons (.rf _) (.cons (.rf _) (.cons (.rf _) (.cons (.rf _) Le.nil)))))))))))))) (Option.some.inj k7)) (fun q => by have k7 := cdT q et94; exact ⟨(Option.some.inj k7).symm, (.cons (.rf _) (.cons (.rf _) (.cons (.rf _) (.cons (.rf _) (.cons (.rf _) (.cons (.rf _) (.cons (.rf _) (.cons (.rf _) (.cons (.rf _) (.cons (.rf _) (.cons (.rf _) (.cons (.rf _) (.cons (.rf _) Le.nil)))))))))))))⟩)) q ?_)
          cases h
          exact evi (v_mret v_c) ⟨(fun z => nomatch z), ⟨.inl rfl, rfl⟩⟩
        · replace h := cdF q h
          refine evi_seq (vv_F (v_or (b := t94) (ρ' := [.io t79.2, .va t3.1, .ow (Ow.lst t14), .va t17, .va t35, .va t80.1, .va t80.2.1, .va t80.2.2.1, .va t80.2.2.2, .va t83.1, .va t83.2, .va t87, .no]) (v_not (v_m1e (v_asV (v_callV [t88, (.tup [t83.1, t80.2.2.2])] (v_av (v_asV (v_callV [t87, t80.1, (.str ""), (.tup [])] (v_av (v_va rfl) (v_av (v_va rfl) (v_av v_c (v_av (v_tup v_nil) v_a0)))) rfl (lf_short_way et88))) (v_av (v_tup (v_cons (v_va rfl) (v_cons (v_va rfl) v_nil))) v_a0)) rfl (lf__law_same et89))) et90)) (fun q => by have k7 := cdF q et94; obtain ⟨t91, et91, k7⟩ := bs k7; obtain ⟨t92, et92, k7⟩ := bs k7; obtain ⟨t93, et93, k7⟩ := bs k7; exact Ev.val (Ev.wk (v_not (v_m1e (v_asV (v_callV [t91, (.tup [t83.2, t80.2.2.2])] (v_av (v_asV (v_callV [t87, t80.1, (.str ""), (.tup [t83.1])] (v_av (v_va rfl) (v_av (v_va rfl) (v_av v_c (v_av (v_tup (v_cons (v_va rfl) v_nil)) v_a0)))) rfl (lf_short_way et91))) (v_av (v_tup (v_cons (v_va rfl) (v_cons (v_va rfl) v_nil))) v_a0)) rfl (lf__law_same et92))) et93)) (.cons (.rf _) (.cons (.rf _) (.cons (.rf _) (.cons (.rf _) (.cons (.rf _) (.cons (.rf _) (.cons (.rf _) (.cons (.rf _) (.cons (.rf _) (.cons (.rf _) (.cons (.rf _) (.cons (.rf _) (.cons (.rf _) Le.nil)))))))))))))) (Option.some.inj k7)) (fun q => by have k7 := cdT q et94; exact ⟨(Option.some.inj k7).symm, (.cons (.rf _) (.cons (.rf _) (.cons (.rf _) (.cons (.rf _) (.cons (.rf _) (.cons (.rf _) (.cons (.rf _) (.cons (.rf _) (.cons (.rf _) (.cons (.rf _) (.cons (.rf _) (.cons (.rf _) (.cons (.rf _) Le.nil)))))))))))))⟩)) q v_skip) ?_
          obtain ⟨t95, et95, h⟩ := bs h
          obtain ⟨t96, et96, h⟩ := bs h
          obtain ⟨t97, et97, h⟩ := bs h
          obtain ⟨t106, et106, h⟩ := bs h
          cases h
          exact evi (v_mret (v_andV (y := t106) (ρ' := [.io t79.2, .va t3.1, .ow (Ow.lst t14), .va t17, .va t35, .va t80.1, .va t80.2.1, .va t80.2.2.1, .va t80.2.2.2, .va t83.1, .va t83.2, .va t87, .no]) (v_asV (v_callV [t95, (.tup [t80.2.2.2])] (v_av (v_asV (v_callV [t87, t80.1] (v_av (v_va rfl) (v_av (v_va rfl) v_a0)) rfl (lf_must_pass et95))) (v_av (v_tup (v_cons (v_va rfl) v_nil)) v_a0)) rfl (lf__law_same et96))) et97 (fun q => by have k9 := cdT q et106; obtain ⟨t98, et98, k9⟩ := bs k9; obtain ⟨t99, et99, k9⟩ := bs k9; obtain ⟨t100, et100, k9⟩ := bs k9; obtain ⟨t101, et101, k9⟩ := bs k9; obtain ⟨t102, et102, k9⟩ := bs k9; obtain ⟨t105, et105, k9⟩ := bs k9; exact Ev.val (Ev.wk (v_andV (y := t105) (ρ' := [.io t79.2, .va t3.1, .ow (Ow.lst t14), .va t17, .va t35, .va t80.1, .va t80.2.1, .va t80.2.2.1, .va t80.2.2.2, .va t83.1, .va t83.2, .va t87, .no]) (v_m2ee (v_asV (v_callV [t87, t80.1, t80.2.2.2, t99] (v_av (v_va rfl) (v_av (v_va rfl) (v_av (v_va rfl) (v_av (v_m1e (v_ov (v_m1e (v_ov (v_lst (v_cons (v_va rfl) (v_cons (v_va rfl) v_nil)))) et98)) et99) v_a0)))) rfl (lf_has_way et100))) v_c et101) et102 (fun q => by have k8 := cdT q et105; obtain ⟨t103, et103, k8⟩ := bs k8; obtain ⟨t104, et104, k8⟩ := bs k8; exact Ev.val (Ev.wk (v_m2ee (v_asV (v_callV [t87, t80.2.2.2, t80.2.2.2, (.tup [])] (v_av (v_va rfl) (v_av (v_va rfl) (v_av (v_va rfl) (v_av (v_tup v_nil) v_a0)))) rfl (lf_has_way et103))) v_c et104) (.cons (.rf _) (.cons (.rf _) (.cons (.rf _) (.cons (.rf _) (.cons (.rf _) (.cons (.rf _) (.cons (.rf _) (.cons (.rf _) (.cons (.rf _) (.cons (.rf _) (.cons (.rf _) (.cons (.rf _) (.cons (.rf _) Le.nil)))))))))))))) (Option.some.inj k8)) (fun q => by have k8 := cdF q et105; exact ⟨(Option.some.inj k8).symm, (.cons (.rf _) (.cons (.rf _) (.cons (.rf _) (.cons (.rf _) (.cons (.rf _) (.cons (.rf _) (.cons (.rf _) (.cons (.rf _) (.cons (.rf _) (.cons (.rf _) (.cons (.rf _) (.cons (.rf _) (.cons (.rf _) Le.nil)))))))))))))⟩)) (.cons (.rf _) (.cons (.rf _) (.cons (.rf _) (.cons (.rf _) (.cons (.rf _) (.cons (.rf _) (.cons (.rf _) (.cons (.rf _) (.cons (.rf _) (.cons (.rf _) (.cons (.rf _) (.cons (.rf _) (.cons (.rf _) Le.nil)))))))))))))) (Option.some.inj k9)) (fun q => by have k9 := cdF q et106; exact ⟨(Option.some.inj k9).symm, (.cons (.rf _) (.cons (.rf _) (.cons (.rf _) (.cons (.rf _) (.cons (.rf _) (.cons (.rf _) (.cons (.rf _) (.cons (.rf _) (.cons (.rf _) (.cons (.rf _) (.cons (.rf _) (.cons (.rf _) (.cons (.rf _) Le.nil)))))))))))))⟩))) ⟨.inl rfl, rfl⟩
theorem lf_law {x_script : D} {r : D} (h : F_law x_script = some r) : f_law [.va x_script] = some (.va r, none) := by
  unfold F_law at h
  unfold f_law
  refine fn_V rfl ?_
  unfold m_law
  show EvI _ [.va x_script, .no, .no, .no, .no, .no, .no, .no, .no, .no, .no, .no] _
  obtain ⟨t1, et1, h⟩ := bs h
  refine evi_seq (v_setO (v_asO (v_callV [x_script] (v_av (v_va rfl) v_a0) rfl (lf__law_fount et1))) rfl) ?_
  obtain ⟨t2, et2, h⟩ := bs h
  obtain ⟨r2, er2, h⟩ := bs h
  refine evi_mid (r := r2) (v_forL (I := FV) (s0 := t1) (fun s1 => [.no, .ow s1, .no, .no, .no, .no, .no, .no, .no, .no, .no, .no]) (v_rng (v_cons v_c v_nil) et2) (.cons (le_n _) (.cons (.rf _) (.cons (.rf _) (.cons (.rf _) (.cons (.rf _) (.cons (.rf _) (.cons (.rf _) (.cons (.rf _) (.cons (.rf _) (.cons (.rf _) (.cons (.rf _) (.cons (.rf _) Le.nil)))))))))))) er2 (fun d1 s1 so g1 => ?_)) (fun s6 q => ?_) (fun x f ρ' q n p => by have w := smX h q; subst w; exact p)
  · (
    unfold F2_law at g1
    refine ⟨[.no, .ow s1, .va d1, .no, .no, .no, .no, .no, .no, .no, .no, .no], ag_n, ?_⟩
    unfold l2_law
    obtain ⟨t3, et3, g1⟩ := bs g1
    refine evi_seq (v_asg (v_asV (v_callI [] [(.int 5)] (v_ao rfl (.ow _) (v_av v_c v_a0)) rfl (.ow _) rfl (lf__law_ladder et3))) ag_n) ?_
    obtain ⟨t4, et4, g1⟩ := bs g1
    obtain ⟨t6, et6, g1⟩ := bs g1
    obtain ⟨t7, et7, g1⟩ := bs g1
    refine evi_seq (v_setO (v_lcP (ρ0 := [.no, .ow t3.2, .va d1, .va t3.1, .no, .no, .no, .no, .no, .no, .no, .no]) (v_it (v_va rfl) et4) (.cons (.rf _) (.cons (.rf _) (.cons (.rf _) (.cons (.rf _) (.cons (.rf _) (.cons (.rf _) (.cons (.rf _) (.cons (.rf _) (.cons (.rf _) (.cons (.rf _) (.cons (.rf _) (.cons (.rf _) Le.nil)))))))))))) et6 et7 (fun d2 r k1 => by (unfold C1_law at k1; obtain ⟨t5, et5, k1⟩ := bs k1; cases k1; exact ⟨_, true, _, (ag_2 et5 ag_n ag_n), v_ret, .inr ⟨_, _, rfl, rfl, (v_va rfl), (.cons (.rf _) (.cons (.rf _) (.cons (.rf _) (.cons (.rf _) (.cons (.rf _) (.cons (.rf _) (.cons (.rf _) (.cons (.rf _) (.cons (.rf _) (.cons (.rf _) (.cons (.rf _) (.cons (.rf _) Le.nil))))))))))))⟩⟩))) rfl) ?_
    obtain ⟨t8, et8, g1⟩ := bs g1
    obtain ⟨t9, et9, g1⟩ := bs g1
    rcases b2 (!t9) with q | q
    · replace g1 := cdT q g1
      refine evi_seqX (evi_T (v_not (v_m1e (v_asV (v_callV [t3.1] (v_av (v_va rfl) v_a0) rfl (lf__law_looked et8))) et9)) q ?_)
      cases g1
      exact evi (v_mret v_c) ⟨(fun z => nomatch z), ⟨.inl ⟨_, rfl⟩, (.inl rfl)⟩⟩
    · replace g1 := cdF q g1
      refine evi_seq (vv_F (v_not (v_m1e (v_asV (v_callV [t3.1] (v_av (v_va rfl) v_a0) rfl (lf__law_looked et8))) et9)) q v_skip) ?_
      obtain ⟨t10, et10, g1⟩ := bs g1
      obtain ⟨r1, er1, g1⟩ := bs g1
      refine evi_end (r := r1) (v_forL (I := (LpI (fun s1 => [.no, .ow s1, .no, .no, .no, .no, .no, .no, .no, .no, .no, .no]) FV)) (s0 := t3.2) (fun s3 => [.no, .ow s3, .no, .va t3.1, .va (Ow.lst t6).d, .no, .no, .no, .no, .no, .no, .no]) (v_rng (v_cons v_c v_nil) et10) (.cons (.rf _) (.cons (.rf _) (.cons (le_n _) (.cons (.rf _) (.cons (le_ow rfl) (.cons (.rf _) (.cons (.rf _) (.cons (.rf _) (.cons (.rf _) (.cons (.rf _) (.cons (.rf _) (.cons (.rf _) Le.nil)))))))))))) er1 (fun d3 s3 so g2 => ?_)) (fun s5 ρ' q l => by (replace g1 := smK g1 q; cases g1; exact ⟨.inl rfl, Le.trans (.cons (.rf _) (.cons (.rf _) (.cons (.rf _) (.cons (le_n _) (.cons (le_n _) (.cons (.rf _) (.cons (.rf _) (.cons (.rf _) (.cons (.rf _) (.cons (.rf _) (.cons (.rf _) (.cons (.rf _) Le.nil)))))))))))) l⟩)) (fun x f ρ' q n p => by have w := smX g1 q; subst w; exact p)
      · (
        unfold F1_law at g2
        refine ⟨[.no, .ow s3, .no, .va t3.1, .va (Ow.lst t6).d, .va d3, .no, .no, .no, .no, .no, .no], ag_n, ?_⟩
        unfold l1_law
        obtain ⟨t11, et11, g2⟩ := bs g2
        obtain ⟨t12, et12, g2⟩ := bs g2
        obtain ⟨t13, et13, g2⟩ := bs g2
        refine evi_seq (v_asg (v_m2ne (hb_va rfl) (v_asV (v_callI [] [t11, (D.int 0)] (v_ao rfl (.ow _) (v_av (v_m1n (hb_va rfl) et11) (v_av v_c v_a0))) rfl (.ow _) rfl (lf__law_dip et12))) (hb_va rfl) et13) ag_n) ?_
        obtain ⟨t14, et14, g2⟩ := bs g2
        obtain ⟨t15, et15, g2⟩ := bs g2
        obtain ⟨t16, et16, g2⟩ := bs g2
        obtain ⟨t17, et17, g2⟩ := bs g2
        obtain ⟨t18, et18, g2⟩ := bs g2
        refine evi_seq (v_asg (v_m2ee (v_ov (v_m2ne (hb_va rfl) (v_ov (v_lst (v_cons v_c (v_cons v_c v_nil)))) (hb_va rfl) et14)) (v_asV (v_callI [] [t16, (D.int 0)] (v_ao rfl (.ow _) (v_av (v_m2ee (v_m1n (hb_va rfl) et15) v_c et16) (v_av v_c v_a0))) rfl (.ow _) rfl (lf__law_dip et17))) et18) ag_n) ?_
        obtain ⟨t19, et19, g2⟩ := bs g2
        obtain ⟨t20, et20, g2⟩ := bs g2
        refine evi_seq (v_asg (v_m2ee v_c (v_asV (v_callI [] [(.int 4), (D.int 0)] (v_ao rfl (.ow _) (v_av v_c (v_av v_c v_a0))) rfl (.ow _) rfl (lf__law_dip et19))) et20) ag_n) ?_
        obtain ⟨t21, et21, g2⟩ := bs g2
        obtain ⟨t30, et30, g2⟩ := bs g2
        obtain ⟨t31, et31, g2⟩ := bs g2
        obtain ⟨t32, et32, g2⟩ := bs g2
        refine evi_seq (v_asg (v_m1e (v_ov (v_lcS (s0 := t19.2) (fun s4 => [.no, .ow s4, .no, .va t3.1, .va (Ow.lst t6).d, .va d3, .va t13, .va t18, .va t20, .no, .no, .no]) (v_it (v_va rfl) et21) (.cons (.rf _) (.cons (.rf _) (.cons (.rf _) (.cons (.rf _) (.cons (.rf _) (.cons (.rf _) (.cons (.rf _) (.cons (.rf _) (.cons (.rf _) (.cons (.rf _) (.cons (.rf _) (.cons (.rf _) Le.nil)))))))))))) et30 et31 (fun d4 s4 r k2 => by (unfold C2_law at k2; obtain ⟨t26, et26, k2⟩ := bs k2; obtain ⟨t27, et27, k2⟩ := bs k2; obtain ⟨t28, et28, k2⟩ := bs k2; obtain ⟨t29, et29, k2⟩ := bs k2; refine Or.elim (b2 t29) (fun q => by (replace k2 := cdT q k2; cases k2; exact ⟨_, _, _, ag_n, (v_tb (v_m2ee (v_asV (v_callI [] [t26, (D.int 0)] (v_ao rfl (.ow _) (v_av (v_m2ne (hb_va rfl) v_c (hb_va rfl) et26) (v_av v_c v_a0))) rfl (.ow _) rfl (lf__law_dip et27))) v_c et28) et29), .inr ⟨_, _, q, rfl, (v_va rfl), (.cons (.rf _) (.cons (.rf _) (.cons (.rf _) (.cons (.rf _) (.cons (.rf _) (.cons (.rf _) (.cons (.rf _) (.cons (.rf _) (.cons (.rf _) (.cons (.rf _) (.cons (.rf _) (.cons (.rf _) Le.nil))))))))))))⟩⟩)) (fun q => by (replace k2 := cdF q k2; cases k2; exact ⟨_, _, _, ag_n, (v_tb (v_m2ee (v_asV (v_callI [] [t26, (D.int 0)] (v_ao rfl (.ow _) (v_av (v_m2ne (hb_va rfl) v_c (hb_va rfl) et26) (v_av v_c v_a0))) rfl (.ow _) rfl (lf__law_dip et27))) v_c et28) et29), .inl ⟨q, rfl, (.cons (.rf _) (.cons (.rf _) (.cons (.rf _) (.cons (.rf _) (.cons (.rf _) (.cons (.rf _) (.cons (.rf _) (.cons (.rf _) (.cons (.rf _) (.cons (.rf _) (.cons (.rf _) (.cons (.rf _) Le.nil))))))))))))⟩⟩)))))) et32) ag_n) ?_
        obtain ⟨t33, et33, g2⟩ := bs g2
        obtain ⟨t34, et34, g2⟩ := bs g2
        rcases b2 (!t34) with q | q
        · replace g2 := cdT q g2
          refine evi_T (v_not (v_m1e (v_asV (v_callV [t3.1, t13, t18, t32] (v_av (v_va rfl) (v_av (v_va rfl) (v_av (v_va rfl) (v_av (v_va rfl) v_a0)))) rfl (lf__law_asked et33))) et34)) q ?_
          cases g2
          exact evi (v_mret v_c) ⟨.inl ⟨_, rfl⟩, ⟨.inl ⟨_, rfl⟩, (.inl rfl)⟩⟩
        · replace g2 := cdF q g2
          refine evi_F (v_not (v_m1e (v_asV (v_callV [t3.1, t13, t18, t32] (v_av (v_va rfl) (v_av (v_va rfl) (v_av (v_va rfl) (v_av (v_va rfl) v_a0)))) rfl (lf__law_asked et33))) et34)) q ?_
          cases g2
          exact evi v_skip ⟨.inl rfl, (.cons (.rf _) (.cons (.rf _) (.cons (.rf _) (.cons (.rf _) (.cons (.rf _) (.cons (le_n _) (.cons (le_n _) (.cons (le_n _) (.cons (le_n _) (.cons (le_n _) (.cons (.rf _) (.cons (.rf _) Le.nil))))))))))))⟩
        )
    )
  replace h := smK h q
  obtain ⟨t35, et35, h⟩ := bs h
  cases h
  exact evi (v_mret (v_asV (v_callI [] [] (v_ao rfl (.ow _) v_a0) rfl (.ow _) rfl (lf__law_line et35)))) (.inl rfl)
end DL

namespace DL
open PySem PySem.Spec PyProof.Rows L2
theorem law_ok (ns : List Int) (_ : ns.length ≤ 63) : f_law [.va (.scr (ns.map .int))] = some (.va (.bl true), none) := lf_law (law_true ns)
end DL

set_option Elab.async false
set_option linter.all false
set_option maxRecDepth 100000
set_option maxHeartbeats 0
namespace DL
open PySem PySem.Spec PyProof.Rows L2
/-! ### each def computes its mirror -/
section
variable {P : Program} {w : World} {K : PySem.W.Frag} {mg : Str → Option Value} {base : Heap}
theorem sc_next_layers : FnScope ["ladder", "kind", "bars", "table", "ways", "layer", "found", "way", "one", "boss"] ["ladder", "kind", "bars"] (defScope st_next_layers) := ⟨rfl, rfl, rfl, by decide +kernel, rfl, by decide +kernel, by decide +kernel⟩
theorem df_next_layers {f : Addr} {fd : FuncData} (B : Bt mg) (F : FunD K "next_layers" "next_layers" (defArgs st_next_layers) (defBody st_next_layers) (defScope st_next_layers) [] [] f fd) (g : mg "next_layers" = some (.ref f))  :
    Df P w K mg base 1 "next_layers" 3 f_next_layers (defArgs st_next_layers) ["ladder", "kind", "bars"] :=
  ⟨f, fd, _, _, _, fnM (k := 0) (m := m_next_layers) F sc_next_layers (fun cdv A outer s H E hr => (css_cons (cs_setO 3 sc_next_layers.nd (co_callT (c_dict rfl) rfl B.b_dict bt_dict (pd_n 0)))
  (css_cons (cs_setO 4 sc_next_layers.nd co_dct0)
  (css_cons (cs_setO 5 sc_next_layers.nd (co_lst (ca_cons (ce_tup (ca_cons (ce_tup ca_nil) (ca_cons (ce_var 1) ca_nil))) ca_nil)))
  (css_cons (cs_while PassesOwn.never (ct_tru (pd_n 5))
  (css_cons (cs_setO 6 sc_next_layers.nd (co_lst ca_nil))
  (css_cons (cs_for PassesOwn.never rfl (ci_val (ce_var 5)) (cg_tup rfl (cgs_cons (cg_name 7 sc_next_layers.nd) (cgs_cons (cg_name 8 sc_next_layers.nd) cgs_nil)))
  (css_one (cs_for PassesOwn.never rfl (ci_val (ce_ix (u1 hr) (pd_n 3) (pd_n 8))) (cg_name 9 sc_next_layers.nd)
  (css_one (cs_if (CW.ct (cw_and (ct_cmp (r_ne (u64 hr)) (pd_n 9) (pd_e ce_str) (by rfl)) (cw_and (ct_cmp (r_notIn (u1 hr)) (pd_n 9) (pd_n 2) (by rfl)) (cw_and1 (ct_cmp (r_notIn (u1 hr)) (pd_n 9) (pd_n 4) (by rfl))))))
  (css_one (cs_expr (ce_m1 6 m_append PySem.F.slot_list_append PySem.F.type_list_append (ce_tup (ca_cons (ce_op r_add (pd_n 7) (pd_e (ce_tup (ca_cons (ce_var 9) ca_nil)))) (ca_cons (ce_var 9) ca_nil))))))
  css_nil)))))
  (css_cons (cs_setO 5 sc_next_layers.nd (co_lst ca_nil))
  (css_one (cs_for PassesOwn.never rfl (ci_val (CO.val (co_callB (c_sort rfl (u64 hr)) rfl B.b_sorted bt_sorted (pd_n 6)))) (cg_tup rfl (cgs_cons (cg_name 7 sc_next_layers.nd) (cgs_cons (cg_name 8 sc_next_layers.nd) cgs_nil)))
  (css_one (cs_if (ct_cmp (r_notIn (u1 hr)) (pd_n 8) (pd_n 4) (by rfl))
  (css_cons (cs_setIx 4 (u1 hr) (ce_var 7) (ce_var 8))
  (css_one (cs_expr (ce_m1 5 m_append PySem.F.slot_list_append PySem.F.type_list_append (ce_tup (ca_cons (ce_var 7) (ca_cons (ce_var 8) ca_nil)))))))
  css_nil))))))))
  (css_one (cs_ret (ce_var 4)))))))), F, g⟩
theorem sc_short_way : FnScope ["ladder", "kind", "aim", "bars", "table", "found", "one", "way"] ["ladder", "kind", "aim", "bars"] (defScope st_short_way) := ⟨rfl, rfl, rfl, by decide +kernel, rfl, by decide +kernel, by decide +kernel⟩
theorem df_short_way {f : Addr} {fd : FuncData} (B : Bt mg) (F : FunD K "short_way" "short_way" (defArgs st_short_way) (defBody st_short_way) (defScope st_short_way) [] [] f fd) (g : mg "short_way" = some (.ref f)) (hf : f = He.fAd K ("short_way", none)) (ap : TabsApart K) (TB : LamX.TabB base mg (He.cT K ("short_way", none)).1 (He.cT K ("short_way", none)).2) (D_next_layers : Df P w K mg base 1 "next_layers" 3 f_next_layers (defArgs st_next_layers) ["ladder", "kind", "bars"]) :
    Df P w K mg base 2 "short_way" 4 f_short_way (defArgs st_short_way) ["ladder", "kind", "aim", "bars"] :=
  ⟨f, fd, _, _, _, fnL (k := 1) (m := m_short_way) F sc_short_way hf (by simp [lamNames]) ap TB (fun cdv A outer s H E hr LBx => (css_cons (cs_setO 4 sc_short_way.nd (co_callT (c_dict rfl) rfl B.b_dict bt_dict (pd_n 0)))
  (css_cons (cs_if (ct_cmp (r_in (u1 hr)) (pd_n 2) (pd_e (ce_ix (u1 hr) (pd_n 4) (pd_n 1))) (by rfl))
  (css_one (cs_ret (ce_tup ca_nil)))
  css_nil)
  (css_cons (cs_setLc 5 rfl sc_short_way.nd (ci_items (ce_def (pe_def (F := D_next_layers) (hr.mono (by decide)) (cr_v (ce_var 0) (cr_v (ce_var 1) (cr_v (ce_var 3) cr_nil))) (fun _ _ _ _ _ _ _ _ _ us hl => match us, hl with | [_, _, _], _ => rfl)))) (blkOk_by (own := [("one", 6), ("way", 7)]) (by rfl)) (fun _ _ _ _ _ => (cg_tup rfl (cgs_cons (cg_name 6 sc_short_way.nd) (cgs_cons (cg_name 7 sc_short_way.nd) cgs_nil)))) (fun _ _ _ _ _ => (cts_one (ct_cmp (r_in (u1 hr)) (pd_n 2) (pd_e (ce_ix (u1 hr) (pd_n 4) (pd_n 6))) (by rfl)))) (fun _ _ _ _ _ => (ce_var 7)))
  (css_one (cs_ret (ce_if (ct_tru (pd_n 5)) (ce_minW rfl (u64 hr) hr.depth LBx keyLam rfl rfl B.b_min bt_min B.b_len (pd_n 5)) ce_non))))))), F, g⟩
theorem sc_has_way : FnScope ["ladder", "kind", "aim", "bars"] ["ladder", "kind", "aim", "bars"] (defScope st_has_way) := ⟨rfl, rfl, rfl, by decide +kernel, rfl, by decide +kernel, by decide +kernel⟩
theorem df_has_way {f : Addr} {fd : FuncData} (B : Bt mg) (F : FunD K "has_way" "has_way" (defArgs st_has_way) (defBody st_has_way) (defScope st_has_way) [] [] f fd) (g : mg "has_way" = some (.ref f)) (D_short_way : Df P w K mg base 2 "short_way" 4 f_short_way (defArgs st_short_way) ["ladder", "kind", "aim", "bars"]) :
    Df P w K mg base 3 "has_way" 4 f_has_way (defArgs st_has_way) ["ladder", "kind", "aim", "bars"] :=
  ⟨f, fd, _, _, _, fnM (k := 2) (m := m_has_way) F sc_has_way (fun cdv A outer s H E hr => (css_one (cs_ret (ce_cmp r_notN (pd_e (ce_def (pe_def (F := D_short_way) (hr.mono (by decide)) (cr_v (ce_var 0) (cr_v (ce_var 1) (cr_v (ce_var 2) (cr_v (ce_var 3) cr_nil)))) (fun _ _ _ _ _ _ _ _ _ us hl => match us, hl with | [_, _, _, _], _ => rfl)))) (pd_e ce_non) (by rfl))))), F, g⟩
theorem sc_longest_needed : FnScope ["ladder", "kind", "bosses"] ["ladder"] (defScope st_longest_needed) := ⟨rfl, rfl, rfl, by decide +kernel, rfl, by decide +kernel, by decide +kernel⟩
theorem df_longest_needed {f : Addr} {fd : FuncData} (B : Bt mg) (F : FunD K "longest_needed" "longest_needed" (defArgs st_longest_needed) (defBody st_longest_needed) (defScope st_longest_needed) [] [] f fd) (g : mg "longest_needed" = some (.ref f)) (D_short_way : Df P w K mg base 2 "short_way" 4 f_short_way (defArgs st_short_way) ["ladder", "kind", "aim", "bars"]) :
    Df P w K mg base 3 "longest_needed" 1 f_longest_needed (defArgs st_longest_needed) ["ladder"] :=
  ⟨f, fd, _, _, _, fnM (k := 2) (m := m_longest_needed) F sc_longest_needed (fun cdv A outer s H E hr => (css_one (cs_ret (ce_callB (c_max1 rfl (u64 hr)) rfl B.b_max bt_max (pd_e (CO.val (co_lc rfl sc_longest_needed.nd (ci_val (ce_var 0)) (blkOk_by (own := [("kind", 1), ("bosses", 2)]) (by rfl)) (fun _ _ _ _ _ => (cg_tup rfl (cgs_cons (cg_name 1 sc_longest_needed.nd) (cgs_cons (cg_name 2 sc_longest_needed.nd) cgs_nil)))) (fun _ _ _ _ _ => cts_nil) (fun _ _ _ _ _ => (ce_callB c_len rfl B.b_len bt_len (pd_e (ce_def (pe_def (F := D_short_way) (hr.mono (by decide)) (cr_v (ce_var 0) (cr_v (ce_var 1) (cr_v ce_str (cr_v (ce_tup ca_nil) cr_nil)))) (fun _ _ _ _ _ _ _ _ _ us hl => match us, hl with | [_, _, _, _], _ => rfl))))))))))))), F, g⟩
theorem sc_must_pass : FnScope ["ladder", "kind", "others", "one", "bosses"] ["ladder", "kind"] (defScope st_must_pass) := ⟨rfl, rfl, rfl, by decide +kernel, rfl, by decide +kernel, by decide +kernel⟩
theorem df_must_pass {f : Addr} {fd : FuncData} (B : Bt mg) (F : FunD K "must_pass" "must_pass" (defArgs st_must_pass) (defBody st_must_pass) (defScope st_must_pass) [] [] f fd) (g : mg "must_pass" = some (.ref f)) (D_has_way : Df P w K mg base 3 "has_way" 4 f_has_way (defArgs st_has_way) ["ladder", "kind", "aim", "bars"]) :
    Df P w K mg base 4 "must_pass" 2 f_must_pass (defArgs st_must_pass) ["ladder", "kind"] :=
  ⟨f, fd, _, _, _, fnM (k := 3) (m := m_must_pass) F sc_must_pass (fun cdv A outer s H E hr => (css_cons (cs_setLc 2 rfl sc_must_pass.nd (ci_val (ce_var 0)) (blkOk_by (own := [("one", 3), ("bosses", 4)]) (by rfl)) (fun _ _ _ _ _ => (cg_tup rfl (cgs_cons (cg_name 3 sc_must_pass.nd) (cgs_cons (cg_name 4 sc_must_pass.nd) cgs_nil)))) (fun _ _ _ _ _ => (cts_one (ct_cmp (r_ne (u64 hr)) (pd_n 3) (pd_n 1) (by rfl)))) (fun _ _ _ _ _ => (ce_var 3)))
  (css_one (cs_ret (ce_callT c_tuple rfl B.b_tuple bt_tuple (pd_e (CO.val (co_lc rfl sc_must_pass.nd (ci_val (ce_var 2)) (blkOk_by (own := [("one", 3)]) (by rfl)) (fun _ _ _ _ _ => (cg_name 3 sc_must_pass.nd)) (fun _ _ _ _ _ => (cts_one (ct_not (ct_tru (pd_e (ce_def (pe_def (F := D_has_way) (hr.mono (by decide)) (cr_v (ce_var 0) (cr_v (ce_var 1) (cr_v ce_str (cr_v (ce_tup (ca_cons (ce_var 3) ca_nil)) cr_nil)))) (fun _ _ _ _ _ _ _ _ _ us hl => match us, hl with | [_, _, _, _], _ => rfl)))))))) (fun _ _ _ _ _ => (ce_var 3)))))))))), F, g⟩
theorem sc__law_fount : FnScope ["script", "deep", "worth", "cell", "size"] ["script"] (defScope st__law_fount) := ⟨rfl, rfl, rfl, by decide +kernel, rfl, by decide +kernel, by decide +kernel⟩
theorem df__law_fount {f : Addr} {fd : FuncData} (B : Bt mg) (F : FunD K "_law_fount" "_law_fount" (defArgs st__law_fount) (defBody st__law_fount) (defScope st__law_fount) [] [] f fd) (g : mg "_law_fount" = some (.ref f))  :
    Df P w K mg base 1 "_law_fount" 1 f__law_fount (defArgs st__law_fount) ["script"] :=
  ⟨f, fd, _, _, _, fnM (k := 0) (m := m__law_fount) F sc__law_fount (fun cdv A outer s H E hr => (css_cons (cs_asg ce_int (cg_name 1 sc__law_fount.nd))
  (css_cons (cs_asg ce_int (cg_name 2 sc__law_fount.nd))
  (css_cons (cs_for PassesOwn.never rfl (ci_val (CO.val (co_slice (pd_n 0) cp_none (cp_some ce_int)))) (cg_name 3 sc__law_fount.nd)
  (css_cons (cs_asg (ce_op r_mod (pd_e (ce_callB c_abs rfl B.b_abs bt_abs (pd_e (ce_callT c_int rfl B.b_int bt_int (pd_n 3))))) (pd_e (ce_op r_shl (pd_e ce_int) (pd_e ce_int)))) (cg_name 4 sc__law_fount.nd))
  (css_cons (cs_asg (ce_op r_mod (pd_e (ce_callT c_int rfl B.b_int bt_int (pd_e (ce_op r_add (pd_e (ce_op r_add (pd_e (ce_op r_mul (pd_n 2) (pd_e ce_int))) (pd_e (ce_op r_mod (pd_n 4) (pd_e ce_int))))) (pd_e ce_int))))) (pd_e ce_int)) (cg_name 2 sc__law_fount.nd))
  (css_one (cs_if (ct_cmp r_ge (pd_n 4) (pd_e (ce_op r_pow (pd_e ce_int) (pd_e ce_int))) (by rfl))
  (css_one (cs_asg (ce_op r_add (pd_n 1) (pd_n 4)) (cg_name 1 sc__law_fount.nd)))
  css_nil)))))
  (css_one (cs_retO (co_lst (ca_cons (ce_var 1) (ca_cons (ce_var 2) (ca_cons (ce_op r_mod (pd_e (ce_callT c_int rfl B.b_int bt_int (pd_e (ce_op r_fdiv (pd_n 2) (pd_e ce_int))))) (pd_e ce_int)) ca_nil)))))))))), F, g⟩
theorem sc__law_dip : FnScope ["fount", "many", "spot", "told", "habit"] ["fount", "many", "spot"] (defScope st__law_dip) := ⟨rfl, rfl, rfl, by decide +kernel, rfl, by decide +kernel, by decide +kernel⟩
theorem df__law_dip {f : Addr} {fd : FuncData} (B : Bt mg) (F : FunD K "_law_dip" "_law_dip" (defArgs st__law_dip) (defBody st__law_dip) (defScope st__law_dip) [(V.int 0)] [] f fd) (g : mg "_law_dip" = some (.ref f))  :
    DfD P w K mg base 1 "_law_dip" 3 f__law_dip (defArgs st__law_dip) ["fount", "many", "spot"] [(V.int 0)] :=
  ⟨f, fd, _, _, _, fnM (k := 0) (m := m__law_dip) F sc__law_dip (fun cdv A outer s H E hr => (css_cons (cs_if (ct_cmp r_gt (pd_e (ce_ix (u1 hr) (pd_n 0) (pd_e ce_int))) (pd_e ce_int) (by rfl))
  (css_cons (cs_asg (ce_op r_mod (pd_e (ce_callT c_int rfl B.b_int bt_int (pd_e (ce_ix (u1 hr) (pd_n 0) (pd_e ce_int))))) (pd_n 1)) (cg_name 3 sc__law_dip.nd))
  (css_cons (cs_setIx 0 (u1 hr) (ce_op r_fdiv (pd_e (ce_ix (u1 hr) (pd_n 0) (pd_e ce_int))) (pd_n 1)) ce_int)
  (css_one (cs_ret (ce_var 3)))))
  css_nil)
  (css_cons (cs_setIx 0 (u1 hr) (ce_op r_mod (pd_e (ce_callT c_int rfl B.b_int bt_int (pd_e (ce_op r_add (pd_e (ce_op r_mul (pd_e (ce_ix (u1 hr) (pd_n 0) (pd_e ce_int))) (pd_e ce_int))) (pd_e ce_int))))) (pd_e ce_int)) ce_int)
  (css_cons (cs_asg (ce_if (ct_tru (pd_n 2)) (ce_op r_mod (pd_e (ce_callT c_int rfl B.b_int bt_int (pd_e (ce_op r_add (pd_e (ce_op r_fdiv (pd_e (ce_ix (u1 hr) (pd_n 0) (pd_e ce_int))) (pd_e (ce_op r_add (pd_e (ce_op r_mul (pd_e ce_int) (pd_n 2))) (pd_e ce_int))))) (pd_n 2))))) (pd_e ce_int)) ce_int) (cg_name 4 sc__law_dip.nd))
  (css_cons (cs_if (ct_cmp (r_eq (u64 hr)) (pd_n 4) (pd_e ce_int) (by rfl))
  (css_one (cs_ret ce_int))
  css_nil)
  (css_cons (cs_if (ct_cmp (r_eq (u64 hr)) (pd_n 4) (pd_e ce_int) (by rfl))
  (css_one (cs_ret (ce_op r_sub (pd_n 1) (pd_e ce_int))))
  css_nil)
  (css_cons (cs_if (ct_cmp (r_eq (u64 hr)) (pd_n 4) (pd_e ce_int) (by rfl))
  (css_one (cs_ret (ce_op r_mod (pd_e (ce_callT c_int rfl B.b_int bt_int (pd_e (ce_ix (u1 hr) (pd_n 0) (pd_e ce_int))))) (pd_n 1))))
  css_nil)
  (css_one (cs_ret (ce_op r_mod (pd_e (ce_callT c_int rfl B.b_int bt_int (pd_e (ce_op r_fdiv (pd_e (ce_ix (u1 hr) (pd_n 0) (pd_e ce_int))) (pd_e ce_int))))) (pd_n 1))))))))))), F, g⟩
theorem sc__law_stirred : FnScope ["fount", "things", "left", "out"] ["fount", "things"] (defScope st__law_stirred) := ⟨rfl, rfl, rfl, by decide +kernel, rfl, by decide +kernel, by decide +kernel⟩
theorem df__law_stirred {f : Addr} {fd : FuncData} (B : Bt mg) (F : FunD K "_law_stirred" "_law_stirred" (defArgs st__law_stirred) (defBody st__law_stirred) (defScope st__law_stirred) [] [] f fd) (g : mg "_law_stirred" = some (.ref f)) (D__law_dip : DfD P w K mg base 1 "_law_dip" 3 f__law_dip (defArgs st__law_dip) ["fount", "many", "spot"] [(V.int 0)]) :
    Df P w K mg base 2 "_law_stirred" 2 f__law_stirred (defArgs st__law_stirred) ["fount", "things"] :=
  ⟨f, fd, _, _, _, fnM (k := 1) (m := m__law_stirred) F sc__law_stirred (fun cdv A outer s H E hr => (css_cons (cs_setO 2 sc__law_stirred.nd (co_callT c_list rfl B.b_list bt_list (pd_n 1)))
  (css_cons (cs_setO 3 sc__law_stirred.nd (co_lst ca_nil))
  (css_cons (cs_while PassesOwn.never (ct_tru (pd_n 2))
  (css_one (cs_expr (ce_m1 3 m_append PySem.F.slot_list_append PySem.F.type_list_append (ce_m1 2 m_popAt PySem.F.slot_list_pop PySem.F.type_list_pop (ce_def (pe_defD (as := [.o 0, .v (m1 (.n 2) dLen)]) 2 0 [(.int 0)] D__law_dip (hr.mono (by decide)) (cr_o 0 (cr_v (ce_callB c_len rfl B.b_len bt_len (pd_n 2)) cr_nil)) (fun _ _ => (.cons .int .nil)) (by decide) rfl (fun _ _ _ _ _ _ _ _ _ _ us its h1 h2 => match us, its, h1, h2 with | [_, _], [_], _, _ => ⟨_, rfl, rfl⟩))))))))
  (css_one (cs_ret (ce_var 3))))))), F, g⟩
theorem sc__law_same : FnScope ["told", "due", "left", "one", "two", "at"] ["told", "due"] (defScope st__law_same) := ⟨rfl, rfl, rfl, by decide +kernel, rfl, by decide +kernel, by decide +kernel⟩
theorem df__law_same {f : Addr} {fd : FuncData} (B : Bt mg) (F : FunD K "_law_same" "_law_same" (defArgs st__law_same) (defBody st__law_same) (defScope st__law_same) [] [] f fd) (g : mg "_law_same" = some (.ref f))  :
    Df P w K mg base 1 "_law_same" 2 f__law_same (defArgs st__law_same) ["told", "due"] :=
  ⟨f, fd, _, _, _, fnM (k := 0) (m := m__law_same) F sc__law_same (fun cdv A outer s H E hr => (css_cons (cs_setO 2 sc__law_same.nd (co_lst (ca_cons (ce_tup (ca_cons (ce_var 0) (ca_cons (ce_var 1) ca_nil))) ca_nil)))
  (css_cons (cs_while PassesOwn.never (ct_tru (pd_n 2))
  (css_cons (cs_asg (ce_m0 2 m_pop PySem.F.slot_list_pop PySem.F.type_list_pop) (cg_tup rfl (cgs_cons (cg_name 3 sc__law_same.nd) (cgs_cons (cg_name 4 sc__law_same.nd) cgs_nil))))
  (css_one (cs_if (ct_tru (pd_e (ce_isiL (hl := by decide) (ha := (pd_n 4)) (hc := (.cons isi_tuple rfl B.b_tuple bt_tuple (.cons isi_list rfl B.b_list bt_list .nil))) (hm := B.b_isinstance) (hv := bt_isinstance))))
  (css_cons (cs_if (CW.ct (cw_or (ct_not (ct_tru (pd_e (ce_isiL (hl := by decide) (ha := (pd_n 3)) (hc := (.cons isi_tuple rfl B.b_tuple bt_tuple (.cons isi_list rfl B.b_list bt_list .nil))) (hm := B.b_isinstance) (hv := bt_isinstance))))) (cw_or (ct_cmp (r_ne (u64 hr)) (pd_e (ce_isi (hn := isi_list) (ha := (pd_n 3)) (hm := B.b_isinstance) (hm2 := B.b_list) (hv2 := bt_list) (hv := bt_isinstance))) (pd_e (ce_isi (hn := isi_list) (ha := (pd_n 4)) (hm := B.b_isinstance) (hm2 := B.b_list) (hv2 := bt_list) (hv := bt_isinstance))) (by rfl)) (cw_or1 (ct_cmp (r_ne (u64 hr)) (pd_e (ce_callB c_len rfl B.b_len bt_len (pd_n 3))) (pd_e (ce_callB c_len rfl B.b_len bt_len (pd_n 4))) (by rfl))))))
  (css_one (cs_ret ce_bl))
  css_nil)
  (css_one (cs_setO 2 sc__law_same.nd (co_op r_cat (pd_n 2) (pd_e (CO.val (co_lc rfl sc__law_same.nd (ci_rng1 rfl B.b_range (ca_cons (ce_callB c_len rfl B.b_len bt_len (pd_n 4)) ca_nil)) (blkOk_by (own := [("at", 5)]) (by rfl)) (fun _ _ _ _ _ => (cg_name 5 sc__law_same.nd)) (fun _ _ _ _ _ => cts_nil) (fun _ _ _ _ _ => (ce_tup (ca_cons (ce_ix (u1 hr) (pd_n 3) (pd_n 5)) (ca_cons (ce_ix (u1 hr) (pd_n 4) (pd_n 5)) ca_nil)))))))))))
  (css_one (cs_if (CW.ct (cw_or (ct_cmp r_isN (pd_n 4) (pd_e ce_non) (by rfl)) (cw_or1 (ct_tru (pd_e (ce_isi (hn := isi_bool) (ha := (pd_n 4)) (hm := B.b_isinstance) (hm2 := B.b_bool) (hv2 := bt_bool) (hv := bt_isinstance)))))))
  (css_one (cs_if (CW.ct (cw_or (ct_cmp (r_ne (u64 hr)) (pd_e (ce_cmp r_isN (pd_n 3) (pd_e ce_non) (by rfl))) (pd_e (ce_cmp r_isN (pd_n 4) (pd_e ce_non) (by rfl))) (by rfl)) (cw_or (ct_cmp (r_ne (u64 hr)) (pd_e (ce_isi (hn := isi_bool) (ha := (pd_n 3)) (hm := B.b_isinstance) (hm2 := B.b_bool) (hv2 := bt_bool) (hv := bt_isinstance))) (pd_e (ce_isi (hn := isi_bool) (ha := (pd_n 4)) (hm := B.b_isinstance) (hm2 := B.b_bool) (hv2 := bt_bool) (hv := bt_isinstance))) (by rfl)) (cw_or1 (ct_cmp (r_ne (u64 hr)) (pd_n 3) (pd_n 4) (by rfl))))))
  (css_one (cs_ret ce_bl))
  css_nil))
  (css_one (cs_if (ct_tru (pd_e (ce_isi (hn := isi_int) (ha := (pd_n 4)) (hm := B.b_isinstance) (hm2 := B.b_int) (hv2 := bt_int) (hv := bt_isinstance))))
  (css_one (cs_if (CW.ct (cw_or (ct_not (ct_tru (pd_e (ce_isi (hn := isi_int) (ha := (pd_n 3)) (hm := B.b_isinstance) (hm2 := B.b_int) (hv2 := bt_int) (hv := bt_isinstance))))) (cw_or (ct_tru (pd_e (ce_isi (hn := isi_bool) (ha := (pd_n 3)) (hm := B.b_isinstance) (hm2 := B.b_bool) (hv2 := bt_bool) (hv := bt_isinstance)))) (cw_or1 (ct_cmp (r_ne (u64 hr)) (pd_n 3) (pd_n 4) (by rfl))))))
  (css_one (cs_ret ce_bl))
  css_nil))
  (css_one (cs_if (CW.ct (cw_or (ct_not (ct_tru (pd_e (ce_isi (hn := isi_str) (ha := (pd_n 4)) (hm := B.b_isinstance) (hm2 := B.b_str) (hv2 := bt_str) (hv := bt_isinstance))))) (cw_or (ct_not (ct_tru (pd_e (ce_isi (hn := isi_str) (ha := (pd_n 3)) (hm := B.b_isinstance) (hm2 := B.b_str) (hv2 := bt_str) (hv := bt_isinstance))))) (cw_or1 (ct_cmp (r_ne (u64 hr)) (pd_n 3) (pd_n 4) (by rfl))))))
  (css_one (cs_ret ce_bl))
  css_nil))))))))))
  (css_one (cs_ret ce_bl))))), F, g⟩
theorem sc__law_words : FnScope ["fount", "many", "found", "at", "word"] ["fount", "many"] (defScope st__law_words) := ⟨rfl, rfl, rfl, by decide +kernel, rfl, by decide +kernel, by decide +kernel⟩
theorem df__law_words {f : Addr} {fd : FuncData} (B : Bt mg) (F : FunD K "_law_words" "_law_words" (defArgs st__law_words) (defBody st__law_words) (defScope st__law_words) [] [] f fd) (g : mg "_law_words" = some (.ref f)) (D__law_dip : DfD P w K mg base 1 "_law_dip" 3 f__law_dip (defArgs st__law_dip) ["fount", "many", "spot"] [(V.int 0)]) :
    Df P w K mg base 2 "_law_words" 2 f__law_words (defArgs st__law_words) ["fount", "many"] :=
  ⟨f, fd, _, _, _, fnM (k := 1) (m := m__law_words) F sc__law_words (fun cdv A outer s H E hr => (css_cons (cs_setO 2 sc__law_words.nd (co_lst ca_nil))
  (css_cons (cs_for PassesOwn.never rfl (ci_rng1 rfl B.b_range (ca_cons (ce_var 1) ca_nil)) (cg_name 3 sc__law_words.nd)
  (css_cons (cs_asg (ce_op r_add (pd_e (ce_ix (u1 hr) (pd_e ce_str) (pd_e (ce_def (pe_defD (as := [.o 0, .v (mC (.int 16))]) 2 0 [(.int 0)] D__law_dip (hr.mono (by decide)) (cr_o 0 (cr_v ce_int cr_nil)) (fun _ _ => (.cons .int .nil)) (by decide) rfl (fun _ _ _ _ _ _ _ _ _ _ us its h1 h2 => match us, its, h1, h2 with | [_, _], [_], _, _ => ⟨_, rfl, rfl⟩)))))) (pd_e (ce_ix (u1 hr) (pd_e (CO.val (co_lst (ca_cons ce_str (ca_cons ce_str (ca_cons ce_str (ca_cons ce_str (ca_cons ce_str (ca_cons ce_str (ca_cons ce_str (ca_cons ce_str ca_nil))))))))))) (pd_e (ce_def (pe_defD (as := [.o 0, .v (mC (.int 8)), .v (mC (.int 7))]) 3 1 [] D__law_dip (hr.mono (by decide)) (cr_o 0 (cr_v ce_int (cr_v ce_int cr_nil))) (fun _ _ => .nil) (by decide) rfl (fun _ _ _ _ _ _ _ _ _ _ us its h1 h2 => match us, its, h1, h2 with | [_, _, _], [_], _, _ => ⟨_, rfl, rfl⟩))))))) (cg_name 4 sc__law_words.nd))
  (css_one (cs_expr (ce_m1 2 m_append PySem.F.slot_list_append PySem.F.type_list_append (ce_if (ct_cmp (r_notIn (u1 hr)) (pd_n 4) (pd_n 2) (by rfl)) (ce_var 4) (ce_op r_add (pd_e ce_str) (pd_e (ce_callT c_str rfl B.b_str bt_str (pd_e (ce_op r_add (pd_e ce_int) (pd_n 3))))))))))))
  (css_one (cs_ret (ce_var 2)))))), F, g⟩
theorem sc__law_ladder : FnScope ["fount", "most", "names", "rows", "at", "bosses", "lap", "boss"] ["fount", "most"] (defScope st__law_ladder) := ⟨rfl, rfl, rfl, by decide +kernel, rfl, by decide +kernel, by decide +kernel⟩
theorem df__law_ladder {f : Addr} {fd : FuncData} (B : Bt mg) (F : FunD K "_law_ladder" "_law_ladder" (defArgs st__law_ladder) (defBody st__law_ladder) (defScope st__law_ladder) [] [] f fd) (g : mg "_law_ladder" = some (.ref f)) (D__law_dip : DfD P w K mg base 1 "_law_dip" 3 f__law_dip (defArgs st__law_dip) ["fount", "many", "spot"] [(V.int 0)]) (D__law_stirred : Df P w K mg base 2 "_law_stirred" 2 f__law_stirred (defArgs st__law_stirred) ["fount", "things"]) (D__law_words : Df P w K mg base 2 "_law_words" 2 f__law_words (defArgs st__law_words) ["fount", "many"]) :
    Df P w K mg base 3 "_law_ladder" 2 f__law_ladder (defArgs st__law_ladder) ["fount", "most"] :=
  ⟨f, fd, _, _, _, fnM (k := 2) (m := m__law_ladder) F sc__law_ladder (fun cdv A outer s H E hr => (css_cons (cs_asg (ce_def (pe_def (F := D__law_stirred) (hr.mono (by decide)) (cr_o 0 (cr_v (ce_def (pe_def (F := D__law_words) (hr.mono (by decide)) (cr_o 0 (cr_v (ce_op r_add (pd_e ce_int) (pd_e (ce_def (pe_defD (as := [.o 0, .v (mVar 1), .v (mC (.int 3))]) 3 1 [] D__law_dip (hr.mono (by decide)) (cr_o 0 (cr_v (ce_var 1) (cr_v ce_int cr_nil))) (fun _ _ => .nil) (by decide) rfl (fun _ _ _ _ _ _ _ _ _ _ us its h1 h2 => match us, its, h1, h2 with | [_, _, _], [_], _, _ => ⟨_, rfl, rfl⟩))))) cr_nil)) (fun _ _ _ _ _ _ _ _ _ us hl => match us, hl with | [_, _], _ => rfl))) cr_nil)) (fun _ _ _ _ _ _ _ _ _ us hl => match us, hl with | [_, _], _ => rfl))) (cg_name 2 sc__law_ladder.nd))
  (css_cons (cs_setO 3 sc__law_ladder.nd (co_lst ca_nil))
  (css_cons (cs_for PassesOwn.never rfl (ci_rng1 rfl B.b_range (ca_cons (ce_callB c_len rfl B.b_len bt_len (pd_n 2)) ca_nil)) (cg_name 4 sc__law_ladder.nd)
  (css_cons (cs_setO 5 sc__law_ladder.nd (co_if (CW.ct (cw_or (ct_cmp (r_eq (u64 hr)) (pd_n 4) (pd_e ce_int) (by rfl)) (cw_or1 (ct_cmp (r_eq (u64 hr)) (pd_e (ce_def (pe_defD (as := [.o 0, .v (mC (.int 4))]) 2 0 [(.int 0)] D__law_dip (hr.mono (by decide)) (cr_o 0 (cr_v ce_int cr_nil)) (fun _ _ => (.cons .int .nil)) (by decide) rfl (fun _ _ _ _ _ _ _ _ _ _ us its h1 h2 => match us, its, h1, h2 with | [_, _], [_], _, _ => ⟨_, rfl, rfl⟩)))) (pd_e ce_int) (by rfl))))) (co_lst (ca_cons ce_str ca_nil)) (co_lst (ca_cons (ce_ix (u1 hr) (pd_n 2) (pd_e (ce_def (pe_defD (as := [.o 0, .v (mVar 4)]) 2 0 [(.int 0)] D__law_dip (hr.mono (by decide)) (cr_o 0 (cr_v (ce_var 4) cr_nil)) (fun _ _ => (.cons .int .nil)) (by decide) rfl (fun _ _ _ _ _ _ _ _ _ _ us its h1 h2 => match us, its, h1, h2 with | [_, _], [_], _, _ => ⟨_, rfl, rfl⟩))))) ca_nil))))
  (css_cons (cs_for PassesOwn.never rfl (ci_rng1 rfl B.b_range (ca_cons (ce_def (pe_defD (as := [.o 0, .v (mC (.int 3)), .v (mC (.int 4))]) 3 1 [] D__law_dip (hr.mono (by decide)) (cr_o 0 (cr_v ce_int (cr_v ce_int cr_nil))) (fun _ _ => .nil) (by decide) rfl (fun _ _ _ _ _ _ _ _ _ _ us its h1 h2 => match us, its, h1, h2 with | [_, _, _], [_], _, _ => ⟨_, rfl, rfl⟩))) ca_nil)) (cg_name 6 sc__law_ladder.nd)
  (css_cons (cs_asg (ce_ix (u1 hr) (pd_e (CO.val (co_op r_cat (pd_n 2) (pd_e (CO.val (co_lst (ca_cons ce_str ca_nil))))))) (pd_e (ce_def (pe_defD (as := [.o 0, .v (m2 (.e (m1 (.n 2) dLen)) (.e (mC (.int 1))) dAdd)]) 2 0 [(.int 0)] D__law_dip (hr.mono (by decide)) (cr_o 0 (cr_v (ce_op r_add (pd_e (ce_callB c_len rfl B.b_len bt_len (pd_n 2))) (pd_e ce_int)) cr_nil)) (fun _ _ => (.cons .int .nil)) (by decide) rfl (fun _ _ _ _ _ _ _ _ _ _ us its h1 h2 => match us, its, h1, h2 with | [_, _], [_], _, _ => ⟨_, rfl, rfl⟩))))) (cg_name 7 sc__law_ladder.nd))
  (css_one (cs_if (ct_cmp (r_notIn (u1 hr)) (pd_n 7) (pd_n 5) (by rfl))
  (css_one (cs_expr (ce_m1 5 m_append PySem.F.slot_list_append PySem.F.type_list_append (ce_var 7))))
  css_nil))))
  (css_one (cs_expr (ce_m1 3 m_append PySem.F.slot_list_append PySem.F.type_list_append (ce_tup (ca_cons (ce_ix (u1 hr) (pd_n 2) (pd_n 4)) (ca_cons (ce_callT c_tuple rfl B.b_tuple bt_tuple (pd_e (CO.val (co_callB (c_sort rfl (u64 hr)) rfl B.b_sorted bt_sorted (pd_n 5))))) ca_nil)))))))))
  (css_one (cs_ret (ce_callT c_tuple rfl B.b_tuple bt_tuple (pd_e (CO.val (co_callB (c_sort rfl (u64 hr)) rfl B.b_sorted bt_sorted (pd_n 3))))))))))), F, g⟩
theorem sc__law_way : FnScope ["ladder", "kind", "aim", "bars", "table", "far", "changed", "step", "name", "way", "here", "boss"] ["ladder", "kind", "aim", "bars"] (defScope st__law_way) := ⟨rfl, rfl, rfl, by decide +kernel, rfl, by decide +kernel, by decide +kernel⟩
theorem df__law_way {f : Addr} {fd : FuncData} (B : Bt mg) (F : FunD K "_law_way" "_law_way" (defArgs st__law_way) (defBody st__law_way) (defScope st__law_way) [] [] f fd) (g : mg "_law_way" = some (.ref f))  :
    Df P w K mg base 1 "_law_way" 4 f__law_way (defArgs st__law_way) ["ladder", "kind", "aim", "bars"] :=
  ⟨f, fd, _, _, _, fnM (k := 0) (m := m__law_way) F sc__law_way (fun cdv A outer s H E hr => (css_cons (cs_setO 4 sc__law_way.nd (co_callT (c_dict rfl) rfl B.b_dict bt_dict (pd_n 0)))
  (css_cons (cs_setO 5 sc__law_way.nd (co_callT (c_dict rfl) rfl B.b_dict bt_dict (pd_e (CO.val (co_lc rfl sc__law_way.nd (ci_val (ce_var 4)) (blkOk_by (own := [("name", 8)]) (by rfl)) (fun _ _ _ _ _ => (cg_name 8 sc__law_way.nd)) (fun _ _ _ _ _ => (cts_one (ct_cmp (r_in (u1 hr)) (pd_n 2) (pd_e (ce_ix (u1 hr) (pd_n 4) (pd_n 8))) (by rfl)))) (fun _ _ _ _ _ => (ce_tup (ca_cons (ce_var 8) (ca_cons ce_int ca_nil)))))))))
  (css_cons (cs_asg ce_bl (cg_name 6 sc__law_way.nd))
  (css_cons (cs_asg ce_int (cg_name 7 sc__law_way.nd))
  (css_cons (cs_while PassesOwn.never (ct_tru (pd_n 6))
  (css_cons (cs_asg ce_bl (cg_name 6 sc__law_way.nd))
  (css_cons (cs_aug 7 sc__law_way.nd ce_int p_add)
  (css_one (cs_for PassesOwn.never rfl (ci_val (ce_var 4)) (cg_name 8 sc__law_way.nd)
  (css_one (cs_if (CW.ct (cw_and (ct_cmp (r_notIn (u1 hr)) (pd_n 8) (pd_n 5) (by rfl)) (cw_and1 (ct_cmp r_gt (pd_e (ce_callB c_len rfl B.b_len bt_len (pd_e (CO.val (co_lc rfl sc__law_way.nd (ci_val (ce_ix (u1 hr) (pd_n 4) (pd_n 8))) (blkOk_by (own := [("boss", 11)]) (by rfl)) (fun _ _ _ _ _ => (cg_name 11 sc__law_way.nd)) (fun _ _ _ _ _ => (cts_one (CW.ct (cw_and (ct_cmp (r_in (u1 hr)) (pd_n 11) (pd_n 5) (by rfl)) (cw_and (ct_cmp (r_eq (u64 hr)) (pd_e (ce_ix (u1 hr) (pd_n 5) (pd_n 11))) (pd_e (ce_op r_sub (pd_n 7) (pd_e ce_int))) (by rfl)) (cw_and1 (ct_cmp (r_notIn (u1 hr)) (pd_n 11) (pd_n 3) (by rfl)))))))) (fun _ _ _ _ _ => (ce_var 11))))))) (pd_e ce_int) (by rfl)))))
  (css_cons (cs_setIx 5 (u1 hr) (ce_var 7) (ce_var 8))
  (css_one (cs_asg ce_bl (cg_name 6 sc__law_way.nd))))
  css_nil)))))))
  (css_cons (cs_if (ct_cmp (r_notIn (u1 hr)) (pd_n 1) (pd_n 5) (by rfl))
  (css_one (cs_ret ce_non))
  css_nil)
  (css_cons (cs_setO 9 sc__law_way.nd (co_lst ca_nil))
  (css_cons (cs_asg (ce_var 1) (cg_name 10 sc__law_way.nd))
  (css_cons (cs_while PassesOwn.never (ct_cmp r_gt (pd_e (ce_ix (u1 hr) (pd_n 5) (pd_n 10))) (pd_e ce_int) (by rfl))
  (css_cons (cs_asg (ce_callB (c_min1 rfl (u64 hr)) rfl B.b_min bt_min (pd_e (CO.val (co_lc rfl sc__law_way.nd (ci_val (ce_ix (u1 hr) (pd_n 4) (pd_n 10))) (blkOk_by (own := [("boss", 11)]) (by rfl)) (fun _ _ _ _ _ => (cg_name 11 sc__law_way.nd)) (fun _ _ _ _ _ => (cts_one (CW.ct (cw_and (ct_cmp (r_in (u1 hr)) (pd_n 11) (pd_n 5) (by rfl)) (cw_and (ct_cmp (r_notIn (u1 hr)) (pd_n 11) (pd_n 3) (by rfl)) (cw_and1 (ct_cmp (r_eq (u64 hr)) (pd_e (ce_ix (u1 hr) (pd_n 5) (pd_n 11))) (pd_e (ce_op r_sub (pd_e (ce_ix (u1 hr) (pd_n 5) (pd_n 10))) (pd_e ce_int))) (by rfl)))))))) (fun _ _ _ _ _ => (ce_var 11)))))) (cg_name 10 sc__law_way.nd))
  (css_one (cs_expr (ce_m1 9 m_append PySem.F.slot_list_append PySem.F.type_list_append (ce_var 10))))))
  (css_one (cs_ret (ce_callT c_tuple rfl B.b_tuple bt_tuple (pd_n 9)))))))))))))), F, g⟩
theorem sc__law_asked : FnScope ["ladder", "kind", "aim", "bars", "due", "told"] ["ladder", "kind", "aim", "bars"] (defScope st__law_asked) := ⟨rfl, rfl, rfl, by decide +kernel, rfl, by decide +kernel, by decide +kernel⟩
theorem df__law_asked {f : Addr} {fd : FuncData} (B : Bt mg) (F : FunD K "_law_asked" "_law_asked" (defArgs st__law_asked) (defBody st__law_asked) (defScope st__law_asked) [] [] f fd) (g : mg "_law_asked" = some (.ref f)) (D__law_same : Df P w K mg base 1 "_law_same" 2 f__law_same (defArgs st__law_same) ["told", "due"]) (D__law_way : Df P w K mg base 1 "_law_way" 4 f__law_way (defArgs st__law_way) ["ladder", "kind", "aim", "bars"]) (D_has_way : Df P w K mg base 3 "has_way" 4 f_has_way (defArgs st_has_way) ["ladder", "kind", "aim", "bars"]) (D_short_way : Df P w K mg base 2 "short_way" 4 f_short_way (defArgs st_short_way) ["ladder", "kind", "aim", "bars"]) :
    Df P w K mg base 4 "_law_asked" 4 f__law_asked (defArgs st__law_asked) ["ladder", "kind", "aim", "bars"] :=
  ⟨f, fd, _, _, _, fnM (k := 3) (m := m__law_asked) F sc__law_asked (fun cdv A outer s H E hr => (css_cons (cs_asg (ce_def (pe_def (F := D__law_way) (hr.mono (by decide)) (cr_v (ce_var 0) (cr_v (ce_var 1) (cr_v (ce_var 2) (cr_v (ce_var 3) cr_nil)))) (fun _ _ _ _ _ _ _ _ _ us hl => match us, hl with | [_, _, _, _], _ => rfl))) (cg_name 4 sc__law_asked.nd))
  (css_cons (cs_asg (ce_def (pe_def (F := D_has_way) (hr.mono (by decide)) (cr_v (ce_var 0) (cr_v (ce_var 1) (cr_v (ce_var 2) (cr_v (ce_var 3) cr_nil)))) (fun _ _ _ _ _ _ _ _ _ us hl => match us, hl with | [_, _, _, _], _ => rfl))) (cg_name 5 sc__law_asked.nd))
  (css_one (cs_ret (ce_and (ce_isi (hn := isi_bool) (ha := (pd_n 5)) (hm := B.b_isinstance) (hm2 := B.b_bool) (hv2 := bt_bool) (hv := bt_isinstance)) (ce_and (ce_cmp (r_eq (u64 hr)) (pd_n 5) (pd_e (ce_cmp r_notN (pd_n 4) (pd_e ce_non) (by rfl))) (by rfl)) (ce_one (ce_def (pe_def (F := D__law_same) (hr.mono (by decide)) (cr_v (ce_def (pe_def (F := D_short_way) (hr.mono (by decide)) (cr_v (ce_var 0) (cr_v (ce_var 1) (cr_v (ce_var 2) (cr_v (ce_var 3) cr_nil)))) (fun _ _ _ _ _ _ _ _ _ us hl => match us, hl with | [_, _, _, _], _ => rfl))) (cr_v (ce_var 4) cr_nil)) (fun _ _ _ _ _ _ _ _ _ us hl => match us, hl with | [_, _], _ => rfl))))))))))), F, g⟩
theorem sc__law_looked : FnScope ["ladder", "names", "name", "due", "bosses", "other"] ["ladder"] (defScope st__law_looked) := ⟨rfl, rfl, rfl, by decide +kernel, rfl, by decide +kernel, by decide +kernel⟩
theorem df__law_looked {f : Addr} {fd : FuncData} (B : Bt mg) (F : FunD K "_law_looked" "_law_looked" (defArgs st__law_looked) (defBody st__law_looked) (defScope st__law_looked) [] [] f fd) (g : mg "_law_looked" = some (.ref f)) (D__law_same : Df P w K mg base 1 "_law_same" 2 f__law_same (defArgs st__law_same) ["told", "due"]) (D__law_way : Df P w K mg base 1 "_law_way" 4 f__law_way (defArgs st__law_way) ["ladder", "kind", "aim", "bars"]) (D_longest_needed : Df P w K mg base 3 "longest_needed" 1 f_longest_needed (defArgs st_longest_needed) ["ladder"]) (D_must_pass : Df P w K mg base 4 "must_pass" 2 f_must_pass (defArgs st_must_pass) ["ladder", "kind"]) :
    Df P w K mg base 5 "_law_looked" 1 f__law_looked (defArgs st__law_looked) ["ladder"] :=
  ⟨f, fd, _, _, _, fnM (k := 4) (m := m__law_looked) F sc__law_looked (fun cdv A outer s H E hr => (css_cons (cs_setLc 1 rfl sc__law_looked.nd (ci_val (ce_var 0)) (blkOk_by (own := [("name", 2), ("bosses", 4)]) (by rfl)) (fun _ _ _ _ _ => (cg_tup rfl (cgs_cons (cg_name 2 sc__law_looked.nd) (cgs_cons (cg_name 4 sc__law_looked.nd) cgs_nil)))) (fun _ _ _ _ _ => cts_nil) (fun _ _ _ _ _ => (ce_var 2)))
  (css_cons (cs_if (ct_not (ct_tru (pd_e (ce_def (pe_def (F := D__law_same) (hr.mono (by decide)) (cr_v (ce_def (pe_def (F := D_longest_needed) (hr.mono (by decide)) (cr_v (ce_var 0) cr_nil) (fun _ _ _ _ _ _ _ _ _ us hl => match us, hl with | [_], _ => rfl))) (cr_v (ce_callB (c_max1 rfl (u64 hr)) rfl B.b_max bt_max (pd_e (CO.val (co_lc rfl sc__law_looked.nd (ci_val (ce_var 1)) (blkOk_by (own := [("name", 2)]) (by rfl)) (fun _ _ _ _ _ => (cg_name 2 sc__law_looked.nd)) (fun _ _ _ _ _ => cts_nil) (fun _ _ _ _ _ => (ce_callB c_len rfl B.b_len bt_len (pd_e (ce_def (pe_def (F := D__law_way) (hr.mono (by decide)) (cr_v (ce_var 0) (cr_v (ce_var 2) (cr_v ce_str (cr_v (ce_tup ca_nil) cr_nil)))) (fun _ _ _ _ _ _ _ _ _ us hl => match us, hl with | [_, _, _, _], _ => rfl)))))))))) cr_nil)) (fun _ _ _ _ _ _ _ _ _ us hl => match us, hl with | [_, _], _ => rfl))))))
  (css_one (cs_ret ce_bl))
  css_nil)
  (css_cons (cs_for PassesOwn.never rfl (ci_val (ce_var 1)) (cg_name 2 sc__law_looked.nd)
  (css_cons (cs_setLc 3 rfl sc__law_looked.nd (ci_val (ce_var 1)) (blkOk_by (own := [("other", 5)]) (by rfl)) (fun _ _ _ _ _ => (cg_name 5 sc__law_looked.nd)) (fun _ _ _ _ _ => (cts_one (CW.ct (cw_and (ct_cmp (r_ne (u64 hr)) (pd_n 5) (pd_n 2) (by rfl)) (cw_and1 (ct_cmp r_isN (pd_e (ce_def (pe_def (F := D__law_way) (hr.mono (by decide)) (cr_v (ce_var 0) (cr_v (ce_var 2) (cr_v ce_str (cr_v (ce_tup (ca_cons (ce_var 5) ca_nil)) cr_nil)))) (fun _ _ _ _ _ _ _ _ _ us hl => match us, hl with | [_, _, _, _], _ => rfl)))) (pd_e ce_non) (by rfl))))))) (fun _ _ _ _ _ => (ce_var 5)))
  (css_one (cs_if (ct_not (ct_tru (pd_e (ce_def (pe_def (F := D__law_same) (hr.mono (by decide)) (cr_v (ce_def (pe_defK0 ["ladder", "kind"] [0, 1] (F := D_must_pass) (hr.mono (by decide)) (ck_v (ce_var 0) (ck_v (ce_var 2) ck_nil)) (fun _ _ _ _ _ _ _ _ _ us ws hl hk => match us, ws, hl, hk with | [], [_, _], _, _ => rfl))) (cr_v (ce_callT c_tuple rfl B.b_tuple bt_tuple (pd_n 3)) cr_nil)) (fun _ _ _ _ _ _ _ _ _ us hl => match us, hl with | [_, _], _ => rfl))))))
  (css_one (cs_ret ce_bl))
  css_nil))))
  (css_one (cs_ret ce_bl)))))), F, g⟩
theorem sc__law_line : FnScope ["fount", "names", "rows", "ladder", "bar", "a", "b", "c", "d", "less", "more", "two", "at"] ["fount"] (defScope st__law_line) := ⟨rfl, rfl, rfl, by decide +kernel, rfl, by decide +kernel, by decide +kernel⟩
theorem df__law_line {f : Addr} {fd : FuncData} (B : Bt mg) (F : FunD K "_law_line" "_law_line" (defArgs st__law_line) (defBody st__law_line) (defScope st__law_line) [] [] f fd) (g : mg "_law_line" = some (.ref f)) (D__law_dip : DfD P w K mg base 1 "_law_dip" 3 f__law_dip (defArgs st__law_dip) ["fount", "many", "spot"] [(V.int 0)]) (D__law_same : Df P w K mg base 1 "_law_same" 2 f__law_same (defArgs st__law_same) ["told", "due"]) (D__law_words : Df P w K mg base 2 "_law_words" 2 f__law_words (defArgs st__law_words) ["fount", "many"]) (D_has_way : Df P w K mg base 3 "has_way" 4 f_has_way (defArgs st_has_way) ["ladder", "kind", "aim", "bars"]) (D_longest_needed : Df P w K mg base 3 "longest_needed" 1 f_longest_needed (defArgs st_longest_needed) ["ladder"]) (D_must_pass : Df P w K mg base 4 "must_pass" 2 f_must_pass (defArgs st_must_pass) ["ladder", "kind"]) (D_short_way : Df P w K mg base 2 "short_way" 4 f_short_way (defArgs st_short_way) ["ladder", "kind", "aim", "bars"]) :
    Df P w K mg base 5 "_law_line" 1 f__law_line (defArgs st__law_line) ["fount"] :=
  ⟨f, fd, _, _, _, fnM (k := 4) (m := m__law_line) F sc__law_line (fun cdv A outer s H E hr => (css_cons (cs_asg (ce_def (pe_def (F := D__law_words) (hr.mono (by decide)) (cr_o 0 (cr_v (ce_op r_add (pd_e ce_int) (pd_e (ce_def (pe_defD (as := [.o 0, .v (mC (.int 4))]) 2 0 [(.int 0)] D__law_dip (hr.mono (by decide)) (cr_o 0 (cr_v ce_int cr_nil)) (fun _ _ => (.cons .int .nil)) (by decide) rfl (fun _ _ _ _ _ _ _ _ _ _ us its h1 h2 => match us, its, h1, h2 with | [_, _], [_], _, _ => ⟨_, rfl, rfl⟩))))) cr_nil)) (fun _ _ _ _ _ _ _ _ _ us hl => match us, hl with | [_, _], _ => rfl))) (cg_name 1 sc__law_line.nd))
  (css_cons (cs_setLc 2 rfl sc__law_line.nd (ci_rng1 rfl B.b_range (ca_cons (ce_callB c_len rfl B.b_len bt_len (pd_n 1)) ca_nil)) (blkOk_by (own := [("at", 12)]) (by rfl)) (fun _ _ _ _ _ => (cg_name 12 sc__law_line.nd)) (fun _ _ _ _ _ => cts_nil) (fun _ _ _ _ _ => (ce_tup (ca_cons (ce_ix (u1 hr) (pd_n 1) (pd_n 12)) (ca_cons (ce_if (ct_cmp r_lt (pd_e (ce_op r_add (pd_n 12) (pd_e ce_int))) (pd_e (ce_callB c_len rfl B.b_len bt_len (pd_n 1))) (by rfl)) (ce_tup (ca_cons (ce_ix (u1 hr) (pd_n 1) (pd_e (ce_op r_add (pd_n 12) (pd_e ce_int)))) ca_nil)) (ce_tup (ca_cons ce_str ca_nil))) ca_nil)))))
  (css_cons (cs_asg (ce_callT c_tuple rfl B.b_tuple bt_tuple (pd_e (CO.val (co_callB (c_sort rfl (u64 hr)) rfl B.b_sorted bt_sorted (pd_n 2))))) (cg_name 3 sc__law_line.nd))
  (css_cons (cs_if (CW.ct (cw_or (ct_not (ct_tru (pd_e (ce_def (pe_def (F := D__law_same) (hr.mono (by decide)) (cr_v (ce_def (pe_defK0 ["ladder", "kind", "aim", "bars"] [0, 1, 2, 3] (F := D_short_way) (hr.mono (by decide)) (ck_v (ce_var 3) (ck_v (ce_ix (u1 hr) (pd_n 1) (pd_e ce_int)) (ck_v ce_str (ck_v (ce_tup ca_nil) ck_nil)))) (fun _ _ _ _ _ _ _ _ _ us ws hl hk => match us, ws, hl, hk with | [], [_, _, _, _], _, _ => rfl))) (cr_v (ce_callT c_tuple rfl B.b_tuple bt_tuple (pd_e (CO.val (co_slice (pd_n 1) (cp_some ce_int) cp_none)))) cr_nil)) (fun _ _ _ _ _ _ _ _ _ us hl => match us, hl with | [_, _], _ => rfl)))))) (cw_or1 (ct_not (ct_tru (pd_e (ce_def (pe_def (F := D__law_same) (hr.mono (by decide)) (cr_v (ce_def (pe_defK0 ["ladder"] [0] (F := D_longest_needed) (hr.mono (by decide)) (ck_v (ce_var 3) ck_nil) (fun _ _ _ _ _ _ _ _ _ us ws hl hk => match us, ws, hl, hk with | [], [_], _, _ => rfl))) (cr_v (ce_op r_sub (pd_e (ce_callB c_len rfl B.b_len bt_len (pd_n 1))) (pd_e ce_int)) cr_nil)) (fun _ _ _ _ _ _ _ _ _ us hl => match us, hl with | [_, _], _ => rfl)))))))))
  (css_one (cs_ret ce_bl))
  css_nil)
  (css_cons (cs_asg (ce_ix (u1 hr) (pd_n 1) (pd_e (ce_op r_add (pd_e ce_int) (pd_e (ce_def (pe_defD (as := [.o 0, .v (m2 (.e (m1 (.n 1) dLen)) (.e (mC (.int 1))) dSub)]) 2 0 [(.int 0)] D__law_dip (hr.mono (by decide)) (cr_o 0 (cr_v (ce_op r_sub (pd_e (ce_callB c_len rfl B.b_len bt_len (pd_n 1))) (pd_e ce_int)) cr_nil)) (fun _ _ => (.cons .int .nil)) (by decide) rfl (fun _ _ _ _ _ _ _ _ _ _ us its h1 h2 => match us, its, h1, h2 with | [_, _], [_], _, _ => ⟨_, rfl, rfl⟩))))))) (cg_name 4 sc__law_line.nd))
  (css_cons (cs_if (CW.ct (cw_or (ct_cmp r_notB (pd_e (ce_def (pe_defK0 ["ladder", "kind", "aim", "bars"] [0, 1, 2, 3] (F := D_has_way) (hr.mono (by decide)) (ck_v (ce_var 3) (ck_v (ce_ix (u1 hr) (pd_n 1) (pd_e ce_int)) (ck_v ce_str (ck_v (ce_tup (ca_cons (ce_var 4) ca_nil)) ck_nil)))) (fun _ _ _ _ _ _ _ _ _ us ws hl hk => match us, ws, hl, hk with | [], [_, _, _, _], _, _ => rfl)))) (pd_e ce_bl) (by rfl)) (cw_or1 (ct_not (ct_tru (pd_e (ce_def (pe_def (F := D__law_same) (hr.mono (by decide)) (cr_v (ce_def (pe_def (F := D_short_way) (hr.mono (by decide)) (cr_v (ce_var 3) (cr_v (ce_ix (u1 hr) (pd_n 1) (pd_e ce_int)) (cr_v (ce_ix (u1 hr) (pd_n 1) (pd_e (ce_neg (pd_e ce_int)))) (cr_v (ce_if (ct_cmp r_lt (pd_e (ce_ix (u1 hr) (pd_n 1) (pd_e ce_int))) (pd_e (ce_ix (u1 hr) (pd_n 1) (pd_e (ce_neg (pd_e ce_int))))) (by rfl)) (ce_tup (ca_cons (ce_ix (u1 hr) (pd_n 1) (pd_e ce_int)) (ca_cons (ce_ix (u1 hr) (pd_n 1) (pd_e (ce_neg (pd_e ce_int)))) ca_nil))) (ce_tup (ca_cons (ce_ix (u1 hr) (pd_n 1) (pd_e (ce_neg (pd_e ce_int)))) (ca_cons (ce_ix (u1 hr) (pd_n 1) (pd_e ce_int)) ca_nil)))) cr_nil)))) (fun _ _ _ _ _ _ _ _ _ us hl => match us, hl with | [_, _, _, _], _ => rfl))) (cr_v (ce_callT c_tuple rfl B.b_tuple bt_tuple (pd_e (CO.val (co_slice (pd_n 1) (cp_some ce_int) (cp_some (ce_neg (pd_e ce_int))))))) cr_nil)) (fun _ _ _ _ _ _ _ _ _ us hl => match us, hl with | [_, _], _ => rfl)))))))))
  (css_one (cs_ret ce_bl))
  css_nil)
  (css_cons (cs_if (CW.ct (cw_or (ct_not (ct_tru (pd_e (ce_def (pe_def (F := D__law_same) (hr.mono (by decide)) (cr_v (ce_def (pe_def (F := D_must_pass) (hr.mono (by decide)) (cr_v (ce_var 3) (cr_v (ce_ix (u1 hr) (pd_n 1) (pd_e ce_int)) cr_nil)) (fun _ _ _ _ _ _ _ _ _ us hl => match us, hl with | [_, _], _ => rfl))) (cr_v (ce_callT c_tuple rfl B.b_tuple bt_tuple (pd_e (CO.val (co_callB (c_sort rfl (u64 hr)) rfl B.b_sorted bt_sorted (pd_e (CO.val (co_slice (pd_n 1) (cp_some ce_int) cp_none))))))) cr_nil)) (fun _ _ _ _ _ _ _ _ _ us hl => match us, hl with | [_, _], _ => rfl)))))) (cw_or1 (ct_not (ct_tru (pd_e (ce_def (pe_def (F := D__law_same) (hr.mono (by decide)) (cr_v (ce_def (pe_def (F := D_short_way) (hr.mono (by decide)) (cr_v (ce_var 3) (cr_v (ce_ix (u1 hr) (pd_n 1) (pd_e (ce_neg (pd_e ce_int)))) (cr_v (ce_ix (u1 hr) (pd_n 1) (pd_e ce_int)) (cr_v (ce_tup ca_nil) cr_nil)))) (fun _ _ _ _ _ _ _ _ _ us hl => match us, hl with | [_, _, _, _], _ => rfl))) (cr_v ce_non cr_nil)) (fun _ _ _ _ _ _ _ _ _ us hl => match us, hl with | [_, _], _ => rfl)))))))))
  (css_one (cs_ret ce_bl))
  css_nil)
  (css_cons (cs_asg (ce_def (pe_def (F := D__law_words) (hr.mono (by decide)) (cr_o 0 (cr_v ce_int cr_nil)) (fun _ _ _ _ _ _ _ _ _ us hl => match us, hl with | [_, _], _ => rfl))) (cg_tup rfl (cgs_cons (cg_name 5 sc__law_line.nd) (cgs_cons (cg_name 6 sc__law_line.nd) (cgs_cons (cg_name 7 sc__law_line.nd) (cgs_cons (cg_name 8 sc__law_line.nd) cgs_nil))))))
  (css_cons (cs_par 9 10 rfl sc__law_line.nd (ca_cons (ce_callA (c_min2 rfl) rfl B.b_min bt_min (ca_cons (ce_var 6) (ca_cons (ce_var 7) ca_nil))) (ca_cons (ce_callA (c_max2 rfl) rfl B.b_max bt_max (ca_cons (ce_var 6) (ca_cons (ce_var 7) ca_nil))) ca_nil)))
  (css_cons (cs_asg (ce_callT c_tuple rfl B.b_tuple bt_tuple (pd_e (CO.val (co_callB (c_sort rfl (u64 hr)) rfl B.b_sorted bt_sorted (pd_e (CO.val (co_lst (ca_cons (ce_tup (ca_cons (ce_var 5) (ca_cons (ce_callT c_tuple rfl B.b_tuple bt_tuple (pd_e (CO.val (co_callB (c_sort rfl (u64 hr)) rfl B.b_sorted bt_sorted (pd_e (CO.val (co_lst (ca_cons (ce_var 6) (ca_cons (ce_var 7) ca_nil))))))))) ca_nil))) (ca_cons (ce_tup (ca_cons (ce_var 6) (ca_cons (ce_tup (ca_cons (ce_var 8) ca_nil)) ca_nil))) (ca_cons (ce_tup (ca_cons (ce_var 7) (ca_cons (ce_tup (ca_cons (ce_var 8) ca_nil)) ca_nil))) (ca_cons (ce_tup (ca_cons (ce_var 8) (ca_cons (ce_tup (ca_cons ce_str ca_nil)) ca_nil))) ca_nil))))))))))) (cg_name 11 sc__law_line.nd))
  (css_cons (cs_if (CW.ct (cw_or (ct_not (ct_tru (pd_e (ce_def (pe_def (F := D__law_same) (hr.mono (by decide)) (cr_v (ce_def (pe_def (F := D_short_way) (hr.mono (by decide)) (cr_v (ce_var 11) (cr_v (ce_var 5) (cr_v ce_str (cr_v (ce_tup ca_nil) cr_nil)))) (fun _ _ _ _ _ _ _ _ _ us hl => match us, hl with | [_, _, _, _], _ => rfl))) (cr_v (ce_tup (ca_cons (ce_var 9) (ca_cons (ce_var 8) ca_nil))) cr_nil)) (fun _ _ _ _ _ _ _ _ _ us hl => match us, hl with | [_, _], _ => rfl)))))) (cw_or1 (ct_not (ct_tru (pd_e (ce_def (pe_def (F := D__law_same) (hr.mono (by decide)) (cr_v (ce_def (pe_def (F := D_short_way) (hr.mono (by decide)) (cr_v (ce_var 11) (cr_v (ce_var 5) (cr_v ce_str (cr_v (ce_tup (ca_cons (ce_var 9) ca_nil)) cr_nil)))) (fun _ _ _ _ _ _ _ _ _ us hl => match us, hl with | [_, _, _, _], _ => rfl))) (cr_v (ce_tup (ca_cons (ce_var 10) (ca_cons (ce_var 8) ca_nil))) cr_nil)) (fun _ _ _ _ _ _ _ _ _ us hl => match us, hl with | [_, _], _ => rfl)))))))))
  (css_one (cs_ret ce_bl))
  css_nil)
  (css_one (cs_ret (ce_and (ce_def (pe_def (F := D__law_same) (hr.mono (by decide)) (cr_v (ce_def (pe_def (F := D_must_pass) (hr.mono (by decide)) (cr_v (ce_var 11) (cr_v (ce_var 5) cr_nil)) (fun _ _ _ _ _ _ _ _ _ us hl => match us, hl with | [_, _], _ => rfl))) (cr_v (ce_tup (ca_cons (ce_var 8) ca_nil)) cr_nil)) (fun _ _ _ _ _ _ _ _ _ us hl => match us, hl with | [_, _], _ => rfl))) (ce_and (ce_cmp r_isB (pd_e (ce_def (pe_def (F := D_has_way) (hr.mono (by decide)) (cr_v (ce_var 11) (cr_v (ce_var 5) (cr_v (ce_var 8) (cr_v (ce_callT c_tuple rfl B.b_tuple bt_tuple (pd_e (CO.val (co_callB (c_sort rfl (u64 hr)) rfl B.b_sorted bt_sorted (pd_e (CO.val (co_lst (ca_cons (ce_var 6) (ca_cons (ce_var 7) ca_nil))))))))) cr_nil)))) (fun _ _ _ _ _ _ _ _ _ us hl => match us, hl with | [_, _, _, _], _ => rfl)))) (pd_e ce_bl) (by rfl)) (ce_one (ce_cmp r_isB (pd_e (ce_def (pe_def (F := D_has_way) (hr.mono (by decide)) (cr_v (ce_var 11) (cr_v (ce_var 8) (cr_v (ce_var 8) (cr_v (ce_tup ca_nil) cr_nil)))) (fun _ _ _ _ _ _ _ _ _ us hl => match us, hl with | [_, _, _, _], _ => rfl)))) (pd_e ce_bl) (by rfl))))))))))))))))))), F, g⟩
theorem sc_law : FnScope ["script", "fount", "turn", "ladder", "names", "lap", "kind", "aim", "odds", "bars", "name", "bosses"] ["script"] (defScope st_law) := ⟨rfl, rfl, rfl, by decide +kernel, rfl, by decide +kernel, by decide +kernel⟩
theorem fn_law {f : Addr} {fd : FuncData} (B : Bt mg) (F : FunD K "law" "law" (defArgs st_law) (defBody st_law) (defScope st_law) [] [] f fd) (D__law_asked : Df P w K mg base 4 "_law_asked" 4 f__law_asked (defArgs st__law_asked) ["ladder", "kind", "aim", "bars"]) (D__law_dip : DfD P w K mg base 1 "_law_dip" 3 f__law_dip (defArgs st__law_dip) ["fount", "many", "spot"] [(V.int 0)]) (D__law_fount : Df P w K mg base 1 "_law_fount" 1 f__law_fount (defArgs st__law_fount) ["script"]) (D__law_ladder : Df P w K mg base 3 "_law_ladder" 2 f__law_ladder (defArgs st__law_ladder) ["fount", "most"]) (D__law_line : Df P w K mg base 5 "_law_line" 1 f__law_line (defArgs st__law_line) ["fount"]) (D__law_looked : Df P w K mg base 5 "_law_looked" 1 f__law_looked (defArgs st__law_looked) ["ladder"]) :
    FnOk P w K mg base CX0 6 f fd ["script"] (spM K 1 f_law) :=
  fnM (k := 5) (m := m_law) F sc_law (fun cdv A outer s H E hr => (css_cons (cs_setO 1 sc_law.nd (co_def (pe_def (F := D__law_fount) (hr.mono (by decide)) (cr_v (ce_var 0) cr_nil) (fun _ _ _ _ _ _ _ _ _ us hl => match us, hl with | [_], _ => rfl))))
  (css_cons (cs_for PassesOwn.never rfl (ci_rng1 rfl B.b_range (ca_cons ce_int ca_nil)) (cg_name 2 sc_law.nd)
  (css_cons (cs_asg (ce_def (pe_def (F := D__law_ladder) (hr.mono (by decide)) (cr_o 1 (cr_v ce_int cr_nil)) (fun _ _ _ _ _ _ _ _ _ us hl => match us, hl with | [_, _], _ => rfl))) (cg_name 3 sc_law.nd))
  (css_cons (cs_setLc 4 rfl sc_law.nd (ci_val (ce_var 3)) (blkOk_by (own := [("name", 10), ("bosses", 11)]) (by rfl)) (fun _ _ _ _ _ => (cg_tup rfl (cgs_cons (cg_name 10 sc_law.nd) (cgs_cons (cg_name 11 sc_law.nd) cgs_nil)))) (fun _ _ _ _ _ => cts_nil) (fun _ _ _ _ _ => (ce_var 10)))
  (css_cons (cs_if (ct_not (ct_tru (pd_e (ce_def (pe_def (F := D__law_looked) (hr.mono (by decide)) (cr_v (ce_var 3) cr_nil) (fun _ _ _ _ _ _ _ _ _ us hl => match us, hl with | [_], _ => rfl))))))
  (css_one (cs_ret ce_bl))
  css_nil)
  (css_one (cs_for PassesOwn.never rfl (ci_rng1 rfl B.b_range (ca_cons ce_int ca_nil)) (cg_name 5 sc_law.nd)
  (css_cons (cs_asg (ce_ix (u1 hr) (pd_n 4) (pd_e (ce_def (pe_defD (as := [.o 1, .v (m1 (.n 4) dLen)]) 2 0 [(.int 0)] D__law_dip (hr.mono (by decide)) (cr_o 1 (cr_v (ce_callB c_len rfl B.b_len bt_len (pd_n 4)) cr_nil)) (fun _ _ => (.cons .int .nil)) (by decide) rfl (fun _ _ _ _ _ _ _ _ _ _ us its h1 h2 => match us, its, h1, h2 with | [_, _], [_], _, _ => ⟨_, rfl, rfl⟩))))) (cg_name 6 sc_law.nd))
  (css_cons (cs_asg (ce_ix (u1 hr) (pd_e (CO.val (co_op r_cat (pd_n 4) (pd_e (CO.val (co_lst (ca_cons ce_str (ca_cons ce_str ca_nil)))))))) (pd_e (ce_def (pe_defD (as := [.o 1, .v (m2 (.e (m1 (.n 4) dLen)) (.e (mC (.int 2))) dAdd)]) 2 0 [(.int 0)] D__law_dip (hr.mono (by decide)) (cr_o 1 (cr_v (ce_op r_add (pd_e (ce_callB c_len rfl B.b_len bt_len (pd_n 4))) (pd_e ce_int)) cr_nil)) (fun _ _ => (.cons .int .nil)) (by decide) rfl (fun _ _ _ _ _ _ _ _ _ _ us its h1 h2 => match us, its, h1, h2 with | [_, _], [_], _, _ => ⟨_, rfl, rfl⟩))))) (cg_name 7 sc_law.nd))
  (css_cons (cs_asg (ce_op r_add (pd_e ce_int) (pd_e (ce_def (pe_defD (as := [.o 1, .v (mC (.int 4))]) 2 0 [(.int 0)] D__law_dip (hr.mono (by decide)) (cr_o 1 (cr_v ce_int cr_nil)) (fun _ _ => (.cons .int .nil)) (by decide) rfl (fun _ _ _ _ _ _ _ _ _ _ us its h1 h2 => match us, its, h1, h2 with | [_, _], [_], _, _ => ⟨_, rfl, rfl⟩))))) (cg_name 8 sc_law.nd))
  (css_cons (cs_asg (ce_callT c_tuple rfl B.b_tuple bt_tuple (pd_e (CO.val (co_lc rfl sc_law.nd (ci_val (ce_var 4)) (blkOk_by (own := [("name", 10)]) (by rfl)) (fun _ _ _ _ _ => (cg_name 10 sc_law.nd)) (fun _ _ _ _ _ => (cts_one (ct_cmp (r_eq (u64 hr)) (pd_e (ce_def (pe_defD (as := [.o 1, .v (m2 (.n 8) (.e (mC (.int 1))) dAdd)]) 2 0 [(.int 0)] D__law_dip (hr.mono (by decide)) (cr_o 1 (cr_v (ce_op r_add (pd_n 8) (pd_e ce_int)) cr_nil)) (fun _ _ => (.cons .int .nil)) (by decide) rfl (fun _ _ _ _ _ _ _ _ _ _ us its h1 h2 => match us, its, h1, h2 with | [_, _], [_], _, _ => ⟨_, rfl, rfl⟩)))) (pd_e ce_int) (by rfl)))) (fun _ _ _ _ _ => (ce_var 10)))))) (cg_name 9 sc_law.nd))
  (css_one (cs_if (ct_not (ct_tru (pd_e (ce_def (pe_def (F := D__law_asked) (hr.mono (by decide)) (cr_v (ce_var 3) (cr_v (ce_var 6) (cr_v (ce_var 7) (cr_v (ce_var 9) cr_nil)))) (fun _ _ _ _ _ _ _ _ _ us hl => match us, hl with | [_, _, _, _], _ => rfl))))))
  (css_one (cs_ret ce_bl))
  css_nil))))))))))))
  (css_one (cs_ret (ce_def (pe_def (F := D__law_line) (hr.mono (by decide)) (cr_o 1 cr_nil) (fun _ _ _ _ _ _ _ _ _ us hl => match us, hl with | [_], _ => rfl))))))))
end
/-! ### the head -/
def d_next_layers : He.DefD := ⟨("next_layers", none), "next_layers", "next_layers", defArgs st_next_layers, defBody st_next_layers, defScope st_next_layers, [], []⟩
def d_short_way : He.DefD := ⟨("short_way", none), "short_way", "short_way", defArgs st_short_way, defBody st_short_way, defScope st_short_way, [], []⟩
def d_has_way : He.DefD := ⟨("has_way", none), "has_way", "has_way", defArgs st_has_way, defBody st_has_way, defScope st_has_way, [], []⟩
def d_longest_needed : He.DefD := ⟨("longest_needed", none), "longest_needed", "longest_needed", defArgs st_longest_needed, defBody st_longest_needed, defScope st_longest_needed, [], []⟩
def d_must_pass : He.DefD := ⟨("must_pass", none), "must_pass", "must_pass", defArgs st_must_pass, defBody st_must_pass, defScope st_must_pass, [], []⟩
def d__law_fount : He.DefD := ⟨("_law_fount", none), "_law_fount", "_law_fount", defArgs st__law_fount, defBody st__law_fount, defScope st__law_fount, [], []⟩
def d__law_dip : He.DefD := ⟨("_law_dip", none), "_law_dip", "_law_dip", defArgs st__law_dip, defBody st__law_dip, defScope st__law_dip, [.int 0], []⟩
def d__law_stirred : He.DefD := ⟨("_law_stirred", none), "_law_stirred", "_law_stirred", defArgs st__law_stirred, defBody st__law_stirred, defScope st__law_stirred, [], []⟩
def d__law_same : He.DefD := ⟨("_law_same", none), "_law_same", "_law_same", defArgs st__law_same, defBody st__law_same, defScope st__law_same, [], []⟩
def d__law_words : He.DefD := ⟨("_law_words", none), "_law_words", "_law_words", defArgs st__law_words, defBody st__law_words, defScope st__law_words, [], []⟩
def d__law_ladder : He.DefD := ⟨("_law_ladder", none), "_law_ladder", "_law_ladder", defArgs st__law_ladder, defBody st__law_ladder, defScope st__law_ladder, [], []⟩
def d__law_way : He.DefD := ⟨("_law_way", none), "_law_way", "_law_way", defArgs st__law_way, defBody st__law_way, defScope st__law_way, [], []⟩
def d__law_asked : He.DefD := ⟨("_law_asked", none), "_law_asked", "_law_asked", defArgs st__law_asked, defBody st__law_asked, defScope st__law_asked, [], []⟩
def d__law_looked : He.DefD := ⟨("_law_looked", none), "_law_looked", "_law_looked", defArgs st__law_looked, defBody st__law_looked, defScope st__law_looked, [], []⟩
def d__law_line : He.DefD := ⟨("_law_line", none), "_law_line", "_law_line", defArgs st__law_line, defBody st__law_line, defScope st__law_line, [], []⟩
def d_law : He.DefD := ⟨("law", none), "law", "law", defArgs st_law, defBody st_law, defScope st_law, [], []⟩
def fn : List He.DefD := [d_next_layers, d_short_way, d_has_way, d_longest_needed, d_must_pass, d__law_fount, d__law_dip, d__law_stirred, d__law_same, d__law_words, d__law_ladder, d__law_way, d__law_asked, d__law_looked, d__law_line, d_law]
def fa : List He.Fa := [.glo "next_layers", .glo "short_way", .glo "has_way", .glo "longest_needed", .glo "must_pass", .glo "_law_fount", .glo "_law_dip", .glo "_law_stirred", .glo "_law_same", .glo "_law_words", .glo "_law_ladder", .glo "_law_way", .glo "_law_asked", .glo "_law_looked", .glo "_law_line", .glo "law", .free "abs", .free "bool", .free "dict", .free "int", .free "isinstance", .free "len", .free "list", .free "max", .free "min", .free "range", .free "sorted", .free "str", .free "tuple"]
abbrev R : PySem.W.OpenRow := PySem.W.OpenLaw.row PySem.Challenge.rw_whoeversigns_k01_ways
def tf : List He.Defn := lamNames.map fun x => (x, none)
def apB (K : PySem.W.Frag) : Bool := lamNames.all fun x => lamNames.all fun y => decide ((He.cT K (x, none)).2 = (He.cT K (y, none)).2 → x = y)
abbrev hk : PySem.W.Hook := He.hookX 4 fa fn [] tf apB
def ob (s : PySem.W.SharedT) : He.AlX := He.obsX 4 fa fn [] tf apB (HandSHeadRun.getT s)
theorem ob_eq (s : PySem.W.SharedT) : ob s = hk.obs s.abs := He.obsX_eq (HandSHeadRun.getT_eq s)
theorem ap_of {K : PySem.W.Frag} (h : apB K = true) : TabsApart K := fun x hx y hy => of_decide_eq_true (List.all_eq_true.mp (List.all_eq_true.mp h x hx) y hy)
theorem tf_mem {x : Str} (h : x ∈ lamNames) : ((x, none) : He.Defn) ∈ tf := List.mem_map_of_mem h
def loose : List PySem.Str := ["next_layers", "short_way", "has_way", "longest_needed", "must_pass", "_law_fount", "_law_dip", "_law_stirred", "_law_same", "_law_words", "_law_ladder", "_law_way", "_law_asked", "_law_looked", "_law_line"]
theorem run (w : World) : HandSHeadRun.RunEq R (PySem.W.view R.prog [18]) hk ob 1340 loose w := by
  intro os
  kernel_rfl
theorem facts {P : Program} {w : World} {K : PySem.W.Frag} {h : Heap} {mg : Str → Option Value} {f : Addr} (X : K.In h) (G : h.Ns mainGlobals mg) (hfa : mg ("law" : Str) = some (.ref f)) (c : He.SaysD fa fn K) (ap : TabsApart K) :
    ∃ fd : FuncData, (∀ (s : Shared) (v : Value), BindsTo s fd ⟨[v], []⟩ [("script", v)]) ∧ ∀ base : Heap, K.In base → base.Ns mainGlobals mg → (∀ x ∈ lamNames, LamX.TabB base mg (He.cT K (x, none)).1 (He.cT K (x, none)).2) → FnOk P w K mg base CX0 6 f fd ["script"] (spM K 1 f_law) := by
  have B : Bt mg := ⟨He.free_ok X G (c.fact 16 (f := .free "abs") rfl), He.free_ok X G (c.fact 17 (f := .free "bool") rfl), He.free_ok X G (c.fact 18 (f := .free "dict") rfl), He.free_ok X G (c.fact 19 (f := .free "int") rfl), He.free_ok X G (c.fact 20 (f := .free "isinstance") rfl), He.free_ok X G (c.fact 21 (f := .free "len") rfl), He.free_ok X G (c.fact 22 (f := .free "list") rfl), He.free_ok X G (c.fact 23 (f := .free "max") rfl), He.free_ok X G (c.fact 24 (f := .free "min") rfl), He.free_ok X G (c.fact 25 (f := .free "range") rfl), He.free_ok X G (c.fact 26 (f := .free "sorted") rfl), He.free_ok X G (c.fact 27 (f := .free "str") rfl), He.free_ok X G (c.fact 28 (f := .free "tuple") rfl)⟩
  obtain ⟨fd_next_layers, F_next_layers⟩ := c.def_ 0 (d := d_next_layers) rfl
  obtain ⟨fd_short_way, F_short_way⟩ := c.def_ 1 (d := d_short_way) rfl
  obtain ⟨fd_has_way, F_has_way⟩ := c.def_ 2 (d := d_has_way) rfl
  obtain ⟨fd_longest_needed, F_longest_needed⟩ := c.def_ 3 (d := d_longest_needed) rfl
  obtain ⟨fd_must_pass, F_must_pass⟩ := c.def_ 4 (d := d_must_pass) rfl
  obtain ⟨fd__law_fount, F__law_fount⟩ := c.def_ 5 (d := d__law_fount) rfl
  obtain ⟨fd__law_dip, F__law_dip⟩ := c.def_ 6 (d := d__law_dip) rfl
  obtain ⟨fd__law_stirred, F__law_stirred⟩ := c.def_ 7 (d := d__law_stirred) rfl
  obtain ⟨fd__law_same, F__law_same⟩ := c.def_ 8 (d := d__law_same) rfl
  obtain ⟨fd__law_words, F__law_words⟩ := c.def_ 9 (d := d__law_words) rfl
  obtain ⟨fd__law_ladder, F__law_ladder⟩ := c.def_ 10 (d := d__law_ladder) rfl
  obtain ⟨fd__law_way, F__law_way⟩ := c.def_ 11 (d := d__law_way) rfl
  obtain ⟨fd__law_asked, F__law_asked⟩ := c.def_ 12 (d := d__law_asked) rfl
  obtain ⟨fd__law_looked, F__law_looked⟩ := c.def_ 13 (d := d__law_looked) rfl
  obtain ⟨fd__law_line, F__law_line⟩ := c.def_ 14 (d := d__law_line) rfl
  obtain ⟨fd_law, F_law⟩ := c.def_ 15 (d := d_law) rfl
  have e := hfa.symm.trans (He.glo_ok X G (c.fact 15 (f := .glo "law") rfl))
  cases e
  have b := FunD.bindsA (ps := ["script"]) F_law fun _ _ _ _ _ _ us hl => match us, hl with | [_], _ => rfl
  refine ⟨fd_law, fun s v => b s [v] rfl, fun base _ _ TB => ?_⟩
  have D_next_layers := df_next_layers (P := P) (w := w) (base := base) B F_next_layers (He.glo_ok X G (c.fact 0 (f := .glo "next_layers") rfl)) 
  have D_short_way := df_short_way (P := P) (w := w) (base := base) B F_short_way (He.glo_ok X G (c.fact 1 (f := .glo "short_way") rfl)) rfl ap (TB _ (by simp [lamNames])) D_next_layers
  have D_has_way := df_has_way (P := P) (w := w) (base := base) B F_has_way (He.glo_ok X G (c.fact 2 (f := .glo "has_way") rfl)) D_short_way
  have D_longest_needed := df_longest_needed (P := P) (w := w) (base := base) B F_longest_needed (He.glo_ok X G (c.fact 3 (f := .glo "longest_needed") rfl)) D_short_way
  have D_must_pass := df_must_pass (P := P) (w := w) (base := base) B F_must_pass (He.glo_ok X G (c.fact 4 (f := .glo "must_pass") rfl)) D_has_way
  have D__law_fount := df__law_fount (P := P) (w := w) (base := base) B F__law_fount (He.glo_ok X G (c.fact 5 (f := .glo "_law_fount") rfl)) 
  have D__law_dip := df__law_dip (P := P) (w := w) (base := base) B F__law_dip (He.glo_ok X G (c.fact 6 (f := .glo "_law_dip") rfl)) 
  have D__law_stirred := df__law_stirred (P := P) (w := w) (base := base) B F__law_stirred (He.glo_ok X G (c.fact 7 (f := .glo "_law_stirred") rfl)) D__law_dip
  have D__law_same := df__law_same (P := P) (w := w) (base := base) B F__law_same (He.glo_ok X G (c.fact 8 (f := .glo "_law_same") rfl)) 
  have D__law_words := df__law_words (P := P) (w := w) (base := base) B F__law_words (He.glo_ok X G (c.fact 9 (f := .glo "_law_words") rfl)) D__law_dip
  have D__law_ladder := df__law_ladder (P := P) (w := w) (base := base) B F__law_ladder (He.glo_ok X G (c.fact 10 (f := .glo "_law_ladder") rfl)) D__law_dip D__law_stirred D__law_words
  have D__law_way := df__law_way (P := P) (w := w) (base := base) B F__law_way (He.glo_ok X G (c.fact 11 (f := .glo "_law_way") rfl)) 
  have D__law_asked := df__law_asked (P := P) (w := w) (base := base) B F__law_asked (He.glo_ok X G (c.fact 12 (f := .glo "_law_asked") rfl)) D__law_same D__law_way D_has_way D_short_way
  have D__law_looked := df__law_looked (P := P) (w := w) (base := base) B F__law_looked (He.glo_ok X G (c.fact 13 (f := .glo "_law_looked") rfl)) D__law_same D__law_way D_longest_needed D_must_pass
  have D__law_line := df__law_line (P := P) (w := w) (base := base) B F__law_line (He.glo_ok X G (c.fact 14 (f := .glo "_law_line") rfl)) D__law_dip D__law_same D__law_words D_has_way D_longest_needed D_must_pass D_short_way
  exact fn_law B F_law D__law_asked D__law_dip D__law_fount D__law_ladder D__law_line D__law_looked
theorem sp_law {K : PySem.W.Frag} {H : Hp} {a : Addr} {ns : List Int} {Q : VK} {E : XK} (hl : ns.length ≤ 63) (hJ : JK K H) (hS : SqL K H a (ns.map V.int)) (q : ∀ H', Q (.bl true) H') : spM K 1 f_law [.ref a] H Q E := by
  have rin : ∀ (X : AP) (ns : List Int), RpL K X H (ns.map D.int) (ns.map V.int) := fun X ns => by
    induction ns with
    | nil => exact .nil
    | cons n ns ih => exact .cons .int ih
  refine ⟨rfl, fun _ => False, none, [.va (.scr (ns.map .int))], .va (.bl true), none, ⟨rfl, fun i d h => ?_, fun i o h => ?_, fun i o h => ?_, fun i j o o' h _ => ?_, fun a h => by cases h⟩, fun _ h => h.elim, hJ, law_ok ns hl, fun H' v _ _ rv _ => ?_⟩
  · cases i with
    | zero =>
      have h : Sl.va (.scr (ns.map .int)) = .va d := by simpa using h
      cases h
      refine ⟨.ref a, rfl, ?_⟩
      unfold Rp
      refine ⟨a, ns.map V.int, rfl, ?_, rin _ ns⟩
      rcases hS with hS | hS
      · exact .inl ⟨hS, fun z => z.elim id fun z => by cases z⟩
      · exact .inr (.inr hS)
    | succ i => simp at h
  · cases i with
    | zero => simp at h
    | succ i => simp at h
  · cases i with
    | zero => simp at h
    | succ i => simp at h
  · cases i with
    | zero => simp at h
    | succ i => simp at h
  · rw [rv.bo.bl]
    exact q H'
end DL
open PySem PySem.W PySem.Calls PyProof.Rows
theorem PySem.Challenge.cw_whoeversigns_k01_ways_holds : PySem.Challenge.rw_whoeversigns_k01_ways.Holds := by
  w_on; o_law
  refine HandSHeadRun.head_any (r := OpenLaw.row PySem.Challenge.rw_whoeversigns_k01_ways) (q := view (OpenLaw.row PySem.Challenge.rw_whoeversigns_k01_ways).prog [18]) (H := DL.hk) (ob := DL.ob) (M := 1340) (loose := DL.loose) (d := HandSHeadRun.topDef (OpenLaw.row PySem.Challenge.rw_whoeversigns_k01_ways).prog 18) (kwd := []) DL.ob_eq
    (by kernel_rfl) (fun s => by kernel_rfl) DL.run (by kernel_rfl) (by kernel_rfl) (by kernel_rfl) (by rfl) (by first | assumption | decide +kernel) (by decide +kernel) ⟨rfl, rfl, rfl, rfl, rfl, by decide +kernel⟩ ?hw ?hc
  case hw => w_witness2
  case hc =>
    refine LamX.walk_ofTsE (l := PySem.Challenge.rw_whoeversigns_k01_ways) (n := 63) (k := 6) (x := "script") (CX := fun _ => L2.CX0) rfl (by decide) (by kernel_rfl) ⟨rfl, by decide, by decide⟩ ?F (fun _ _ _ _ _ z => z)
    intro w mg fa h Y G hmg0
    obtain ⟨K, KX, c⟩ := Y
    have hmg : mg ("law" : PySem.Str) = some (.ref fa) := by
      have e : (HandSHeadRun.topDef (OpenLaw.row PySem.Challenge.rw_whoeversigns_k01_ways).prog 18).name = ("law" : PySem.Str) := by kernel_rfl
      rw [← e]
      exact hmg0
    obtain ⟨fd, hb, hF⟩ := DL.facts (P := (PySem.Challenge.rw_whoeversigns_k01_ways).prog) (w := w) KX G hmg c.t.d (DL.ap_of c.more)
    refine ⟨K, KX, fd, DL.tf.map (He.cT K), DL.spM K 1 DL.f_law, fun p hp => ?_, fun p hp => ?_, fun p hp => ?_, hb, fun H a ns hl _ hT hS => DL.sp_law hl (DL.jk_of fun x hx => hT _ (List.mem_map_of_mem (DL.tf_mem hx))) hS fun _ => rfl, fun base kb gb TB => hF base kb gb fun x hx => TB _ (List.mem_map_of_mem (DL.tf_mem hx))⟩
    · obtain ⟨q, hq, rfl⟩ := List.mem_map.mp hp
      exact c.empty q hq
    · obtain ⟨q, hq, rfl⟩ := List.mem_map.mp hp
      exact c.out q hq
    · obtain ⟨q, hq, rfl⟩ := List.mem_map.mp hp
      exact PySem.W.codeHd_of_K KX (c.hd q hq)

