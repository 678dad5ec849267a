import PyProof.Rows.All
import Wide.All
import OpenK.AllK
import Wide.FinOn
import HandS.ForMost
import HandS.ForExc
import HandS.HeadHook2
import HandS.IsInst
import HandS.Wide
import HandS.CallSlots
import HandS.OwnEq
import PyProof.InstNe
import HandS.Style
import HandS.NoneIn
import HandS.TupAny
import HandS.FStr
import HandS.RaiseMore
import HandS.StrMore
import HandS.ExcInit
import HandS.ExcField
import HandS.TryMany
import PyProof.CallStr
import PyProof.Rows.Range3
import HandS.Ends
import HandS.Words
import HandS.Head2
import HandS.HeadEnd
import HandS.Zip
import KE.GoesMore
import HandS.Zip0
import HandS.Iter
import PyProof.EnumMake
import HandS.Text
import PyProof.FitsInt
import PySem.Challenge.RW_rootsheld_k00_whole_integers_and_ratios
set_option Elab.async false
set_option linter.all false
set_option maxRecDepth 100000
set_option maxHeartbeats 4000000
/-! DL1: data, how it lies in the abstract heap, environments, outcomes. -/
namespace DL
open PySem PySem.Spec PyProof.Rows L2

/-- a value with all that it holds -/
inductive D where
  | non | bl (b : Bool) | int (i : Int) | str (x : Str) | tup (ds : List D) | lst (ds : List D)
  | obj (c : Str) (fs : List (Str × D)) | glo (x : Str) | ty (n : String)
  /-- the law's own list -/
  | scr (ds : List D)

mutual
/-- the value v of the heap H stands for the data d -/
inductive At (K : PySem.W.Frag) (H : Hp) : V → D → Prop where
  | non : At K H .non .non
  | bl (b : Bool) : At K H (.bl b) (.bl b)
  | int (i : Int) : At K H (.int i) (.int i)
  | str (x : Str) : At K H (.str x) (.str x)
  | ty (n : String) : At K H (.ty n) (.ty n)
  | glo (x : Str) : At K H (.ref (He.ga K x)) (.glo x)
  | tup {a : Addr} {vs : List V} {ds : List D} : SqT K H a vs → Ats K H vs ds → At K H (.ref a) (.tup ds)
  | lst {a : Addr} {vs : List V} {ds : List D} : H a = some (.lst vs) → Ats K H vs ds → At K H (.ref a) (.lst ds)
  | scr {a : Addr} {vs : List V} {ds : List D} : SqL K H a vs → Ats K H vs ds → At K H (.ref a) (.scr ds)
  | obj {a dx : Addr} {c : Str} {fs : List (Str × V)} {ds : List (Str × D)} : H a = some (.ins (He.ga K c) dx fs) → AtF K H fs ds → At K H (.ref a) (.obj c ds)
inductive Ats (K : PySem.W.Frag) (H : Hp) : List V → List D → Prop where
  | nil : Ats K H [] []
  | cons {v : V} {d : D} {vs : List V} {ds : List D} : At K H v d → Ats K H vs ds → Ats K H (v :: vs) (d :: ds)
inductive AtF (K : PySem.W.Frag) (H : Hp) : List (Str × V) → List (Str × D) → Prop where
  | nil : AtF K H [] []
  | cons {f : Str} {v : V} {d : D} {vs : List (Str × V)} {ds : List (Str × D)} : At K H v d → AtF K H vs ds → AtF K H ((f, v) :: vs) ((f, d) :: ds)
end

theorem same_seqT {K : PySem.W.Frag} {H H' : Hp} {a : Addr} {xs : List V} (e : Same H H') (h : SqT K H a xs) : SqT K H' a xs := by
  rcases h with (h | ⟨o, h⟩) | h
  · exact .inl (.inl (e _ _ h))
  · exact .inl (.inr ⟨o, e _ _ h⟩)
  · exact .inr h

section
variable {K : PySem.W.Frag} {H H' : Hp}
mutual
theorem At.mono (e : Same H H') : ∀ {v : V} {d : D}, At K H v d → At K H' v d
  | _, _, .non => .non
  | _, _, .bl b => .bl b
  | _, _, .int i => .int i
  | _, _, .str x => .str x
  | _, _, .ty n => .ty n
  | _, _, .glo x => .glo x
  | _, _, .tup h t => .tup (same_seqT e h) (Ats.mono e t)
  | _, _, .lst h t => .lst (e _ _ h) (Ats.mono e t)
  | _, _, .scr h t => .scr (e.seq h) (Ats.mono e t)
  | _, _, .obj h t => .obj (e _ _ h) (AtF.mono e t)
theorem Ats.mono (e : Same H H') : ∀ {vs : List V} {ds : List D}, Ats K H vs ds → Ats K H' vs ds
  | _, _, .nil => .nil
  | _, _, .cons h t => .cons (At.mono e h) (Ats.mono e t)
theorem AtF.mono (e : Same H H') : ∀ {vs : List (Str × V)} {ds : List (Str × D)}, AtF K H vs ds → AtF K H' vs ds
  | _, _, .nil => .nil
  | _, _, .cons h t => .cons (At.mono e h) (AtF.mono e t)
end
theorem Ats.length : ∀ {vs : List V} {ds : List D}, Ats K H vs ds → vs.length = ds.length
  | _, _, .nil => rfl
  | _, _, .cons _ t => congrArg Nat.succ (Ats.length t)
theorem Ats.get : ∀ {vs : List V} {ds : List D} {i : Nat} {d : D}, Ats K H vs ds → ds[i]? = some d → ∃ v, vs[i]? = some v ∧ At K H v d
  | _, _, _, _, .nil, e => by simp at e
  | _, _, 0, _, .cons h _, e => by simp at e; subst e; exact ⟨_, rfl, h⟩
  | _, _, i + 1, d, .cons _ t, e => by
    obtain ⟨v, h1, h2⟩ := Ats.get (i := i) t (by simpa using e)
    exact ⟨v, by simpa using h1, h2⟩
theorem Ats.getV : ∀ {vs : List V} {ds : List D} {i : Nat} {v : V}, Ats K H vs ds → vs[i]? = some v → ∃ d, ds[i]? = some d ∧ At K H v d
  | _, _, _, _, .nil, e => by simp at e
  | _, _, 0, _, .cons h _, e => by simp at e; subst e; exact ⟨_, rfl, h⟩
  | _, _, i + 1, d, .cons _ t, e => by
    obtain ⟨v, h1, h2⟩ := Ats.getV (i := i) t (by simpa using e)
    exact ⟨v, by simpa using h1, h2⟩
theorem Ats.append : ∀ {vs ws : List V} {ds es : List D}, Ats K H vs ds → Ats K H ws es → Ats K H (vs ++ ws) (ds ++ es)
  | _, _, _, _, .nil, s => s
  | _, _, _, _, .cons h t, s => .cons h (Ats.append t s)
theorem Ats.set : ∀ {vs : List V} {ds : List D} (i : Nat) {v : V} {d : D}, Ats K H vs ds → At K H v d → Ats K H (vs.set i v) (ds.set i d)
  | _, _, _, _, _, .nil, _ => .nil
  | _, _, 0, _, _, .cons _ t, h => .cons h t
  | _, _, i + 1, _, _, .cons q t, h => .cons q (Ats.set i t h)
theorem Ats.take : ∀ {vs : List V} {ds : List D} (n : Nat), Ats K H vs ds → Ats K H (vs.take n) (ds.take n)
  | _, _, 0, _ => by simp; exact .nil
  | _, _, _ + 1, .nil => .nil
  | _, _, n + 1, .cons h t => .cons h (Ats.take n t)
theorem Ats.drop : ∀ {vs : List V} {ds : List D} (n : Nat), Ats K H vs ds → Ats K H (vs.drop n) (ds.drop n)
  | _, _, 0, h => h
  | _, _, _ + 1, .nil => .nil
  | _, _, n + 1, .cons _ t => Ats.drop n t
theorem Ats.reverse : ∀ {vs : List V} {ds : List D}, Ats K H vs ds → Ats K H vs.reverse ds.reverse
  | _, _, .nil => .nil
  | _, _, .cons h t => by
    rw [List.reverse_cons, List.reverse_cons]
    exact (Ats.reverse t).append (.cons h .nil)
theorem AtF.look : ∀ {fs : List (Str × V)} {ds : List (Str × D)} {f : Str} {d : D}, AtF K H fs ds → ds.lookup f = some d → ∃ v, fs.lookup f = some v ∧ At K H v d
  | _, _, _, _, .nil, e => by cases e
  | _, _, f, d, .cons (f := g) h t, e => by
    rw [List.lookup_cons] at e
    cases hb : f == g with
    | true =>
      rw [hb] at e
      cases e
      exact ⟨_, by rw [List.lookup_cons, hb], h⟩
    | false =>
      rw [hb] at e
      obtain ⟨v, h1, h2⟩ := AtF.look t e
      exact ⟨v, by rw [List.lookup_cons, hb]; exact h1, h2⟩
theorem AtF.none : ∀ {fs : List (Str × V)} {ds : List (Str × D)} {f : Str}, AtF K H fs ds → ds.lookup f = Option.none → fs.lookup f = Option.none
  | _, _, _, .nil, _ => rfl
  | _, _, f, .cons (f := g) h t, e => by
    rw [List.lookup_cons] at e
    cases hb : f == g with
    | true =>
      rw [hb] at e
      cases e
    | false =>
      rw [hb] at e
      rw [List.lookup_cons, hb]
      exact AtF.none t e
theorem AtF.length : ∀ {fs : List (Str × V)} {ds : List (Str × D)}, AtF K H fs ds → fs.length = ds.length
  | _, _, .nil => rfl
  | _, _, .cons _ t => congrArg Nat.succ (AtF.length t)
end

/-! ### environments -/
/-- what may be changed: a list, an instance -/
inductive Lt where
  | lst (xs : List D) | ins (c : Str) (fs : List (Str × D))
def Lt.dat : Lt → D
  | .lst xs => .lst xs
  | .ins c fs => .obj c fs
/-- how it lies -/
inductive LtO (K : PySem.W.Frag) (G : Hp) : HO → Lt → Prop where
  | lst {vs : List V} {xs : List D} : Ats K G vs xs → LtO K G (.lst vs) (.lst xs)
  | ins {dx : Addr} {c : Str} {vs : List (Str × V)} {fs : List (Str × D)} : AtF K G vs fs → LtO K G (.ins (He.ga K c) dx vs) (.ins c fs)
theorem LtO.mono {K : PySem.W.Frag} {G G' : Hp} {o : HO} {t : Lt} (e : Same G G') (h : LtO K G o t) : LtO K G' o t := by
  cases h with
  | lst a => exact .lst (a.mono e)
  | ins a => exact .ins (a.mono e)
theorem LtO.at_ {K : PySem.W.Frag} {G : Hp} {a : Addr} {o : HO} {t : Lt} (h : LtO K G o t) (e : G a = some o) : At K G (.ref a) t.dat := by
  cases h with
  | lst l => exact .lst e l
  | ins l => exact .obj e l
/-- what a slot holds: a value, a thing of its own that may be changed, the thing that was lent -/
inductive Cl where
  | d (x : D) | own (t : Lt) | bor (t : Lt)
abbrev En := List (Option Cl)
/-- an exception: its class, its fields -/
structure Ex where
  c : Str
  fs : List (Str × D)
inductive Res (α : Type) where
  | ok (a : α) (ρ : En)
  | er (x : Ex) (ρ : En)
  | stuck
abbrev M (α : Type) := En → Res α
@[inline] def bd {α β : Type} (f : M α) (g : α → M β) : M β := fun ρ => match f ρ with
  | .ok a ρ' => g a ρ'
  | .er x ρ' => .er x ρ'
  | .stuck => .stuck
@[inline] def rt {α : Type} (a : α) : M α := fun ρ => .ok a ρ

/-- G0, H0: the ground (what stood at the entry, the lent list left out); b: the lent list -/
structure Gd where
  G : Hp
  H : Hp
  b : Option Addr
/-- the state: G is the part of H that is never written any more -/
structure Stt (K : PySem.W.Frag) (B : Gd) (ρ : En) (σ : L2.St) (G H : Hp) : Prop where
  sub : Same G H
  gg : Same B.G G
  hh : Same B.H H
  nw : ∀ b, B.G b = none → B.H b ≠ none → G b = none
  nb : ∀ a, B.b = some a → G a = none ∧ B.H a = none ∧ H a ≠ none
  len : σ.length = ρ.length
  dd : ∀ (i : Nat) (x : D), ρ[i]? = some (some (.d x)) → ∃ v, σ[i]? = some (some v) ∧ At K G v x
  oo : ∀ (i : Nat) (t : Lt), ρ[i]? = some (some (.own t)) → ∃ (a : Addr) (o : HO), σ[i]? = some (some (.ref a)) ∧ H a = some o ∧ G a = none ∧ B.H a = none ∧ B.b ≠ some a ∧ LtO K G o t
  bb : ∀ (i : Nat) (t : Lt), ρ[i]? = some (some (.bor t)) → ∃ (a : Addr) (o : HO), B.b = some a ∧ σ[i]? = some (some (.ref a)) ∧ H a = some o ∧ LtO K G o t
  sp : ∀ (i j : Nat) (xs ys : Lt) (a : Addr), ρ[i]? = some (some (.own xs)) → ρ[j]? = some (some (.own ys)) → σ[i]? = some (some (.ref a)) → σ[j]? = some (some (.ref a)) → i = j
  s1 : ∀ (i j : Nat) (xs ys : Lt), ρ[i]? = some (some (.bor xs)) → ρ[j]? = some (some (.bor ys)) → i = j
/-- growth: what was never written stays so -/
structure Ext (G H G' H' : Hp) : Prop where
  g : Same G G'
  h : Same H H'
  s : Same G' H'
  n : ∀ b, G b = none → H b ≠ none → G' b = none
theorem Ext.refl {G H : Hp} (s : Same G H) : Ext G H G H := ⟨Same.refl _, Same.refl _, s, fun _ e _ => e⟩
theorem Same.ne {H H' : Hp} (e : Same H H') {b : Addr} (h : H b ≠ none) : H' b ≠ none := by
  cases q : H b with
  | none => exact absurd q h
  | some o => rw [e b o q]; intro z; cases z
theorem Ext.trans {G H G1 H1 G2 H2 : Hp} (a : Ext G H G1 H1) (b : Ext G1 H1 G2 H2) : Ext G H G2 H2 :=
  ⟨a.g.trans b.g, a.h.trans b.h, b.s, fun x e h => b.n x (a.n x e h) (Same.ne a.h h)⟩
theorem Stt.ext {K : PySem.W.Frag} {B : Gd} {ρ : En} {σ : L2.St} {G H G' H' : Hp} (S : Stt K B ρ σ G H) (e : Ext G H G' H') : Stt K B ρ σ G' H' where
  sub := e.s
  gg := S.gg.trans e.g
  hh := S.hh.trans e.h
  nw := fun b h1 h2 => e.n b (S.nw b h1 h2) (Same.ne S.hh h2)
  nb := fun a ha => let ⟨h1, h2, h3⟩ := S.nb a ha; ⟨e.n a h1 h3, h2, Same.ne e.h h3⟩
  len := S.len
  dd := fun i x h => let ⟨v, h1, h2⟩ := S.dd i x h; ⟨v, h1, h2.mono e.g⟩
  oo := fun i xs h => let ⟨a, vs, h1, h2, h3, h4, h5, h6⟩ := S.oo i xs h; ⟨a, vs, h1, e.h _ _ h2, e.n a h3 (by rw [h2]; intro z; cases z), h4, h5, h6.mono e.g⟩
  bb := fun i xs h => let ⟨a, vs, h0, h1, h2, h3⟩ := S.bb i xs h; ⟨a, vs, h0, h1, e.h _ _ h2, h3.mono e.g⟩
  sp := S.sp
  s1 := S.s1
end DL


set_option Elab.async false
set_option linter.all false
set_option maxRecDepth 100000
set_option maxHeartbeats 4000000
/-! DL2: the judgements over data, names, constants, calls of defs. -/
namespace DL
open PySem PySem.Spec PyProof.Rows L2

/-- how an exception lies -/
def ExAt (K : PySem.W.Frag) (G H : Hp) (cls : Value) (d : Option Addr) (x : Ex) : Prop :=
  cls = .ref (He.ga K x.c) ∧ ((x.fs = [] ∧ d = none) ∨ ∃ (a : Addr) (fs : List (Str × V)), d = some a ∧ H a = some (.xd fs) ∧ AtF K G fs x.fs)
section
variable (K : PySem.W.Frag) (B : Gd) (σ : L2.St) (G : Hp) (W : WX)
/-- what is wanted behind an expression -/
def PostE (Q : VK) : Res D → Prop
  | .ok x ρ' => ∀ (v : V) (G' H' : Hp), Same G G' → Stt K B ρ' σ G' H' → At K G' v x → Q v H'
  | .er x ρ' => ∀ (cls : Value) (d : Option Addr) (G' H' : Hp), Same G G' → Stt K B ρ' σ G' H' → ExAt K G' H' cls d x → W cls d σ H'
  | .stuck => False
/-- behind a test -/
def PostT (Q : Bool → Hp → Prop) : Res Bool → Prop
  | .ok b ρ' => ∀ (G' H' : Hp), Same G G' → Stt K B ρ' σ G' H' → Q b H'
  | .er x ρ' => ∀ (cls : Value) (d : Option Addr) (G' H' : Hp), Same G G' → Stt K B ρ' σ G' H' → ExAt K G' H' cls d x → W cls d σ H'
  | .stuck => False
/-- behind a list's making -/
def PostO (Q : VK) : Res (List D) → Prop
  | .ok xs ρ' => ∀ (a : Addr) (vs : List V) (G' H' : Hp), Same G G' → Stt K B ρ' σ G' H' → H' a = some (.lst vs) → G' a = none → B.H a = none → B.b ≠ some a →
      (∀ (i : Nat) (ys : Lt), ρ'[i]? = some (some (.own ys)) → σ[i]? ≠ some (some (.ref a))) → Ats K G' vs xs → Q (.ref a) H'
  | .er x ρ' => ∀ (cls : Value) (d : Option Addr) (G' H' : Hp), Same G G' → Stt K B ρ' σ G' H' → ExAt K G' H' cls d x → W cls d σ H'
  | .stuck => False
/-- behind arguments -/
def PostA (Q : List V → Hp → Prop) : Res (List D) → Prop
  | .ok xs ρ' => ∀ (vs : List V) (G' H' : Hp), Same G G' → Stt K B ρ' σ G' H' → Ats K G' vs xs → Q vs H'
  | .er x ρ' => ∀ (cls : Value) (d : Option Addr) (G' H' : Hp), Same G G' → Stt K B ρ' σ G' H' → ExAt K G' H' cls d x → W cls d σ H'
  | .stuck => False
end
/-- a statement's outcome -/
inductive Out where
  | nx (ρ : En) | rt (x : D) (ρ : En) | ro (xs : List D) (ρ : En) | bk (ρ : En) | ct (ρ : En) | er (x : Ex) (ρ : En) | stuck
section
variable (K : PySem.W.Frag) (B : Gd) (G : Hp) (W : WX)
def PostS (D' : Ends) : Out → Prop
  | .nx ρ' => ∀ (σ' : L2.St) (G' H' : Hp), Same G G' → Stt K B ρ' σ' G' H' → D'.nx σ' H'
  | .rt x ρ' => ∀ (v : V) (σ' : L2.St) (G' H' : Hp), Same G G' → Stt K B ρ' σ' G' H' → At K G' v x → D'.rt v H'
  | .ro xs ρ' => ∀ (a : Addr) (vs : List V) (σ' : L2.St) (G' H' : Hp), Same G G' → Stt K B ρ' σ' G' H' → H' a = some (.lst vs) → G' a = none → B.H a = none → B.b ≠ some a → Ats K G' vs xs → D'.rt (.ref a) H'
  | .bk ρ' => ∀ (σ' : L2.St) (G' H' : Hp), Same G G' → Stt K B ρ' σ' G' H' → D'.bk σ' H'
  | .ct ρ' => ∀ (σ' : L2.St) (G' H' : Hp), Same G G' → Stt K B ρ' σ' G' H' → D'.ct σ' H'
  | .er x ρ' => ∀ (cls : Value) (d : Option Addr) (σ' : L2.St) (G' H' : Hp), Same G G' → Stt K B ρ' σ' G' H' → ExAt K G' H' cls d x → W cls d σ' H'
  | .stuck => False
end
section
variable {K : PySem.W.Frag} {B : Gd} {σ : L2.St} {G G1 : Hp} {W : WX}
theorem PostE.to {Q : VK} {r : Res D} (e : Same G G1) (h : PostE K B σ G W Q r) : PostE K B σ G1 W Q r := by
  cases r with
  | ok x ρ' => exact fun v G' H' e1 => h v G' H' (e.trans e1)
  | er x ρ' => exact fun c d G' H' e1 => h c d G' H' (e.trans e1)
  | stuck => exact h
theorem PostT.to {Q : Bool → Hp → Prop} {r : Res Bool} (e : Same G G1) (h : PostT K B σ G W Q r) : PostT K B σ G1 W Q r := by
  cases r with
  | ok x ρ' => exact fun G' H' e1 => h G' H' (e.trans e1)
  | er x ρ' => exact fun c d G' H' e1 => h c d G' H' (e.trans e1)
  | stuck => exact h
theorem PostO.to {Q : VK} {r : Res (List D)} (e : Same G G1) (h : PostO K B σ G W Q r) : PostO K B σ G1 W Q r := by
  cases r with
  | ok x ρ' => exact fun a vs G' H' e1 => h a vs G' H' (e.trans e1)
  | er x ρ' => exact fun c d G' H' e1 => h c d G' H' (e.trans e1)
  | stuck => exact h
theorem PostA.to {Q : List V → Hp → Prop} {r : Res (List D)} (e : Same G G1) (h : PostA K B σ G W Q r) : PostA K B σ G1 W Q r := by
  cases r with
  | ok x ρ' => exact fun vs G' H' e1 => h vs G' H' (e.trans e1)
  | er x ρ' => exact fun c d G' H' e1 => h c d G' H' (e.trans e1)
  | stuck => exact h
theorem PostS.to {D' : Ends} {r : Out} (e : Same G G1) (h : PostS K B G W D' r) : PostS K B G1 W D' r := by
  cases r with
  | nx ρ' => exact fun s G' H' e1 => h s G' H' (e.trans e1)
  | rt x ρ' => exact fun v s G' H' e1 => h v s G' H' (e.trans e1)
  | ro x ρ' => exact fun a vs s G' H' e1 => h a vs s G' H' (e.trans e1)
  | bk ρ' => exact fun s G' H' e1 => h s G' H' (e.trans e1)
  | ct ρ' => exact fun s G' H' e1 => h s G' H' (e.trans e1)
  | er x ρ' => exact fun c d s G' H' e1 => h c d s G' H' (e.trans e1)
  | stuck => exact h
end

/-! ### the canonical readings -/
def tD (K : PySem.W.Frag) (W : WX) (f : M D) : TE := fun σ H Q => ∃ (B : Gd) (ρ : En) (G : Hp), Stt K B ρ σ G H ∧ PostE K B σ G W Q (f ρ)
def tT (K : PySem.W.Frag) (W : WX) (f : M Bool) : TT := fun σ H Q => ∃ (B : Gd) (ρ : En) (G : Hp), Stt K B ρ σ G H ∧ PostT K B σ G W Q (f ρ)
def tO (K : PySem.W.Frag) (W : WX) (f : M (List D)) : TE := fun σ H Q => ∃ (B : Gd) (ρ : En) (G : Hp), Stt K B ρ σ G H ∧ PostO K B σ G W Q (f ρ)
def tA (K : PySem.W.Frag) (W : WX) (f : M (List D)) : TA := fun σ H Q => ∃ (B : Gd) (ρ : En) (G : Hp), Stt K B ρ σ G H ∧ PostA K B σ G W Q (f ρ)
def tS (K : PySem.W.Frag) (W : WX) (F : En → Out) : TS := fun D' σ H => ∃ (B : Gd) (ρ : En) (G : Hp), Stt K B ρ σ G H ∧ PostS K B G W D' (F ρ)
abbrev DE (X : Cx) (W : WX) (e : Expr) (f : M D) : Prop := PE X e (tD X.K W f)
abbrev DT (X : Cx) (W : WX) (e : Expr) (f : M Bool) : Prop := PT X e (tT X.K W f)
abbrev DO (X : Cx) (W : WX) (e : Expr) (f : M (List D)) : Prop := PE X e (tO X.K W f)
abbrev DA (X : Cx) (W : WX) (es : List Expr) (f : M (List D)) : Prop := PA X es (tA X.K W f)
abbrev DS (X : Cx) (W : WX) (st : Stmt) (F : En → Out) : Prop := PS X st (tS X.K W F)
abbrev DSs (X : Cx) (W : WX) (st : List Stmt) (F : En → Out) : Prop := PSs X st (tS X.K W F)

section
variable {X : Cx} {e : Expr} {es : List Expr} {st : Stmt} {sts : List Stmt}
theorem PE.imp {t t' : TE} (h : PE X e t) (i : ∀ σ H Q, t' σ H Q → t σ H Q) : PE X e t' := ⟨fun pins s σ H Q I q => h.run pins s σ H Q I (i σ H Q q)⟩
theorem PT.imp {t t' : TT} (h : PT X e t) (i : ∀ σ H Q, t' σ H Q → t σ H Q) : PT X e t' := ⟨fun pins s σ H Q I q => h.run pins s σ H Q I (i σ H Q q)⟩
theorem PA.imp {t t' : TA} (h : PA X es t) (i : ∀ σ H Q, t' σ H Q → t σ H Q) : PA X es t' := ⟨fun p pins s σ H Q I q => h.run p pins s σ H Q I (i σ H Q q)⟩
theorem PS.imp {t t' : TS} (h : PS X st t) (i : ∀ D' σ H, t' D' σ H → t D' σ H) : PS X st t' := ⟨fun pins s σ H D' I q => h.run pins s σ H D' I (i D' σ H q)⟩
theorem PSs.imp {t t' : TS} (h : PSs X sts t) (i : ∀ D' σ H, t' D' σ H → t D' σ H) : PSs X sts t' := ⟨fun pins s σ H D' I q => h.run pins s σ H D' I (i D' σ H q)⟩
end

/-! ### binding one result to the next -/
section
variable {K : PySem.W.Frag} {B : Gd} {σ : L2.St} {G H : Hp} {W : WX} {ρ : En}
/-- the reading of f, then of what follows -/
theorem tD_bd {α : Type} {f : M D} {g : D → M α} (P : Gd → L2.St → Hp → Res α → Prop) (hP : ∀ {G1} {r}, Same G G1 → P B σ G r → P B σ G1 r)
    (hs : P B σ G .stuck → False) (he : ∀ x ρ', P B σ G (.er x ρ') → ∀ (cls : Value) (d : Option Addr) (G' H' : Hp), Same G G' → Stt K B ρ' σ G' H' → ExAt K G' H' cls d x → W cls d σ H')
    (S : Stt K B ρ σ G H) (h : P B σ G (bd f g ρ)) {Q : VK} (q : ∀ v G' H' x ρ', f ρ = .ok x ρ' → Same G G' → Stt K B ρ' σ G' H' → At K G' v x → P B σ G' (g x ρ') → Q v H') : tD K W f σ H Q := by
  refine ⟨B, ρ, G, S, ?_⟩
  unfold bd at h
  cases e : f ρ with
  | ok x ρ' =>
    rw [e] at h
    exact fun v G' H' e1 S' a => q v G' H' x ρ' e e1 S' a (hP e1 h)
  | er x ρ' =>
    rw [e] at h
    exact he x ρ' h
  | stuck =>
    rw [e] at h
    exact (hs h).elim
/-- .. for expressions -/
theorem tD_bdE {f : M D} {g : D → M D} {Q' : VK} (S : Stt K B ρ σ G H) (h : PostE K B σ G W Q' (bd f g ρ)) {Q : VK}
    (q : ∀ v G' H' x ρ', Same G G' → Stt K B ρ' σ G' H' → At K G' v x → PostE K B σ G' W Q' (g x ρ') → Q v H') : tD K W f σ H Q :=
  tD_bd (fun B σ G r => PostE K B σ G W Q' r) (fun e p => p.to e) (fun z => z) (fun x ρ' z => z) S h fun v G' H' x ρ' _ a b c d => q v G' H' x ρ' a b c d
theorem tD_bdT {f : M D} {g : D → M Bool} {Q' : Bool → Hp → Prop} (S : Stt K B ρ σ G H) (h : PostT K B σ G W Q' (bd f g ρ)) {Q : VK}
    (q : ∀ v G' H' x ρ', Same G G' → Stt K B ρ' σ G' H' → At K G' v x → PostT K B σ G' W Q' (g x ρ') → Q v H') : tD K W f σ H Q :=
  tD_bd (fun B σ G r => PostT K B σ G W Q' r) (fun e p => p.to e) (fun z => z) (fun x ρ' z => z) S h fun v G' H' x ρ' _ a b c d => q v G' H' x ρ' a b c d
theorem tD_bdO {f : M D} {g : D → M (List D)} {Q' : VK} (S : Stt K B ρ σ G H) (h : PostO K B σ G W Q' (bd f g ρ)) {Q : VK}
    (q : ∀ v G' H' x ρ', Same G G' → Stt K B ρ' σ G' H' → At K G' v x → PostO K B σ G' W Q' (g x ρ') → Q v H') : tD K W f σ H Q :=
  tD_bd (fun B σ G r => PostO K B σ G W Q' r) (fun e p => p.to e) (fun z => z) (fun x ρ' z => z) S h fun v G' H' x ρ' _ a b c d => q v G' H' x ρ' a b c d
theorem tD_bdA {f : M D} {g : D → M (List D)} {Q' : List V → Hp → Prop} (S : Stt K B ρ σ G H) (h : PostA K B σ G W Q' (bd f g ρ)) {Q : VK}
    (q : ∀ v G' H' x ρ', Same G G' → Stt K B ρ' σ G' H' → At K G' v x → PostA K B σ G' W Q' (g x ρ') → Q v H') : tD K W f σ H Q :=
  tD_bd (fun B σ G r => PostA K B σ G W Q' r) (fun e p => p.to e) (fun z => z) (fun x ρ' z => z) S h fun v G' H' x ρ' _ a b c d => q v G' H' x ρ' a b c d
theorem tT_bd {α : Type} {f : M Bool} {g : Bool → M α} (P : Gd → L2.St → Hp → Res α → Prop) (hP : ∀ {G1} {r}, Same G G1 → P B σ G r → P B σ G1 r)
    (hs : P B σ G .stuck → False) (he : ∀ x ρ', P B σ G (.er x ρ') → ∀ (cls : Value) (d : Option Addr) (G' H' : Hp), Same G G' → Stt K B ρ' σ G' H' → ExAt K G' H' cls d x → W cls d σ H')
    (S : Stt K B ρ σ G H) (h : P B σ G (bd f g ρ)) {Q : Bool → Hp → Prop} (q : ∀ G' H' x ρ', Same G G' → Stt K B ρ' σ G' H' → P B σ G' (g x ρ') → Q x H') : tT K W f σ H Q := by
  refine ⟨B, ρ, G, S, ?_⟩
  unfold bd at h
  cases e : f ρ with
  | ok x ρ' =>
    rw [e] at h
    exact fun G' H' e1 S' => q G' H' x ρ' e1 S' (hP e1 h)
  | er x ρ' =>
    rw [e] at h
    exact he x ρ' h
  | stuck =>
    rw [e] at h
    exact (hs h).elim
theorem tT_bdE {f : M Bool} {g : Bool → M D} {Q' : VK} (S : Stt K B ρ σ G H) (h : PostE K B σ G W Q' (bd f g ρ)) {Q : Bool → Hp → Prop}
    (q : ∀ G' H' x ρ', Same G G' → Stt K B ρ' σ G' H' → PostE K B σ G' W Q' (g x ρ') → Q x H') : tT K W f σ H Q :=
  tT_bd (fun B σ G r => PostE K B σ G W Q' r) (fun e p => p.to e) (fun z => z) (fun x ρ' z => z) S h q
theorem tT_bdT {f : M Bool} {g : Bool → M Bool} {Q' : Bool → Hp → Prop} (S : Stt K B ρ σ G H) (h : PostT K B σ G W Q' (bd f g ρ)) {Q : Bool → Hp → Prop}
    (q : ∀ G' H' x ρ', Same G G' → Stt K B ρ' σ G' H' → PostT K B σ G' W Q' (g x ρ') → Q x H') : tT K W f σ H Q :=
  tT_bd (fun B σ G r => PostT K B σ G W Q' r) (fun e p => p.to e) (fun z => z) (fun x ρ' z => z) S h q
theorem tA_bd {α : Type} {f : M (List D)} {g : List D → M α} (P : Gd → L2.St → Hp → Res α → Prop) (hP : ∀ {G1} {r}, Same G G1 → P B σ G r → P B σ G1 r)
    (hs : P B σ G .stuck → False) (he : ∀ x ρ', P B σ G (.er x ρ') → ∀ (cls : Value) (d : Option Addr) (G' H' : Hp), Same G G' → Stt K B ρ' σ G' H' → ExAt K G' H' cls d x → W cls d σ H')
    (S : Stt K B ρ σ G H) (h : P B σ G (bd f g ρ)) {Q : List V → Hp → Prop} (q : ∀ vs G' H' xs ρ', Same G G' → Stt K B ρ' σ G' H' → Ats K G' vs xs → P B σ G' (g xs ρ') → Q vs H') : tA K W f σ H Q := by
  refine ⟨B, ρ, G, S, ?_⟩
  unfold bd at h
  cases e : f ρ with
  | ok x ρ' =>
    rw [e] at h
    exact fun vs G' H' e1 S' a => q vs G' H' x ρ' e1 S' a (hP e1 h)
  | er x ρ' =>
    rw [e] at h
    exact he x ρ' h
  | stuck =>
    rw [e] at h
    exact (hs h).elim
theorem tA_bdE {f : M (List D)} {g : List D → M D} {Q' : VK} (S : Stt K B ρ σ G H) (h : PostE K B σ G W Q' (bd f g ρ)) {Q : List V → Hp → Prop}
    (q : ∀ vs G' H' xs ρ', Same G G' → Stt K B ρ' σ G' H' → Ats K G' vs xs → PostE K B σ G' W Q' (g xs ρ') → Q vs H') : tA K W f σ H Q :=
  tA_bd (fun B σ G r => PostE K B σ G W Q' r) (fun e p => p.to e) (fun z => z) (fun x ρ' z => z) S h q
theorem tA_bdA {f : M (List D)} {g : List D → M (List D)} {Q' : List V → Hp → Prop} (S : Stt K B ρ σ G H) (h : PostA K B σ G W Q' (bd f g ρ)) {Q : List V → Hp → Prop}
    (q : ∀ vs G' H' xs ρ', Same G G' → Stt K B ρ' σ G' H' → Ats K G' vs xs → PostA K B σ G' W Q' (g xs ρ') → Q vs H') : tA K W f σ H Q :=
  tA_bd (fun B σ G r => PostA K B σ G W Q' r) (fun e p => p.to e) (fun z => z) (fun x ρ' z => z) S h q
theorem tA_bdO {f : M (List D)} {g : List D → M (List D)} {Q' : VK} (S : Stt K B ρ σ G H) (h : PostO K B σ G W Q' (bd f g ρ)) {Q : List V → Hp → Prop}
    (q : ∀ vs G' H' xs ρ', Same G G' → Stt K B ρ' σ G' H' → Ats K G' vs xs → PostO K B σ G' W Q' (g xs ρ') → Q vs H') : tA K W f σ H Q :=
  tA_bd (fun B σ G r => PostO K B σ G W Q' r) (fun e p => p.to e) (fun z => z) (fun x ρ' z => z) S h q
end

/-! ### constants, names -/
section
variable {X : Cx} {W : WX} {pos : Pos}
theorem tD_rt {K : PySem.W.Frag} {x : D} {v : V} (h : ∀ G, At K G v x) : ∀ σ H Q, tD K W (rt x) σ H Q → Q v H := fun σ H Q ⟨B, ρ, G, S, p⟩ => p v G H (Same.refl _) S (h G)
theorem de_int {i j} : DE X W (.Constant (.int i) j pos) (rt (.int i)) := PE.imp pe_int (tD_rt fun _ => .int i)
theorem de_bl {b j} : DE X W (.Constant (.bool b) j pos) (rt (.bl b)) := PE.imp pe_bl (tD_rt fun _ => .bl b)
theorem de_non {j} : DE X W (.Constant .none j pos) (rt .non) := PE.imp pe_non (tD_rt fun _ => .non)
theorem de_str {x j} : DE X W (.Constant (.str x) j pos) (rt (.str x)) := PE.imp pe_str (tD_rt fun _ => .str x)
theorem de_glo {x : Str} (hg : Gl X x) (hm : X.mg x = some (.ref (He.ga X.K x))) (hd : (x == ("__debug__" : Str)) = false := by decide) : DE X W (.Name x pos) (rt (.glo x)) := PE.imp (pe_glob hg hm (v := .ref (He.ga X.K x)) rfl hd) (tD_rt fun _ => .glo x)
theorem de_ty {x : Str} {n : String} (hg : Gl X x) (hm : X.mg x = none) (hv : bootBuiltins x = some (.type n)) (hn : x ≠ "__name__" := by decide) (hd : (x == ("__debug__" : Str)) = false := by decide) : DE X W (.Name x pos) (rt (.ty n)) :=
  PE.imp (pe_bltn hg hm hv (v := .ty n) rfl hn hd) (tD_rt fun _ => .ty n)
theorem de_gint {x : Str} {i : Int} (hg : Gl X x) (hm : ∃ t, X.mg x = some (.int i t)) (hd : (x == ("__debug__" : Str)) = false := by decide) : DE X W (.Name x pos) (rt (.int i)) := by
  obtain ⟨t, hm⟩ := hm
  exact PE.imp (pe_glob hg hm (v := .int i) ⟨t, rfl⟩ hd) (tD_rt fun _ => .int i)

/-- freezing the thing at a -/
theorem Stt.freeze {K : PySem.W.Frag} {B : Gd} {ρ : En} {σ : L2.St} {G H : Hp} {i : Nat} {xs : Lt} {a : Addr} {o : HO} (S : Stt K B ρ σ G H) (hi : ρ[i]? = some (some (.own xs)))
    (hs : σ[i]? = some (some (.ref a))) (ha : H a = some o) (hg : G a = none) (hb : B.H a = none) (hbb : B.b ≠ some a) (at_ : LtO K G o xs) :
    Same G (upd G a o) ∧ Stt K B (ρ.set i (some (.d xs.dat))) σ (upd G a o) H ∧ At K (upd G a o) (.ref a) xs.dat := by
  have e : Same G (upd G a o) := fun b o q => by rw [upd_ne (ne_of_none q hg)]; exact q
  have A1 : At K (upd G a o) (.ref a) xs.dat := (at_.mono e).at_ upd_same
  have hlt : i < ρ.length := (List.getElem?_eq_some_iff.mp hi).1
  refine ⟨e, ⟨fun b o q => ?_, S.gg.trans e, S.hh, fun b h1 h2 => ?_, fun c hc => ?_, by rw [List.length_set]; exact S.len, fun j x hj => ?_, fun j ys hj => ?_, fun j ys hj => ?_, fun j k ys zs c hj hk => ?_, fun j k ys zs hj hk => ?_⟩, A1⟩
  · by_cases hba : b = a
    · rw [hba, upd_same] at q
      rw [hba, ha]
      exact q
    · rw [upd_ne hba] at q
      exact S.sub b o q
  · rw [upd_ne fun z => h2 (by rw [z]; exact hb)]
    exact S.nw b h1 h2
  · obtain ⟨h1, h2, h3⟩ := S.nb c hc
    exact ⟨by rw [upd_ne fun z => hbb (by rw [hc, z])]; exact h1, h2, h3⟩
  · by_cases hji : j = i
    · subst hji
      rw [List.getElem?_set_self hlt] at hj
      cases hj
      exact ⟨_, hs, A1⟩
    · rw [List.getElem?_set_ne (Ne.symm hji)] at hj
      obtain ⟨v, h1, h2⟩ := S.dd j x hj
      exact ⟨v, h1, h2.mono e⟩
  · by_cases hji : j = i
    · subst hji
      rw [List.getElem?_set_self hlt] at hj
      cases hj
    · rw [List.getElem?_set_ne (Ne.symm hji)] at hj
      obtain ⟨c, ws, h1, h2, h3, h4, h5, h6⟩ := S.oo j ys hj
      have nca : c ≠ a := fun z => hji (S.sp j i ys xs a hj hi (by rw [h1, z]) hs)
      exact ⟨c, ws, h1, h2, by rw [upd_ne nca]; exact h3, h4, h5, h6.mono e⟩
  · by_cases hji : j = i
    · subst hji
      rw [List.getElem?_set_self hlt] at hj
      cases hj
    · rw [List.getElem?_set_ne (Ne.symm hji)] at hj
      obtain ⟨c, ws, h0, h1, h2, h3⟩ := S.bb j ys hj
      exact ⟨c, ws, h0, h1, h2, h3.mono e⟩
  · have hj' : ρ[j]? = some (some (.own ys)) := by
      by_cases hji : j = i
      · subst hji
        rw [List.getElem?_set_self hlt] at hj
        cases hj
      · rw [List.getElem?_set_ne (Ne.symm hji)] at hj
        exact hj
    have hk' : ρ[k]? = some (some (.own zs)) := by
      by_cases hki : k = i
      · subst hki
        rw [List.getElem?_set_self hlt] at hk
        cases hk
      · rw [List.getElem?_set_ne (Ne.symm hki)] at hk
        exact hk
    exact S.sp j k ys zs c hj' hk'
  · have hj' : ρ[j]? = some (some (.bor ys)) := by
      by_cases hji : j = i
      · subst hji
        rw [List.getElem?_set_self hlt] at hj
        cases hj
      · rw [List.getElem?_set_ne (Ne.symm hji)] at hj
        exact hj
    have hk' : ρ[k]? = some (some (.bor zs)) := by
      by_cases hki : k = i
      · subst hki
        rw [List.getElem?_set_self hlt] at hk
        cases hk
      · rw [List.getElem?_set_ne (Ne.symm hki)] at hk
        exact hk
    exact S.s1 j k ys zs hj' hk'

/-- a name's value; a list of its own is frozen by it -/
def varD (i : Nat) : M D := fun ρ => match ρ[i]? with
  | some (some (.d x)) => .ok x ρ
  | some (some (.own t)) => .ok t.dat (ρ.set i (some (.d t.dat)))
  | _ => .stuck
theorem de_var (i : Nat) {x : Str} (hN : X.N[i]? = some x := by rfl) (hv : Vis X.env.scope x := by first | exact Or.inl rfl | exact Or.inr (Or.inl rfl) | exact Or.inr (Or.inr rfl)) (hd : (x == ("__debug__" : Str)) = false := by decide)
    (hcd : (x == ("__classdict__" : Str)) = false := by decide) : DE X W (.Name x pos) (varD i) := by
  refine PE.imp (pe_var hN hv hd hcd) fun σ H Q ⟨B, ρ, G, S, p⟩ => ?_
  unfold varD at p
  split at p
  · rename_i d hi
    obtain ⟨v, h1, h2⟩ := S.dd i d hi
    exact ⟨v, h1, p v G H (Same.refl _) S h2⟩
  · rename_i xs hi
    obtain ⟨a, vs, h1, h2, h3, h4, h5, h6⟩ := S.oo i xs hi
    obtain ⟨e, S', A⟩ := S.freeze hi h1 h2 h3 h4 h5 h6
    exact ⟨_, h1, p _ _ H e S' A⟩
  · exact p.elim
end
end DL


set_option Elab.async false
set_option linter.all false
set_option maxRecDepth 100000
set_option maxHeartbeats 4000000
/-! DL3: operators, calls of defs and of built-ins. -/
namespace DL
open PySem PySem.Spec PyProof.Rows L2

/-! ### operations on values -/
def stk {α : Type} : M α := fun _ => .stuck
/-- f on two values gives what g says of their data -/
def OpD (X : Cx) (W : WX) (f : Value → Value → Sem Value) (g : D → D → M D) : Prop :=
  ∀ (pins : List (Addr × Obj)) (s : Shared) (σ : L2.St) (B : Gd) (ρ : En) (G H : Hp) (x y : V) (u v : Value) (dx dy : D) (Q : VK), Inv X pins σ H s → Stt X.K B ρ σ G H → RelV x u → RelV y v → At X.K G x dx → At X.K G y dy →
    PostE X.K B σ G W Q (g dx dy ρ) → wpAny (model X.prog X.w) X.A (f u v) (EP X pins σ Q) X.xe s
def UnD (X : Cx) (W : WX) (f : Value → Sem Value) (g : D → M D) : Prop :=
  ∀ (pins : List (Addr × Obj)) (s : Shared) (σ : L2.St) (B : Gd) (ρ : En) (G H : Hp) (x : V) (u : Value) (dx : D) (Q : VK), Inv X pins σ H s → Stt X.K B ρ σ G H → RelV x u → At X.K G x dx →
    PostE X.K B σ G W Q (g dx ρ) → wpAny (model X.prog X.w) X.A (f u) (EP X pins σ Q) X.xe s
def CallD (X : Cx) (W : WX) (f : Value) (g : List D → M D) : Prop :=
  ∀ (pins : List (Addr × Obj)) (s : Shared) (σ : L2.St) (B : Gd) (ρ : En) (G H : Hp) (vs : List V) (us : List Value) (ds : List D) (Q : VK), Inv X pins σ H s → Stt X.K B ρ σ G H → Vals vs us → Ats X.K G vs ds →
    PostE X.K B σ G W Q (g ds ρ) → wpAny (model X.prog X.w) X.A (call f us) (EP X pins σ Q) X.xe s
section
variable {X : Cx} {W : WX} {a b c e : Expr} {es : List Expr} {fa fb fc : M D} {pos p : Pos}
theorem OpD.of {f : Value → Value → Sem Value} {g : D → D → M D} {r : R2} (ho : OpR X f r)
    (h : ∀ (B : Gd) (ρ : En) (σ : L2.St) (G H : Hp) (x y : V) (dx dy : D) (Q : VK), Stt X.K B ρ σ G H → At X.K G x dx → At X.K G y dy → PostE X.K B σ G W Q (g dx dy ρ) → r x y H Q) : OpD X W f g :=
  fun pins s σ B ρ G H x y u v dx dy Q I S rx ry ax ay q => ho pins s σ H x y u v Q I rx ry (h B ρ σ G H x y dx dy Q S ax ay q)
theorem UnD.of {f : Value → Sem Value} {g : D → M D} {r : V → Hp → VK → Prop} (ho : UnR X f r)
    (h : ∀ (B : Gd) (ρ : En) (σ : L2.St) (G H : Hp) (x : V) (dx : D) (Q : VK), Stt X.K B ρ σ G H → At X.K G x dx → PostE X.K B σ G W Q (g dx ρ) → r x H Q) : UnD X W f g :=
  fun pins s σ B ρ G H x u dx Q I S rx ax q => ho pins s σ H x u Q I rx (h B ρ σ G H x dx Q S ax q)
theorem CallD.of {f : Value} {g : List D → M D} {r : List V → Hp → VK → Prop} (ho : CallR X f r)
    (h : ∀ (B : Gd) (ρ : En) (σ : L2.St) (G H : Hp) (vs : List V) (ds : List D) (Q : VK), Stt X.K B ρ σ G H → Ats X.K G vs ds → PostE X.K B σ G W Q (g ds ρ) → r vs H Q) : CallD X W f g :=
  fun pins s σ B ρ G H vs us ds Q I S rv av q => ho pins s σ H vs us Q I rv (h B ρ σ G H vs ds Q S av q)

/-- two expressions, one after the other -/
def two (fa fb : M D) (g : D → D → M D) : M D := bd fa fun x => bd fb fun y => g x y
theorem run2 {f : Value → Value → Sem Value} {g : D → D → M D} (ho : OpD X W f g) (ha : DE X W a fa) (hb : DE X W b fb) {pins : List (Addr × Obj)} {s : Shared} {σ : L2.St} {H : Hp} {Q : VK} (I : Inv X pins σ H s) (q : tD X.K W (two fa fb g) σ H Q) :
    wpAny (model X.prog X.w) X.A (eval a X.env) (fun v s₁ => wpAny (model X.prog X.w) X.A (eval b X.env) (fun u s₂ => wpAny (model X.prog X.w) X.A (f v u) (EP X pins σ Q) X.xe s₂) X.xe s₁) X.xe s := by
  obtain ⟨B, ρ, G, S, q⟩ := q
  refine thn (ha.run pins s σ H _ I (tD_bdE S q (Q := fun v H1 => ∃ G1 x ρ1, Stt X.K B ρ1 σ G1 H1 ∧ At X.K G1 v x ∧ PostE X.K B σ G1 W Q (bd fb (fun y => g x y) ρ1)) fun v G1 H1 x ρ1 e1 S1 A1 q1 => ⟨G1, x, ρ1, S1, A1, q1⟩)) fun v s1 ⟨y, H1, I1, r1, G1, x1, ρ1, S1, A1, q1⟩ => ?_
  refine thn (hb.run pins s1 σ H1 _ I1 (tD_bdE S1 q1 (Q := fun v H2 => ∃ G2 x ρ2, Stt X.K B ρ2 σ G2 H2 ∧ At X.K G2 y x1 ∧ At X.K G2 v x ∧ PostE X.K B σ G2 W Q (g x1 x ρ2)) fun v G2 H2 x ρ2 e2 S2 A2 q2 => ⟨G2, x, ρ2, S2, A1.mono e2, A2, q2⟩)) fun u s2 ⟨z, H2, I2, r2, G2, x2, ρ2, S2, A1', A2, q2⟩ => ?_
  exact ho pins s2 σ B ρ2 G2 H2 y z v u x1 x2 Q I2 S2 r1 r2 A1' A2 q2
theorem de_bin {op : Operator} {g : D → D → M D} (ho : OpD X W (binaryOp op) g) (ha : DE X W a fa) (hb : DE X W b fb) : DE X W (.BinOp a op b pos) (two fa fb g) :=
  ⟨fun pins s σ H Q I q => wpAny_BinOp (run2 ho ha hb I q)⟩
theorem de_cmp {op : CmpOp} {g : D → D → M D} (ho : OpD X W (compareOp op) g) (ha : DE X W a fa) (hb : DE X W b fb) (hm : behindInMarks op b = false := by first | exact nomark _ | rfl) : DE X W (.Compare a [op] [b] pos) (two fa fb g) :=
  ⟨fun pins s σ H Q I q => wpAny_Compare1 (run2 ho ha hb I q) hm⟩
theorem de_un {op : UnaryOp} {g : D → M D} (ho : UnD X W (unaryOp op) g) (ha : DE X W a fa) : DE X W (.UnaryOp op a pos) (bd fa g) := by
  refine ⟨fun pins s σ H Q I q => ?_⟩
  obtain ⟨B, ρ, G, S, q⟩ := q
  refine UnaryOp_ (thn (ha.run pins s σ H _ I (tD_bdE S q (Q := fun v H1 => ∃ G1 x ρ1, Stt X.K B ρ1 σ G1 H1 ∧ At X.K G1 v x ∧ PostE X.K B σ G1 W Q (g x ρ1)) fun v G1 H1 x ρ1 e1 S1 A1 q1 => ⟨G1, x, ρ1, S1, A1, q1⟩)) fun v s1 ⟨y, H1, I1, r1, G1, x1, ρ1, S1, A1, q1⟩ => ?_)
  exact ho pins s1 σ B ρ1 G1 H1 y v x1 Q I1 S1 r1 A1 q1

/-! ### tests -/
/-- the truth of a bool -/
def boolM : D → M Bool
  | .bl b => rt b
  | _ => stk
theorem tTest_of {t : TE} {f : M D} (h : ∀ σ H Q, tD X.K W f σ H Q → t σ H Q) : ∀ σ H (Q : Bool → Hp → Prop), tT X.K W (bd f boolM) σ H Q → t σ H fun x H' => ∃ k, x = .bl k ∧ Q k H' := fun σ H Q ⟨B, ρ, G, S, q⟩ =>
  h σ H _ (tD_bdT S q fun v G1 H1 x ρ1 e1 S1 A1 q1 => by
    cases A1 with
    | bl b => exact ⟨b, rfl, q1 G1 H1 (Same.refl _) S1⟩
    | _ => exact q1.elim)
/-- a bool as a test -/
theorem dt_val (h : DE X W e fa) (he : ∀ whole, isTrue e X.env whole = (do let v ← whole; standAt e.pos; holding [v] (truthy v)) := by intro _; rfl) : DT X W e (bd fa boolM) :=
  PT.imp (pt_val h he) (tTest_of fun _ _ _ q => q)
theorem dt_cmp {op : CmpOp} {g : D → D → M D} (ho : OpD X W (compareOp op) g) (ha : DE X W a fa) (hb : DE X W b fb) (hm : behindInMarks op b = false := by first | exact nomark _ | rfl) : DT X W (.Compare a [op] [b] pos) (bd (two fa fb g) boolM) := by
  refine ⟨fun pins s σ H Q I q => ?_⟩
  have z := run2 ho ha hb (pins := pins) I (show tD X.K W (two fa fb g) σ H (fun x H' => ∃ k, x = .bl k ∧ Q k H') from tTest_of (fun _ _ _ q => q) σ H Q q)
  refine wpAny_isTrue_Compare1 (thn z fun v s1 h1 => thn h1 fun u s2 h2 => thn h2 fun c s3 ⟨z, H3, I3, r3, k, e, q3⟩ => ?_) hm
  subst e
  cases r3
  exact wpAny_truthy_bool ⟨H3, I3, q3⟩
/-- a test's answer as a value (and, or, not, of bools) -/
def blM (f : M Bool) : M D := bd f fun b => rt (.bl b)
def andM (f g : M Bool) : M Bool := bd f fun b => match b with
  | true => g
  | false => rt false
def orM (f g : M Bool) : M Bool := bd f fun b => match b with
  | true => rt true
  | false => g
def notM (f : M Bool) : M Bool := bd f fun b => rt (!b)
def ifM {α : Type} (f : M Bool) (g h : M α) : M α := bd f fun b => match b with
  | true => g
  | false => h
theorem ite_of {A1 A2 : Prop} {b : Bool} (h1 : b = true → A1) (h2 : b = false → A2) : if b = true then A1 else A2 := by
  cases b with
  | true => exact h1 rfl
  | false => exact h2 rfl
variable {ft fu : M Bool} {rest : List Expr}
theorem dt_and1 (ha : DT X W a ft) : PW X (.BoolOp .And [a] pos) (tT X.K W ft) := pw_and1 ha
theorem dt_or1 (ha : DT X W a ft) : PW X (.BoolOp .Or [a] pos) (tT X.K W ft) := pw_or1 ha
theorem PW.imp {t t' : TT} (h : PW X e t) (i : ∀ σ H Q, t' σ H Q → t σ H Q) : PW X e t' := ⟨fun wh pins s σ H Q I q => h.run wh pins s σ H Q I (i σ H Q q)⟩
theorem dt_and (ha : DT X W a ft) (hb : PW X (.BoolOp .And (b :: rest) pos) (tT X.K W fu)) : PW X (.BoolOp .And (a :: b :: rest) pos) (tT X.K W (andM ft fu)) :=
  PW.imp (pw_and ha hb) fun σ H Q ⟨B, ρ, G, S, q⟩ => tT_bdT S q fun G1 H1 x ρ1 e1 S1 q1 => ite_of (fun h => by subst h; exact ⟨B, ρ1, G1, S1, q1⟩) fun h => by subst h; exact q1 G1 H1 (Same.refl _) S1
theorem dt_or (ha : DT X W a ft) (hb : PW X (.BoolOp .Or (b :: rest) pos) (tT X.K W fu)) : PW X (.BoolOp .Or (a :: b :: rest) pos) (tT X.K W (orM ft fu)) :=
  PW.imp (pw_or ha hb) fun σ H Q ⟨B, ρ, G, S, q⟩ => tT_bdT S q fun G1 H1 x ρ1 e1 S1 q1 => ite_of (fun h => by subst h; exact q1 G1 H1 (Same.refl _) S1) fun h => by subst h; exact ⟨B, ρ1, G1, S1, q1⟩
theorem dt_not (ha : DT X W a ft) : DT X W (.UnaryOp .Not a pos) (notM ft) :=
  PT.imp (pt_not ha) fun σ H Q ⟨B, ρ, G, S, q⟩ => tT_bdT S q fun G1 H1 x ρ1 e1 S1 q1 => q1 G1 H1 (Same.refl _) S1
theorem de_ifExp (hc : DT X W c ft) (ha : DE X W a fa) (hb : DE X W b fb) : DE X W (.IfExp c a b pos) (ifM ft fa fb) :=
  PE.imp (pe_ifExp hc ha hb) fun σ H Q ⟨B, ρ, G, S, q⟩ => tT_bdE S q fun G1 H1 x ρ1 e1 S1 q1 => ite_of (fun h => by subst h; exact ⟨B, ρ1, G1, S1, q1⟩) fun h => by subst h; exact ⟨B, ρ1, G1, S1, q1⟩
end
theorem dt_pw {X : Cx} {W : WX} {e : Expr} {ft : M Bool} (h : PW X e (tT X.K W ft)) : DT X W e ft := h.pt
end DL


set_option Elab.async false
set_option linter.all false
set_option maxRecDepth 100000
set_option maxHeartbeats 4000000
/-! DL4: and, or; arithmetic; displays; subscripts; slices; built-ins; calls of defs. -/
namespace DL
open PySem PySem.Spec PyProof.Rows L2

def chk {α : Type} (c : Bool) (m : M α) : M α := match c with
  | true => m
  | false => stk
theorem PostE.chk {K : PySem.W.Frag} {B : Gd} {σ : L2.St} {G : Hp} {W : WX} {Q : VK} {c : Bool} {m : M D} {ρ : En} (h : PostE K B σ G W Q (chk c m ρ)) : c = true ∧ PostE K B σ G W Q (m ρ) := by
  cases c with
  | true => exact ⟨rfl, h⟩
  | false => exact h.elim
def szOk (n : Nat) : Bool := Nat.ble n 16777216
theorem szOk_le {n : Nat} (h : szOk n = true) : n ≤ sizeLine := by
  rw [sizeLine_eq]
  exact Nat.le_of_ble_eq_true h
section
variable {X : Cx} {W : WX} {a b c e : Expr} {es rest : List Expr} {fa fb fc : M D} {fs : M (List D)} {pos p : Pos} {K : PySem.W.Frag} {B : Gd} {σ : L2.St} {G H : Hp} {ρ : En} {Q : VK}

/-! ### and, or, not as values of bools -/
def andV (f g : M D) : M D := bd f fun x => match x with
  | .bl true => g
  | .bl false => rt (.bl false)
  | _ => stk
def orV (f g : M D) : M D := bd f fun x => match x with
  | .bl true => rt (.bl true)
  | .bl false => g
  | _ => stk
def notV (f : M D) : M D := bd f fun x => match x with
  | .bl k => rt (.bl (!k))
  | _ => stk
theorem de_one {op} (h : DE X W a fa) : DE X W (.BoolOp op [a] pos) fa := pe_one h
theorem de_and (ha : DE X W a fa) (hb : DE X W (.BoolOp .And (b :: rest) pos) fb) : DE X W (.BoolOp .And (a :: b :: rest) pos) (andV fa fb) :=
  PE.imp (pe_and ha hb) fun σ H Q ⟨B, ρ, G, S, q⟩ => tD_bdE S q fun v G1 H1 x ρ1 e1 S1 A1 q1 => by
    cases A1 with
    | bl k =>
      refine ⟨k, rfl, ite_of (fun h => ?_) fun h => ?_⟩
      · subst h; exact ⟨B, ρ1, G1, S1, q1⟩
      · subst h; exact q1 _ G1 H1 (Same.refl _) S1 (.bl false)
    | _ => exact q1.elim
theorem de_or (ha : DE X W a fa) (hb : DE X W (.BoolOp .Or (b :: rest) pos) fb) : DE X W (.BoolOp .Or (a :: b :: rest) pos) (orV fa fb) :=
  PE.imp (pe_or ha hb) fun σ H Q ⟨B, ρ, G, S, q⟩ => tD_bdE S q fun v G1 H1 x ρ1 e1 S1 A1 q1 => by
    cases A1 with
    | bl k =>
      refine ⟨k, rfl, ite_of (fun h => ?_) fun h => ?_⟩
      · subst h; exact q1 _ G1 H1 (Same.refl _) S1 (.bl true)
      · subst h; exact ⟨B, ρ1, G1, S1, q1⟩
    | _ => exact q1.elim
theorem de_not (ha : DE X W a fa) : DE X W (.UnaryOp .Not a pos) (notV fa) :=
  PE.imp (pe_not ha) fun σ H Q ⟨B, ρ, G, S, q⟩ => tD_bdE S q fun v G1 H1 x ρ1 e1 S1 A1 q1 => by
    cases A1 with
    | bl k => exact ⟨k, rfl, q1 _ G1 H1 (Same.refl _) S1 (.bl _)⟩
    | _ => exact q1.elim

/-! ### ints -/
/-- a value is given at once -/
theorem now {x : D} {v : V} (S : Stt K B ρ σ G H) (q : PostE K B σ G W Q (rt x ρ)) (h : At K G v x) : Q v H := q v G H (Same.refl _) S h
def mulOk (i j : Int) : Bool := Nat.blt i.natAbs 18446744073709551616 || (Nat.blt j.natAbs 18446744073709551616 || Nat.blt (i.natAbs.log2 + j.natAbs.log2) 1000000)
theorem mulOk_ok {i j : Int} (h : mulOk i j = true) : IntMulOk i j := by
  unfold mulOk at h
  rcases Bool.or_eq_true_iff.mp h with h | h
  · have h' : i.natAbs < 18446744073709551616 := Nat.le_of_ble_eq_true h
    exact .of_left (intBits_le_64 (by omega) (by omega))
  · rcases Bool.or_eq_true_iff.mp h with h | h
    · have h' : j.natAbs < 18446744073709551616 := Nat.le_of_ble_eq_true h
      exact .of_right (intBits_le_64 (by omega) (by omega))
    · exact CMulW.ok (Nat.le_of_ble_eq_true h)
def divOk (j : Int) : Bool := !decide (j = 0) && Nat.blt j.natAbs.log2 9000
abbrev OpF := D → D → M D
def addI (u : OpF) : OpF
  | .int i, .int j => rt (.int (i + j))
  | x, y => u x y
def subI (u : OpF) : OpF
  | .int i, .int j => rt (.int (i - j))
  | x, y => u x y
def mulI (u : OpF) : OpF
  | .int i, .int j => chk (mulOk i j) (rt (.int (i * j)))
  | x, y => u x y
def fdivI (u : OpF) : OpF
  | .int i, .int j => chk (divOk j) (rt (.int (i.fdiv j)))
  | x, y => u x y
def modI (u : OpF) : OpF
  | .int i, .int j => chk (!decide (j = 0)) (rt (.int (i.fmod j)))
  | x, y => u x y
def noO : OpF := fun _ _ => stk
theorem opd_no {f : Value → Value → Sem Value} : OpD X W f noO := fun _ _ _ _ _ _ _ _ _ _ _ _ _ _ _ _ _ _ _ _ q => q.elim
theorem opd_add {u : OpF} (hu : OpD X W (binaryOp .Add) u) : OpD X W (binaryOp .Add) (addI u) := by
  intro pins s σ B ρ G H x y v w dx dy Q I S rx ry ax ay q
  unfold addI at q
  split at q
  · cases ax; cases ay
    exact op_add pins s σ H _ _ v w Q I rx ry ⟨_, _, rfl, rfl, now S q (.int _)⟩
  · exact hu pins s σ B ρ G H x y v w dx dy Q I S rx ry ax ay q
theorem opd_sub {u : OpF} (hu : OpD X W (binaryOp .Sub) u) : OpD X W (binaryOp .Sub) (subI u) := by
  intro pins s σ B ρ G H x y v w dx dy Q I S rx ry ax ay q
  unfold subI at q
  split at q
  · cases ax; cases ay
    exact op_sub pins s σ H _ _ v w Q I rx ry ⟨_, _, rfl, rfl, now S q (.int _)⟩
  · exact hu pins s σ B ρ G H x y v w dx dy Q I S rx ry ax ay q
theorem opr_mul : OpR X (binaryOp .Mult) (rI IntMulOk fun i j => .int (i * j)) := opI fun _ _ _ _ _ _ _ hc q => mul_int q hc
theorem opd_mul {u : OpF} (hu : OpD X W (binaryOp .Mult) u) : OpD X W (binaryOp .Mult) (mulI u) := by
  intro pins s σ B ρ G H x y v w dx dy Q I S rx ry ax ay q
  unfold mulI at q
  split at q
  · cases ax; cases ay
    obtain ⟨hc, q⟩ := q.chk
    exact opr_mul pins s σ H _ _ v w Q I rx ry ⟨_, _, rfl, rfl, mulOk_ok hc, now S q (.int _)⟩
  · exact hu pins s σ B ρ G H x y v w dx dy Q I S rx ry ax ay q
theorem opr_fdiv : OpR X (binaryOp .FloorDiv) (rI (fun _ j => divOk j = true) fun i j => .int (i.fdiv j)) := opI fun i j _ _ _ _ _ hc q => by
  obtain ⟨h1, h2⟩ := Bool.and_eq_true_iff.mp hc
  have h1' : j ≠ 0 := by simpa using h1
  exact floordiv_int h1' q (.inl (PyProof.noPylong_of_log2 (Nat.le_of_ble_eq_true h2)))
theorem opd_fdiv {u : OpF} (hu : OpD X W (binaryOp .FloorDiv) u) : OpD X W (binaryOp .FloorDiv) (fdivI u) := by
  intro pins s σ B ρ G H x y v w dx dy Q I S rx ry ax ay q
  unfold fdivI at q
  split at q
  · cases ax; cases ay
    obtain ⟨hc, q⟩ := q.chk
    exact opr_fdiv pins s σ H _ _ v w Q I rx ry ⟨_, _, rfl, rfl, hc, now S q (.int _)⟩
  · exact hu pins s σ B ρ G H x y v w dx dy Q I S rx ry ax ay q
theorem opd_mod {u : OpF} (hu : OpD X W (binaryOp .Mod) u) : OpD X W (binaryOp .Mod) (modI u) := by
  intro pins s σ B ρ G H x y v w dx dy Q I S rx ry ax ay q
  unfold modI at q
  split at q
  · cases ax; cases ay
    obtain ⟨hc, q⟩ := q.chk
    exact op_modN pins s σ H _ _ v w Q I rx ry ⟨_, _, rfl, rfl, by simpa using hc, now S q (.int _)⟩
  · exact hu pins s σ B ρ G H x y v w dx dy Q I S rx ry ax ay q
def addS (u : OpF) : OpF
  | .str x, .str y => chk (szOk (x.length + y.length)) (rt (.str (x ++ y)))
  | x, y => u x y
theorem opd_addS {u : OpF} (hu : OpD X W (binaryOp .Add) u) : OpD X W (binaryOp .Add) (addS u) := by
  intro pins s σ B ρ G H x y v w dx dy Q I S rx ry ax ay q
  unfold addS at q
  split at q
  · cases ax; cases ay
    obtain ⟨hc, q⟩ := q.chk
    exact op_add_str pins s σ H _ _ v w Q I rx ry ⟨_, _, rfl, rfl, szOk_le hc, now S q (.str _)⟩
  · exact hu pins s σ B ρ G H x y v w dx dy Q I S rx ry ax ay q
/-- comparisons of ints -/
def cmpI (r : Int → Int → Bool) (u : OpF) : OpF
  | .int i, .int j => rt (.bl (r i j))
  | x, y => u x y
theorem opd_cmpI {op : CmpOp} {r : Int → Int → Bool} {u : OpF} (ho : OpR X (compareOp op) (rI0 fun i j => .bl (r i j))) (hu : OpD X W (compareOp op) u) : OpD X W (compareOp op) (cmpI r u) := by
  intro pins s σ B ρ G H x y v w dx dy Q I S rx ry ax ay q
  unfold cmpI at q
  split at q
  · cases ax; cases ay
    exact ho pins s σ H _ _ v w Q I rx ry ⟨_, _, rfl, rfl, now S q (.bl _)⟩
  · exact hu pins s σ B ρ G H x y v w dx dy Q I S rx ry ax ay q
abbrev ltI : OpF := cmpI (fun i j => decide (i < j)) noO
abbrev leI : OpF := cmpI (fun i j => decide (i ≤ j)) noO
abbrev gtI : OpF := cmpI (fun i j => decide (j < i)) noO
abbrev geI : OpF := cmpI (fun i j => decide (j ≤ i)) noO
theorem opd_lt : OpD X W (compareOp .Lt) ltI := opd_cmpI op_lt opd_no
theorem opd_le : OpD X W (compareOp .LtE) leI := opd_cmpI op_le opd_no
theorem opd_gt : OpD X W (compareOp .Gt) gtI := opd_cmpI op_gt opd_no
theorem opd_ge : OpD X W (compareOp .GtE) geI := opd_cmpI op_ge opd_no
def negD : D → M D
  | .int i => rt (.int (-i))
  | _ => stk
theorem und_neg : UnD X W (unaryOp .USub) negD := UnD.of un_neg fun B ρ σ G H x dx Q S ax q => by
  cases ax with
  | int i => exact ⟨i, rfl, now S q (.int _)⟩
  | _ => exact q.elim
/-- is None -/
def isNV (f : M D) (neg : Bool) : M D := bd f fun x => match x with
  | .non => rt (.bl (!neg))
  | _ => rt (.bl neg)
theorem de_isN {j pos'} (ha : DE X W a fa) : DE X W (.Compare a [.Is] [.Constant .none j pos'] pos) (isNV fa false) :=
  PE.imp (pe_cmp (pc_isN ha) rfl) fun σ H Q ⟨B, ρ, G, S, q⟩ => tD_bdE S q fun v G1 H1 x ρ1 e1 S1 A1 q1 => by
    cases A1 <;> exact now S1 q1 (.bl _)
theorem de_isNotN {j pos'} (ha : DE X W a fa) : DE X W (.Compare a [.IsNot] [.Constant .none j pos'] pos) (isNV fa true) :=
  PE.imp (pe_cmp (pc_notN ha) rfl) fun σ H Q ⟨B, ρ, G, S, q⟩ => tD_bdE S q fun v G1 H1 x ρ1 e1 S1 A1 q1 => by
    cases A1 <;> exact now S1 q1 (.bl _)

/-! ### growth -/
theorem Ext.new {p : Addr} {o : HO} (S : Same G H) (hp : H p = none) : Ext G H (upd G p o) (upd H p o) where
  g := fun b u q => by rw [upd_ne fun z => by rw [z] at q; rw [S p u q] at hp; cases hp]; exact q
  h := fun b u q => by rw [upd_ne (ne_of_none q hp)]; exact q
  s := fun b u q => by
    by_cases hb : b = p
    · subst hb
      rw [upd_same] at q ⊢
      exact q
    · rw [upd_ne hb] at q ⊢
      exact S b u q
  n := fun b h1 h2 => by rw [upd_ne fun z => h2 (by rw [z]; exact hp)]; exact h1
theorem Ext.newH {p : Addr} {o : HO} (S : Same G H) (hp : H p = none) : Ext G H G (upd H p o) where
  g := Same.refl _
  h := fun b u q => by rw [upd_ne (ne_of_none q hp)]; exact q
  s := fun b u q => by rw [upd_ne (ne_of_none (S b u q) hp)]; exact S b u q
  n := fun b h1 h2 => h1
/-- a new tuple, list -/
theorem PostE.tup {ds : List D} {vs : List V} {p : Addr} (S : Stt K B ρ σ G H) (q : PostE K B σ G W Q (rt (.tup ds) ρ)) (a : Ats K G vs ds) (hp : H p = none) : Q (.ref p) (upd H p (.tup vs)) :=
  have e : Ext G H (upd G p (.tup vs)) (upd H p (.tup vs)) := Ext.new S.sub hp
  q _ _ _ e.g (S.ext e) (.tup (SqT.of upd_same) (a.mono e.g))
theorem PostE.lst {ds : List D} {vs : List V} {p : Addr} (S : Stt K B ρ σ G H) (q : PostE K B σ G W Q (rt (.lst ds) ρ)) (a : Ats K G vs ds) (hp : H p = none) : Q (.ref p) (upd H p (.lst vs)) :=
  have e : Ext G H (upd G p (.lst vs)) (upd H p (.lst vs)) := Ext.new S.sub hp
  q _ _ _ e.g (S.ext e) (.lst upd_same (a.mono e.g))
theorem PostO.lst {ds : List D} {vs : List V} {p : Addr} (S : Stt K B ρ σ G H) (q : PostO K B σ G W Q (rt ds ρ)) (a : Ats K G vs ds) (hp : H p = none) : Q (.ref p) (upd H p (.lst vs)) := by
  have e : Ext G H G (upd H p (.lst vs)) := Ext.newH S.sub hp
  refine q p vs G _ (Same.refl _) (S.ext e) upd_same ?_ ?_ ?_ (fun i ys hi hs => ?_) a
  · cases z : G p with
    | none => rfl
    | some o => rw [S.sub p o z] at hp; cases hp
  · exact Same.free S.hh hp
  · intro z
    exact (S.nb p z).2.2 hp
  · obtain ⟨c, ws, h1, h2, _⟩ := S.oo i ys hi
    rw [h1] at hs
    cases hs
    rw [hp] at h2
    cases h2

/-! ### arguments, displays -/
theorem da_nil : DA X W [] (rt []) := PA.imp pa_nil fun σ H Q ⟨B, ρ, G, S, q⟩ => q [] G H (Same.refl _) S .nil
def consA (f : M D) (g : M (List D)) : M (List D) := bd f fun x => bd g fun xs => rt (x :: xs)
theorem PA.imp' {t t' : TA} (h : PA X es t) (i : ∀ σ H Q, t' σ H Q → t σ H Q) : PA X es t' := PA.imp h i
theorem da_cons (ha : DE X W a fa) (hr : DA X W es fs) (hs : starEach (a :: es) X.env = (false, eval a X.env) :: starEach es X.env := by rfl) : DA X W (a :: es) (consA fa fs) :=
  PA.imp (pa_cons ha hr hs) fun σ H Q ⟨B, ρ, G, S, q⟩ => tD_bdA S q fun v G1 H1 x ρ1 e1 S1 A1 q1 =>
    tA_bdA S1 q1 fun vs G2 H2 xs ρ2 e2 S2 A2 q2 => q2 (v :: vs) G2 H2 (Same.refl _) S2 (.cons (A1.mono e2) A2)
def tupM (ds : List D) : M D := chk (szOk ds.length) (rt (.tup ds))
def lstM (ds : List D) : M D := chk (szOk ds.length) (rt (.lst ds))
def ownM (ds : List D) : M (List D) := chk (szOk ds.length) (rt ds)
theorem PostO.chk {c : Bool} {m : M (List D)} (h : PostO K B σ G W Q (DL.chk c m ρ)) : c = true ∧ PostO K B σ G W Q (m ρ) := by
  cases c with
  | true => exact ⟨rfl, h⟩
  | false => exact h.elim
theorem de_tup {k} (h : DA X W es fs) : DE X W (.Tuple es k pos) (bd fs tupM) :=
  PE.imp (pe_tup h) fun σ H Q ⟨B, ρ, G, S, q⟩ => tA_bdE S q fun vs G1 H1 xs ρ1 e1 S1 A1 q1 => by
    obtain ⟨hc, q1⟩ := q1.chk
    exact ⟨by rw [A1.length]; exact szOk_le hc, fun p hp => PostE.tup S1 q1 A1 hp⟩
theorem de_lst (h : DA X W es fs) : DE X W (.List es pos) (bd fs lstM) :=
  PE.imp (pe_lst h) fun σ H Q ⟨B, ρ, G, S, q⟩ => tA_bdE S q fun vs G1 H1 xs ρ1 e1 S1 A1 q1 => by
    obtain ⟨hc, q1⟩ := q1.chk
    exact ⟨by rw [A1.length]; exact szOk_le hc, fun p hp => PostE.lst S1 q1 A1 hp⟩
theorem do_lst (h : DA X W es fs) : DO X W (.List es pos) (bd fs ownM) :=
  PE.imp (pe_lst h) fun σ H Q ⟨B, ρ, G, S, q⟩ => tA_bdO S q fun vs G1 H1 xs ρ1 e1 S1 A1 q1 => by
    obtain ⟨hc, q1⟩ := q1.chk
    exact ⟨by rw [A1.length]; exact szOk_le hc, fun p hp => PostO.lst S1 q1 A1 hp⟩

/-! ### calls of built-ins -/
theorem callB_run {id : String} {g : List D → M D} (hc : CallD X W (.builtin id) g) (ha : DA X W es fs) {pins : List (Addr × Obj)} {s : Shared} (I : Inv X pins σ H s) (q : tD X.K W (bd fs g) σ H Q) (pos : Pos) :
    wpAny (model X.prog X.w) X.A (spliced (backTo pos (starEach es X.env))) (fun us s1 => wpAny (model X.prog X.w) X.A (call (.builtin id) us) (EP X pins σ Q) X.xe s1) X.xe s := by
  obtain ⟨B, ρ, G, S, q⟩ := q
  refine thn (ha.run pos pins s σ H _ I (tA_bdE S q (Q := fun vs H1 => ∃ G1 xs ρ1, Stt X.K B ρ1 σ G1 H1 ∧ Ats X.K G1 vs xs ∧ PostE X.K B σ G1 W Q (g xs ρ1)) fun vs G1 H1 xs ρ1 e1 S1 A1 q1 => ⟨G1, xs, ρ1, S1, A1, q1⟩)) fun us s1 ⟨vs, H1, I1, r1, G1, xs, ρ1, S1, A1, q1⟩ => ?_
  exact hc pins s1 σ B ρ1 G1 H1 vs us xs Q I1 S1 r1 A1 q1
theorem callT_run {T : String} {g : List D → M D} (hc : CallD X W (.type T) g) (ha : DA X W es fs) {pins : List (Addr × Obj)} {s : Shared} (I : Inv X pins σ H s) (q : tD X.K W (bd fs g) σ H Q) (pos : Pos) :
    wpAny (model X.prog X.w) X.A (spliced (backTo pos (starEach es X.env))) (fun us s1 => wpAny (model X.prog X.w) X.A (call (.type T) us) (EP X pins σ Q) X.xe s1) X.xe s := by
  obtain ⟨B, ρ, G, S, q⟩ := q
  refine thn (ha.run pos pins s σ H _ I (tA_bdE S q (Q := fun vs H1 => ∃ G1 xs ρ1, Stt X.K B ρ1 σ G1 H1 ∧ Ats X.K G1 vs xs ∧ PostE X.K B σ G1 W Q (g xs ρ1)) fun vs G1 H1 xs ρ1 e1 S1 A1 q1 => ⟨G1, xs, ρ1, S1, A1, q1⟩)) fun us s1 ⟨vs, H1, I1, r1, G1, xs, ρ1, S1, A1, q1⟩ => ?_
  exact hc pins s1 σ B ρ1 G1 H1 vs us xs Q I1 S1 r1 A1 q1
theorem de_callB {x : Str} {id : String} {g : List D → M D} (hc : CallD X W (.builtin id) g) (hg : Gl X x) (hm : X.mg x = none) (hv : bootBuiltins x = some (.builtin id)) (ha : DA X W (e :: es) fs) (hn : x ≠ "__name__" := by decide) (hdb : (x == ("__debug__" : Str)) = false := by decide)
    (he : starEach (e :: es) X.env = (false, eval e X.env) :: starEach es X.env := by rfl) (hpl : (backTo pos (starEach es X.env)).any (·.1) = false := by rfl) : DE X W (.Call (.Name x p) (e :: es) [] pos) (bd fs g) :=
  ⟨fun pins s σ H Q I q => wpAny_Call_Name_kw (ld_blt I hg hm hv (PyProof.Rows.callWith_builtin1 (callB_run hc ha I q pos) he hpl) hn hdb)⟩
theorem de_callT {x : Str} {T : String} {g : List D → M D} (hc : CallD X W (.type T) g) (hg : Gl X x) (hm : X.mg x = none) (hv : bootBuiltins x = some (.type T)) (ha : DA X W (e :: es) fs) (hn : x ≠ "__name__" := by decide) (hdb : (x == ("__debug__" : Str)) = false := by decide)
    (he : starEach (e :: es) X.env = (false, eval e X.env) :: starEach es X.env := by rfl) (hpl : (backTo pos (starEach es X.env)).any (·.1) = false := by rfl) : DE X W (.Call (.Name x p) (e :: es) [] pos) (bd fs g) :=
  ⟨fun pins s σ H Q I q => wpAny_Call_Name_kw (ld_blt I hg hm hv (PyProof.Rows.callWith_type1 (callT_run hc ha I q pos) he hpl) hn hdb)⟩
def absF : List D → M D
  | [.int i] => rt (.int i.natAbs)
  | _ => stk
theorem Ats.one_int {vs : List V} {i : Int} (a : Ats K G vs [.int i]) : vs = [.int i] := by
  cases a with
  | cons h t => cases t; cases h; rfl
theorem cd_abs : CallD X W (.builtin "abs") absF := CallD.of call_abs fun B ρ σ G H vs ds Q S a q => by
  unfold absF at q
  split at q
  · rename_i i
    cases a.one_int
    refine ⟨i, rfl, ?_⟩
    have e : (if i < 0 then -i else i) = (i.natAbs : Int) := by
      split <;> omega
    rw [e]
    exact now S q (.int _)
  · exact q.elim
def lenF : List D → M D
  | [.str x] => chk (szOk x.length) (rt (.int x.length))
  | [.tup xs] => rt (.int xs.length)
  | [.lst xs] => rt (.int xs.length)
  | [.scr xs] => rt (.int xs.length)
  | _ => stk
theorem cd_len : CallD X W (.builtin "len") lenF := CallD.of call_len fun B ρ σ G H vs ds Q S a q => by
  unfold lenF at q
  split at q
  · obtain ⟨hc, q⟩ := q.chk
    cases a with
    | cons h t =>
      cases t; cases h
      exact ⟨_, _, rfl, ⟨szOk_le hc, rfl⟩, now S q (.int _)⟩
  · cases a with
    | cons h t =>
      cases t
      cases h with
      | tup h t =>
        refine ⟨_, _, rfl, .inr ⟨_, same_seqT S.sub h, rfl⟩, ?_⟩
        rw [t.length]
        exact now S q (.int _)
  · cases a with
    | cons h t =>
      cases t
      cases h with
      | lst h t =>
        refine ⟨_, _, rfl, .inl ⟨_, SqL.of (S.sub _ _ h), rfl⟩, ?_⟩
        rw [t.length]
        exact now S q (.int _)
  · cases a with
    | cons h t =>
      cases t
      cases h with
      | scr h t =>
        refine ⟨_, _, rfl, .inl ⟨_, S.sub.seq h, rfl⟩, ?_⟩
        rw [t.length]
        exact now S q (.int _)
  · exact q.elim
def intF : List D → M D
  | [.int i] => rt (.int i)
  | [.bl k] => rt (.int (if k then 1 else 0))
  | _ => stk
theorem cd_int : CallD X W (.type "int") intF := CallD.of call_int1 fun B ρ σ G H vs ds Q S a q => by
  unfold intF at q
  split at q
  · cases a.one_int
    exact .inl ⟨_, rfl, now S q (.int _)⟩
  · cases a with
    | cons h t =>
      cases t; cases h
      exact .inr ⟨_, rfl, now S q (.int _)⟩
  · exact q.elim
end
end DL


set_option Elab.async false
set_option linter.all false
set_option maxRecDepth 100000
set_option maxHeartbeats 4000000
/-! DL5: calls of the program's defs. -/
namespace DL
open PySem PySem.Spec PyProof.Rows L2

/-! ### what a def does -/
inductive Rs where
  | ok (x : D) | ow (xs : List D) | er (x : Ex) | stuck
abbrev Fm := List D → Rs
def PostF (K : PySem.W.Frag) (G H : Hp) (Q : VK) (E : XK) : Rs → Prop
  | .ok x => ∀ (v : V) (G' H' : Hp), Ext G H G' H' → At K G' v x → Q v H'
  | .ow xs => ∀ (a : Addr) (vs : List V) (G' H' : Hp), Ext G H G' H' → H' a = some (.lst vs) → H a = none → G' a = none → Ats K G' vs xs → Q (.ref a) H'
  | .er x => ∀ (cls : Value) (d : Option Addr) (G' H' : Hp), Ext G H G' H' → ExAt K G' H' cls d x → E cls d H'
  | .stuck => False
def spD (K : PySem.W.Frag) (n : Nat) (m : Fm) : Sp := fun vs H Q E => vs.length = n ∧ ∃ (G : Hp) (ds : List D), Same G H ∧ Ats K G vs ds ∧ PostF K G H Q E (m ds)
def start0 (N : Nat) (ds : List D) : En := ds.map (fun d => some (.d d)) ++ List.replicate (N - ds.length) none
def outR : Out → Rs
  | .nx _ => .ok .non
  | .rt x _ => .ok x
  | .ro xs _ => .ow xs
  | .er x _ => .er x
  | _ => .stuck
def fmOf (n N : Nat) (F : En → Out) : Fm := fun ds => match Nat.beq ds.length n with
  | true => outR (F (start0 N ds))
  | false => .stuck
theorem fmOf_len {n N : Nat} {F : En → Out} {ds : List D} (h : fmOf n N F ds ≠ .stuck) : ds.length = n := by
  unfold fmOf at h
  cases e : Nat.beq ds.length n with
  | true => exact Nat.eq_of_beq_eq_true e
  | false => rw [e] at h; exact absurd rfl h
theorem PostF.nst {K : PySem.W.Frag} {G H : Hp} {Q : VK} {E : XK} {r : Rs} (h : PostF K G H Q E r) : r ≠ .stuck := by
  intro z
  rw [z] at h
  exact h
/-- the ground of a def without a lent list -/
abbrev gd0 (G H : Hp) : Gd := ⟨G, H, none⟩
theorem Stt.start {K : PySem.W.Frag} {G H : Hp} {vs : List V} {ds : List D} {N : List Str} (s : Same G H) (a : Ats K G vs ds) (hl : ds.length ≤ N.length) : Stt K (gd0 G H) (start0 N.length ds) (L2.start N vs) G H := by
  have l1 := a.length
  have key : ∀ (i : Nat) (c : Cl), (start0 N.length ds)[i]? = some (some c) → ∃ x v, c = .d x ∧ (L2.start N vs)[i]? = some (some v) ∧ At K G v x := fun i c h => by
    unfold start0 at h
    by_cases hi : i < ds.length
    · rw [List.getElem?_append_left (by simpa using hi), List.getElem?_map] at h
      cases e : ds[i]? with
      | none => rw [e] at h; cases h
      | some d =>
        rw [e] at h
        cases h
        obtain ⟨v, h1, h2⟩ := a.get e
        refine ⟨d, v, rfl, ?_, h2⟩
        unfold L2.start
        rw [List.getElem?_append_left (by simp; omega), List.getElem?_map, h1]
        rfl
    · rw [List.getElem?_append_right (by simpa using hi), List.getElem?_replicate] at h
      split at h <;> cases h
  refine ⟨s, Same.refl _, Same.refl _, fun b h1 _ => h1, (fun a z => nomatch z), ?_, fun i x h => ?_, fun i xs h => ?_, fun i xs h => ?_, fun i j xs ys a h => ?_, fun i j xs ys h => ?_⟩
  · unfold L2.start start0
    simp
    omega
  · obtain ⟨x', v, e, h1, h2⟩ := key i _ h
    cases e
    exact ⟨v, h1, h2⟩
  · obtain ⟨_, _, e, _⟩ := key i _ h
    cases e
  · obtain ⟨_, _, e, _⟩ := key i _ h
    cases e
  · obtain ⟨_, _, e, _⟩ := key i _ h
    cases e
  · obtain ⟨_, _, e, _⟩ := key i _ h
    cases e
theorem Stt.grow {K : PySem.W.Frag} {B : Gd} {ρ : En} {σ : L2.St} {G H : Hp} (S : Stt K B ρ σ G H) : Ext B.G B.H G H := ⟨S.gg, S.hh, S.sub, S.nw⟩
section
variable {P : Program} {w : World} {K : PySem.W.Frag} {mg : Str → Option Value} {base : Heap} {x qual : Str} {params : Arguments} {body : List Stmt} {scope : Scope} {dvs : List V} {kws : List (Str × V)} {f : Addr} {fd : FuncData} {N ps : List Str} {k : Nat}
/-- what a walk leans on -/
structure Bd (X : Cx) (W : WX) (k : Nat) : Prop where
  tk : Takes X W
  hr : Room k X.A
  calm : X.calm = true
theorem PostF.of_out {F : En → Out} {G H : Hp} {Q : VK} {E : XK} {ds : List D} (h : PostF K G H Q E (outR (F (start0 N.length ds)))) :
    PostS K (gd0 G H) G (fun cls d _ H => E cls d H) { nx := fun _ H' => Q .non H', rt := Q } (F (start0 N.length ds)) := by
  revert h
  cases F (start0 N.length ds) with
  | nx ρ' => exact fun h σ' G' H' e S => h .non G' H' S.grow .non
  | rt x ρ' => exact fun h v σ' G' H' e S a => h v G' H' S.grow a
  | ro xs ρ' => exact fun h a vs σ' G' H' e S h1 h2 h3 h4 h5 => h a vs G' H' S.grow h1 h3 h2 h5
  | er x ρ' => exact fun h c d σ' G' H' e S a => h c d G' H' S.grow a
  | bk ρ' => exact fun h => h.elim
  | ct ρ' => exact fun h => h.elim
  | stuck => exact fun h => h.elim
theorem fn_ok {F : En → Out} (F0 : FunD K x qual params body scope dvs kws f fd) (S : FnScope N ps scope)
    (hb : ∀ (cdv : Value) (A : Around) (outer : List Env) (s : Shared) (H : Hp) (E : XK), Bd (cxOf (L2.CX P w) P w K mg base N qual scope f cdv A outer s H E) (fun cls d _ H => E cls d H) k →
      PassesOwn (model P w) (A.deeper (envOfC qual scope s.heap.objs.size f cdv)) (envOfC qual scope s.heap.objs.size f cdv) (cxOf (L2.CX P w) P w K mg base N qual scope f cdv A outer s H E).xe →
      DSs (cxOf (L2.CX P w) P w K mg base N qual scope f cdv A outer s H E) (fun cls d _ H => E cls d H) body F) :
    FnOk P w K mg base (L2.CX P w) (k + 1) f fd ps (spD K ps.length (fmOf ps.length N.length F)) := by
  refine F0.ok S (fun vs H Q E h => h.1) fun cdv A outer s H vs Q E hr h => ?_
  obtain ⟨hl, G, ds, sm, av, q⟩ := h
  have hld : ds.length = ps.length := by rw [← av.length]; exact hl
  have tk : Takes (cxOf (L2.CX P w) P w K mg base N qual scope f cdv A outer s H E) (fun cls d _ H => E cls d H) := takes_of rfl rfl rfl (E₁ := fun e' s'' => L2.CX P w outer H s E e' s'') rfl
  refine ⟨_, hb cdv A outer s H E ⟨tk, hr, rfl⟩ (passes_of (X := cxOf (L2.CX P w) P w K mg base N qual scope f cdv A outer s H E) rfl), ?_⟩
  have hN : ps.length ≤ N.length := by have := congrArg List.length S.pre; rw [List.length_take] at this; omega
  refine ⟨gd0 G H, start0 N.length ds, G, Stt.start sm av (by omega), ?_⟩
  have e : fmOf ps.length N.length F ds = outR (F (start0 N.length ds)) := by
    unfold fmOf
    rw [hld, Nat.beq_refl]
  rw [e] at q
  exact PostF.of_out (N := N) q
/-- a def that may be called: behind the written arguments stand dvs -/
structure HasF (P : Program) (w : World) (K : PySem.W.Frag) (mg : Str → Option Value) (base : Heap) (k : Nat) (f : Addr) (dvs : List D) (m : Fm) : Prop where
  ex : ∃ (fd : FuncData) (ps : List Str) (ds : List Value) (vs : List V), FnOk P w K mg base (L2.CX P w) k f fd ps (spD K ps.length m) ∧ PySem.W.keepIn K (.ref f) = true ∧ Binds K fd ps ds ∧ Vals vs ds ∧ (∀ G, Ats K G vs dvs) ∧ ∀ l, m l ≠ .stuck → l.length = ps.length
theorem HasF.mono {j : Nat} {dvs : List D} {m : Fm} (h : HasF P w K mg base j f dvs m) (e : j ≤ k) : HasF P w K mg base k f dvs m :=
  let ⟨fd, ps, ds, vs, h1, h2, h3, h4, h5, h6⟩ := h.ex
  ⟨fd, ps, ds, vs, h1.mono e, h2, h3, h4, h5, h6⟩
end
/-- a call's answer -/
def callM (m : Fm) (dvs : List D) (ds : List D) : M D := fun ρ => match m (ds ++ dvs) with
  | .ok x => .ok x ρ
  | .ow xs => .ok (.lst xs) ρ
  | .er x => .er x ρ
  | .stuck => .stuck
/-- .. a new list of one's own -/
def callO (m : Fm) (dvs : List D) (ds : List D) : M (List D) := fun ρ => match m (ds ++ dvs) with
  | .ow xs => .ok xs ρ
  | .er x => .er x ρ
  | _ => .stuck
/-- an own list that nobody else holds is frozen -/
theorem Ext.frz {G H G' H' : Hp} {a : Addr} {vs : List V} (e : Ext G H G' H') (h1 : H' a = some (.lst vs)) (h2 : H a = none) (h3 : G' a = none) : Ext G H (upd G' a (.lst vs)) H' where
  g := e.g.trans fun b o q => by rw [upd_ne (ne_of_none q h3)]; exact q
  h := e.h
  s := fun b o q => by
    by_cases hb : b = a
    · subst hb
      rw [upd_same] at q
      rw [h1]
      exact q
    · rw [upd_ne hb] at q
      exact e.s b o q
  n := fun b h4 h5 => by
    rw [upd_ne fun z => h5 (by rw [z]; exact h2)]
    exact e.n b h4 h5
section
variable {X : Cx} {W : WX} {k : Nat} {f : Addr} {m : Fm} {dvs ds : List D} {B : Gd} {ρ : En} {σ : L2.St} {G H : Hp} {pins : List (Addr × Obj)} {s : Shared} {Q : VK} {us : List Value} {vs : List V}
theorem PostF.ofE {K : PySem.W.Frag} {l : List D} (e : l = ds ++ dvs) (S : Stt K B ρ σ G H) (q : PostE K B σ G W Q (callM m dvs ds ρ)) : PostF K G H Q (fun cls d H => W cls d σ H) (m l) := by
  subst e
  unfold callM at q
  revert q
  cases m (ds ++ dvs) with
  | ok x => exact fun q v G' H' e a => q v G' H' e.g (S.ext e) a
  | ow xs =>
    intro q a vs G' H' e h1 h2 h3 h4
    have e2 := e.frz h1 h2 h3
    exact q (.ref a) _ H' e2.g (S.ext e2) (.lst upd_same (h4.mono fun b o z => by rw [upd_ne (ne_of_none z h3)]; exact z))
  | er x => exact fun q c d G' H' e a => q c d G' H' e.g (S.ext e) a
  | stuck => exact fun q => q
theorem PostF.ofO {K : PySem.W.Frag} {l : List D} (e : l = ds ++ dvs) (S : Stt K B ρ σ G H) (q : PostO K B σ G W Q (callO m dvs ds ρ)) : PostF K G H Q (fun cls d H => W cls d σ H) (m l) := by
  subst e
  unfold callO at q
  revert q
  cases m (ds ++ dvs) with
  | ok x => exact fun q => q.elim
  | ow xs =>
    intro q a vs G' H' e h1 h2 h3 h4
    refine q a vs G' H' e.g (S.ext e) h1 h3 (Same.free S.hh h2) (fun z => (S.nb a z).2.2 h2) (fun i ys hi hs => ?_) h4
    obtain ⟨c, ws, k1, k2, _⟩ := S.oo i ys hi
    rw [k1] at hs
    cases hs
    rw [h2] at k2
    cases k2
  | er x => exact fun q c d G' H' e a => q c d G' H' e.g (S.ext e) a
  | stuck => exact fun q => q
theorem run_pF (h : HasF X.prog X.w X.K X.mg X.base k f dvs m) (tk : Takes X W) (hr : Room k X.A) (I : Inv X pins σ H s) (S : Same G H) (r : Vals vs us) (a : Ats X.K G vs ds)
    (q : PostF X.K G H Q (fun cls d H => W cls d σ H) (m (ds ++ dvs))) : wpAny (model X.prog X.w) X.A (call (.ref f) us) (EP X pins σ Q) X.xe s := by
  obtain ⟨fd, ps, dl, vl, F, kp, hb, hd, hA, hl⟩ := h.ex
  have a2 : Ats X.K G (vs ++ vl) (ds ++ dvs) := a.append (hA G)
  exact run_fnSD (E := WE W) F hr hb hd (passAt tk σ) I r ⟨by rw [a2.length]; exact hl _ q.nst, G, ds ++ dvs, S, a2, q⟩
theorem run_hasF (h : HasF X.prog X.w X.K X.mg X.base k f dvs m) (tk : Takes X W) (hr : Room k X.A) (I : Inv X pins σ H s) (S : Stt X.K B ρ σ G H) (r : Vals vs us) (a : Ats X.K G vs ds)
    (q : PostE X.K B σ G W Q (callM m dvs ds ρ)) : wpAny (model X.prog X.w) X.A (call (.ref f) us) (EP X pins σ Q) X.xe s := run_pF h tk hr I S.sub r a (PostF.ofE rfl S q)
theorem run_hasO (h : HasF X.prog X.w X.K X.mg X.base k f dvs m) (tk : Takes X W) (hr : Room k X.A) (I : Inv X pins σ H s) (S : Stt X.K B ρ σ G H) (r : Vals vs us) (a : Ats X.K G vs ds)
    (q : PostO X.K B σ G W Q (callO m dvs ds ρ)) : wpAny (model X.prog X.w) X.A (call (.ref f) us) (EP X pins σ Q) X.xe s := run_pF h tk hr I S.sub r a (PostF.ofO rfl S q)
end
section
variable {X : Cx} {W : WX} {j k : Nat} {m : Fm} {dvs : List D} {x : Str} {e o : Expr} {es : List Expr} {fs : M (List D)} {fo : M D} {p pos apos : Pos}
theorem de_call (hF : HasF X.prog X.w X.K X.mg X.base j (He.ga X.K x) dvs m) (b : Bd X W k) (hj : j ≤ k) (hg : Gl X x) (hm : X.mg x = some (.ref (He.ga X.K x))) (ha : DA X W (e :: es) fs) (hdb : (x == ("__debug__" : Str)) = false := by decide)
    (he : starEach (e :: es) X.env = (false, eval e X.env) :: starEach es X.env := by rfl) (hpl : (backTo pos (starEach es X.env)).any (·.1) = false := by rfl) : DE X W (.Call (.Name x p) (e :: es) [] pos) (bd fs (callM m dvs)) := by
  refine ⟨fun pins s σ H Q I q => ?_⟩
  obtain ⟨B, ρ, G, S, q⟩ := q
  have kp : PySem.W.keepIn X.K (.ref (He.ga X.K x)) = true := let ⟨_, _, _, _, _, h, _⟩ := hF.ex; h
  refine wpAny_Call_Name_kw (ld_glob I hg hm ?_ hdb)
  refine PySem.W.callWith_K (h₀ := X.base) I.ok.mod.kin kp (thn (ha.run pos pins s σ H _ I (tA_bdE S q (Q := fun vs H1 => ∃ G1 xs ρ1, Stt X.K B ρ1 σ G1 H1 ∧ Ats X.K G1 vs xs ∧ PostE X.K B σ G1 W Q (callM m dvs xs ρ1)) fun vs G1 H1 xs ρ1 e1 S1 A1 q1 => ⟨G1, xs, ρ1, S1, A1, q1⟩))
    fun us s1 ⟨vs, H1, I1, r1, G1, xs, ρ1, S1, A1, q1⟩ => ⟨I1.kIn, run_hasF hF b.tk (b.hr.mono hj) I1 S1 r1 A1 q1⟩) he hpl
theorem do_call (hF : HasF X.prog X.w X.K X.mg X.base j (He.ga X.K x) dvs m) (b : Bd X W k) (hj : j ≤ k) (hg : Gl X x) (hm : X.mg x = some (.ref (He.ga X.K x))) (ha : DA X W (e :: es) fs) (hdb : (x == ("__debug__" : Str)) = false := by decide)
    (he : starEach (e :: es) X.env = (false, eval e X.env) :: starEach es X.env := by rfl) (hpl : (backTo pos (starEach es X.env)).any (·.1) = false := by rfl) : DO X W (.Call (.Name x p) (e :: es) [] pos) (bd fs (callO m dvs)) := by
  refine ⟨fun pins s σ H Q I q => ?_⟩
  obtain ⟨B, ρ, G, S, q⟩ := q
  have kp : PySem.W.keepIn X.K (.ref (He.ga X.K x)) = true := let ⟨_, _, _, _, _, h, _⟩ := hF.ex; h
  refine wpAny_Call_Name_kw (ld_glob I hg hm ?_ hdb)
  refine PySem.W.callWith_K (h₀ := X.base) I.ok.mod.kin kp (thn (ha.run pos pins s σ H _ I (tA_bdO S q (Q := fun vs H1 => ∃ G1 xs ρ1, Stt X.K B ρ1 σ G1 H1 ∧ Ats X.K G1 vs xs ∧ PostO X.K B σ G1 W Q (callO m dvs xs ρ1)) fun vs G1 H1 xs ρ1 e1 S1 A1 q1 => ⟨G1, xs, ρ1, S1, A1, q1⟩))
    fun us s1 ⟨vs, H1, I1, r1, G1, xs, ρ1, S1, A1, q1⟩ => ⟨I1.kIn, run_hasO hF b.tk (b.hr.mono hj) I1 S1 r1 A1 q1⟩) he hpl
theorem de_call0 (hF : HasF X.prog X.w X.K X.mg X.base j (He.ga X.K x) dvs m) (b : Bd X W k) (hj : j ≤ k) (hg : Gl X x) (hm : X.mg x = some (.ref (He.ga X.K x))) (hdb : (x == ("__debug__" : Str)) = false := by decide) : DE X W (.Call (.Name x p) [] [] pos) (callM m dvs []) := by
  refine ⟨fun pins s σ H Q I q => ?_⟩
  obtain ⟨B, ρ, G, S, q⟩ := q
  have kp : PySem.W.keepIn X.K (.ref (He.ga X.K x)) = true := let ⟨_, _, _, _, _, h, _⟩ := hF.ex; h
  refine wpAny_Call_Name_kw (ld_glob I hg hm ?_ hdb)
  exact PySem.W.callWith_K0 I.kIn kp (run_hasF (us := []) hF b.tk (b.hr.mono hj) I S .nil .nil q)

/-! ### methods -/
/-- the methods of one name, by class -/
abbrev MT := Str → Option (Fm × List D)
def mt0 : MT := fun _ => none
def mt1 (c : Str) (m : Fm) (dvs : List D) (T : MT) : MT := fun x => match x == c with
  | true => some (m, dvs)
  | false => T x
structure MOk (P : Program) (w : World) (K : PySem.W.Frag) (mg : Str → Option Value) (base : Heap) (k : Nat) (n : Str) (T : MT) : Prop where
  ok : ∀ c m dvs, T c = some (m, dvs) → Cls K (He.ga K c) ∧ Meth K (He.ga K c) n (He.ma K (He.ga K c) n) ∧ HasF P w K mg base k (He.ma K (He.ga K c) n) dvs m
theorem mok0 {P : Program} {w : World} {K : PySem.W.Frag} {mg : Str → Option Value} {base : Heap} {n : Str} : MOk P w K mg base k n mt0 := ⟨fun _ _ _ h => nomatch h⟩
theorem mok1 {P : Program} {w : World} {K : PySem.W.Frag} {mg : Str → Option Value} {base : Heap} {n c : Str} {T : MT} (h1 : Cls K (He.ga K c)) (h2 : Meth K (He.ga K c) n (He.ma K (He.ga K c) n)) (h3 : HasF P w K mg base j (He.ma K (He.ga K c) n) dvs m) (hj : j ≤ k)
    (hT : MOk P w K mg base k n T) : MOk P w K mg base k n (mt1 c m dvs T) := ⟨fun c' m' dvs' h => by
  unfold mt1 at h
  cases e : c' == c with
  | true =>
    rw [e] at h
    cases h
    rw [eq_of_beq e]
    exact ⟨h1, h2, h3.mono hj⟩
  | false =>
    rw [e] at h
    exact hT.ok c' m' dvs' h⟩
theorem MOk.mono {P : Program} {w : World} {K : PySem.W.Frag} {mg : Str → Option Value} {base : Heap} {n : Str} {T : MT} (h : MOk P w K mg base j n T) (hj : j ≤ k) : MOk P w K mg base k n T := ⟨fun c m dvs e => let ⟨a, b, d⟩ := h.ok c m dvs e; ⟨a, b, d.mono hj⟩⟩
/-- o.n(..) -/
def mlook (n : Str) (T : MT) : D → Option (Fm × List D)
  | .obj c fs => (match fs.lookup n with
    | none => T c
    | some _ => none)
  | _ => none
def methM (n : Str) (T : MT) (fs : M (List D)) (o : D) : M D := match mlook n T o with
  | some p => bd fs fun ds => callM p.1 p.2 (o :: ds)
  | none => stk
theorem mlook_at {n : Str} {T : MT} {K : PySem.W.Frag} {G H : Hp} {v : V} {o : D} {p : Fm × List D} (s : Same G H) (a : At K G v o) (q : mlook n T o = some p) :
    ∃ (c : Str) (b dx : Addr) (vs : List (Str × V)), v = .ref b ∧ H b = some (.ins (He.ga K c) dx vs) ∧ vs.lookup n = none ∧ T c = some p := by
  cases a with
  | obj h1 h2 =>
    rename_i b dx c vs fl
    have q' : (match fl.lookup n with
      | none => T c
      | some _ => none) = some p := q
    cases e : fl.lookup n with
    | some z => rw [e] at q'; cases q'
    | none =>
      rw [e] at q'
      exact ⟨c, b, dx, vs, rfl, s _ _ h1, h2.none e, q'⟩
  | _ => cases q
theorem de_meth {pl : Sem Bool} {n : Str} {T : MT} (ho : DE X W o fo) (hT : MOk X.prog X.w X.K X.mg X.base j n T) (b : Bd X W k) (hj : j ≤ k) (ha : DA X W (e :: es) fs)
    (hst : starEach (e :: es) X.env = (false, eval e X.env) :: starEach es X.env := by rfl) (hpl : (backTo pos (starEach es X.env)).any (·.1) = false := by rfl)
    (ht : eval (.Call (.Attribute o n apos) (e :: es) [] pos) X.env = (do
      let ov ← eval o X.env
      standAt apos.atName
      let (f, first) ← holding [ov] (getMethod ov n pl)
      callWith pos f first (backTo pos (starEach (e :: es) X.env)) (backToKw pos (keywordEach [] X.env))) := by rfl) :
    DE X W (.Call (.Attribute o n apos) (e :: es) [] pos) (bd fo (methM n T fs)) := by
  refine ⟨fun pins s σ H Q I q => ?_⟩
  obtain ⟨B, ρ, G, S, q⟩ := q
  refine PySem.W.methodCall_KW (pl := pl) (thn (ho.run pins s σ H _ I (tD_bdE S q (Q := fun v H1 => ∃ G1 x ρ1, Stt X.K B ρ1 σ G1 H1 ∧ At X.K G1 v x ∧ PostE X.K B σ G1 W Q (methM n T fs x ρ1)) fun v G1 H1 x ρ1 e1 S1 A1 q1 => ⟨G1, x, ρ1, S1, A1, q1⟩)) fun u s1 ⟨y, H1, I1, r1, G1, x, ρ1, S1, A1, q1⟩ => ?_) ht
  unfold methM at q1
  cases em : mlook n T x with
  | none => rw [em] at q1; exact q1.elim
  | some mp =>
    obtain ⟨m, dvs⟩ := mp
    rw [em] at q1
    obtain ⟨c, a, dx, vs, rfl, ha2, hl, hTc⟩ := mlook_at S1.sub A1 em
    obtain ⟨hC, hM, hF⟩ := hT.ok c m dvs hTc
    cases r1
    refine getmeth_ok I1 ha2 hC hM hl ?_
    refine PySem.W.callWith_K (first := [.ref a]) (h₀ := X.base) I1.ok.mod.kin hM.kp (thn (ha.run pos pins s1 σ H1 _ I1 (tA_bdE S1 q1 (Q := fun vs H2 => ∃ G2 xs ρ2, Stt X.K B ρ2 σ G2 H2 ∧ Ats X.K G2 (.ref a :: vs) (x :: xs) ∧ PostE X.K B σ G2 W Q (callM m dvs (x :: xs) ρ2)) fun vs G2 H2 xs ρ2 e2 S2 A2 q2 => ⟨G2, xs, ρ2, S2, .cons (A1.mono e2) A2, q2⟩))
      fun us s2 ⟨vs, H2, I2, r2, G2, xs, ρ2, S2, A2, q2⟩ => ⟨I2.kIn, run_hasF (us := .ref a :: us) (vs := .ref a :: vs) hF b.tk (b.hr.mono hj) I2 S2 (.cons rfl r2) A2 q2⟩) hst hpl
theorem de_meth0 {pl : Sem Bool} {n : Str} {T : MT} (ho : DE X W o fo) (hT : MOk X.prog X.w X.K X.mg X.base j n T) (b : Bd X W k) (hj : j ≤ k)
    (ht : eval (.Call (.Attribute o n apos) [] [] pos) X.env = (do
      let ov ← eval o X.env
      standAt apos.atName
      let (f, first) ← holding [ov] (getMethod ov n pl)
      callWith pos f first (backTo pos (starEach [] X.env)) (backToKw pos (keywordEach [] X.env))) := by rfl) :
    DE X W (.Call (.Attribute o n apos) [] [] pos) (bd fo (methM n T (rt []))) := by
  refine ⟨fun pins s σ H Q I q => ?_⟩
  obtain ⟨B, ρ, G, S, q⟩ := q
  refine PySem.W.methodCall_KW (pl := pl) (thn (ho.run pins s σ H _ I (tD_bdE S q (Q := fun v H1 => ∃ G1 x ρ1, Stt X.K B ρ1 σ G1 H1 ∧ At X.K G1 v x ∧ PostE X.K B σ G1 W Q (methM n T (rt []) x ρ1)) fun v G1 H1 x ρ1 e1 S1 A1 q1 => ⟨G1, x, ρ1, S1, A1, q1⟩)) fun u s1 ⟨y, H1, I1, r1, G1, x, ρ1, S1, A1, q1⟩ => ?_) ht
  unfold methM at q1
  cases em : mlook n T x with
  | none => rw [em] at q1; exact q1.elim
  | some mp =>
    obtain ⟨m, dvs⟩ := mp
    rw [em] at q1
    obtain ⟨c, a, dx, vs, rfl, ha2, hl, hTc⟩ := mlook_at S1.sub A1 em
    obtain ⟨hC, hM, hF⟩ := hT.ok c m dvs hTc
    cases r1
    refine getmeth_ok I1 ha2 hC hM hl ?_
    exact PySem.W.callWith_K0 (first := [.ref a]) I1.kIn hM.kp (run_hasF (us := [.ref a]) (vs := [.ref a]) hF b.tk (b.hr.mono hj) I1 S1 (.cons rfl .nil) (.cons A1 .nil) q1)

end
end DL


set_option Elab.async false
set_option linter.all false
set_option maxRecDepth 100000
set_option maxHeartbeats 4000000
/-! DL6: things that are changed: lent lists, instances being made, fields, stores. -/
namespace DL
open PySem PySem.Spec PyProof.Rows L2

/-- growth, the thing at a changed -/
structure ExtB (a : Addr) (G H G' H' : Hp) : Prop where
  g : Same G G'
  h : ∀ b o, b ≠ a → H b = some o → H' b = some o
  s : Same G' H'
  n : ∀ b, G b = none → H b ≠ none → G' b = none
  t : H' a ≠ none
theorem ExtB.upd {K : PySem.W.Frag} {G H : Hp} {a : Addr} {o : HO} (s : Same G H) (ha : G a = none) : ExtB a G H G (upd H a o) where
  g := Same.refl _
  h := fun b u hb q => by rw [upd_ne hb]; exact q
  s := fun b u q => by rw [upd_ne (ne_of_none q ha)]; exact s b u q
  n := fun _ h _ => h
  t := by rw [upd_same]; intro z; cases z
def getL (ρ : En) (i : Nat) : Option Lt := match ρ[i]? with
  | some (some (.own t)) => some t
  | some (some (.bor t)) => some t
  | _ => none
def setL (ρ : En) (i : Nat) (t : Lt) : En := match ρ[i]? with
  | some (some (.own _)) => ρ.set i (some (.own t))
  | _ => ρ.set i (some (.bor t))
section
variable {K : PySem.W.Frag} {B : Gd} {ρ : En} {σ : L2.St} {G H : Hp}
theorem set_get {α : Type} {l : List α} {i j : Nat} {x y : α} (h : (l.set i x)[j]? = some y) : (i = j ∧ x = y) ∨ (i ≠ j ∧ l[j]? = some y) := by
  by_cases e : i = j
  · subst e
    have hl : i < l.length := by
      have := (List.getElem?_eq_some_iff.mp h).1
      rwa [List.length_set] at this
    rw [List.getElem?_set_self hl] at h
    exact .inl ⟨rfl, Option.some.inj h⟩
  · rw [List.getElem?_set_ne e] at h
    exact .inr ⟨e, h⟩
/-- the slot i changed, whose thing stands at a -/
theorem Stt.chg {i : Nat} {a : Addr} {c : Option Cl} (S : Stt K B ρ σ G H) (hs : σ[i]? = some (some (.ref a))) (ga : G a = none) (na : H a ≠ none) (hb : B.H a = none)
    (hi : (∃ t, ρ[i]? = some (some (.own t)) ∧ B.b ≠ some a ∧ ((∃ t', c = some (.own t')) ∨ c = none)) ∨ (∃ t, ρ[i]? = some (some (.bor t)) ∧ B.b = some a ∧ ((∃ t', c = some (.bor t')) ∨ c = none)))
    {G' H' : Hp} (e : ExtB a G H G' H') (ht : ∀ t', c = some (.own t') ∨ c = some (.bor t') → ∃ o, H' a = some o ∧ LtO K G' o t') : Stt K B (ρ.set i c) σ G' H' := by
  have ga' : G' a = none := e.n a ga na
  have nd : ∀ x, c ≠ some (.d x) := fun x z => by
    rcases hi with ⟨_, _, _, ⟨t', h⟩ | h⟩ | ⟨_, _, _, ⟨t', h⟩ | h⟩ <;> rw [z] at h <;> cases h
  refine ⟨e.s, S.gg.trans e.g, fun b o q => ?_, fun b h1 h2 => e.n b (S.nw b h1 h2) (Same.ne S.hh h2), fun b hbb => ?_, by rw [List.length_set]; exact S.len, fun j x hj => ?_, fun j t hj => ?_, fun j t hj => ?_, fun j k s t b hj hk h1 h2 => ?_, fun j k s t hj hk => ?_⟩
  · exact e.h b o (fun z => by rw [z, hb] at q; cases q) (S.hh b o q)
  · obtain ⟨h1, h2, h3⟩ := S.nb b hbb
    refine ⟨e.n b h1 h3, h2, ?_⟩
    by_cases z : b = a
    · rw [z]; exact e.t
    · intro q
      cases y : H b with
      | none => exact h3 y
      | some o => rw [e.h b o z y] at q; cases q
  · rcases set_get hj with ⟨_, z⟩ | ⟨_, hj⟩
    · exact absurd z (nd x)
    · obtain ⟨v, h1, h2⟩ := S.dd j x hj
      exact ⟨v, h1, h2.mono e.g⟩
  · rcases set_get hj with ⟨rfl, z⟩ | ⟨hne, hj⟩
    · obtain ⟨o, h1, h2⟩ := ht t (.inl z)
      refine ⟨a, o, hs, h1, ga', hb, ?_, h2⟩
      rcases hi with ⟨_, _, h, _⟩ | ⟨_, _, _, ⟨t', h⟩ | h⟩
      · exact h
      · rw [z] at h; cases h
      · rw [z] at h; cases h
    · obtain ⟨b, o, h1, h2, h3, h4, h5, h6⟩ := S.oo j t hj
      have hba : b ≠ a := fun z => by
        rcases hi with ⟨t0, hi0, _⟩ | ⟨_, _, hba, _⟩
        · exact hne (S.sp i j t0 t a hi0 hj hs (by rw [← z]; exact h1))
        · exact h5 (by rw [z]; exact hba)
      exact ⟨b, o, h1, e.h b o hba h2, e.n b h3 (by rw [h2]; intro z; cases z), h4, h5, h6.mono e.g⟩
  · rcases set_get hj with ⟨rfl, z⟩ | ⟨hne, hj⟩
    · obtain ⟨o, h1, h2⟩ := ht t (.inr z)
      refine ⟨a, o, ?_, hs, h1, h2⟩
      rcases hi with ⟨_, _, _, ⟨t', h⟩ | h⟩ | ⟨_, _, h, _⟩
      · rw [z] at h; cases h
      · rw [z] at h; cases h
      · exact h
    · obtain ⟨b, o, h0, h1, h2, h3⟩ := S.bb j t hj
      have hba : b ≠ a := fun z => by
        rcases hi with ⟨_, _, h, _⟩ | ⟨t0, hi0, _⟩
        · exact h (by rw [h0, z])
        · exact hne (S.s1 i j t0 t hi0 hj)
      exact ⟨b, o, h0, h1, e.h b o hba h2, h3.mono e.g⟩
  · have back : ∀ {j : Nat} {t : Lt}, (ρ.set i c)[j]? = some (some (.own t)) → ∃ t', ρ[j]? = some (some (.own t')) := fun {j t} h => by
      rcases set_get h with ⟨rfl, z⟩ | ⟨_, h⟩
      · rcases hi with ⟨t0, h0, _⟩ | ⟨_, _, _, ⟨t', h⟩ | h⟩
        · exact ⟨t0, h0⟩
        · rw [z] at h; cases h
        · rw [z] at h; cases h
      · exact ⟨t, h⟩
    obtain ⟨_, hj'⟩ := back hj
    obtain ⟨_, hk'⟩ := back hk
    exact S.sp j k _ _ b hj' hk' h1 h2
  · have back : ∀ {j : Nat} {t : Lt}, (ρ.set i c)[j]? = some (some (.bor t)) → ∃ t', ρ[j]? = some (some (.bor t')) := fun {j t} h => by
      rcases set_get h with ⟨rfl, z⟩ | ⟨_, h⟩
      · rcases hi with ⟨_, _, _, ⟨t', h⟩ | h⟩ | ⟨t0, h0, _⟩
        · rw [z] at h; cases h
        · rw [z] at h; cases h
        · exact ⟨t0, h0⟩
      · exact ⟨t, h⟩
    obtain ⟨_, hj'⟩ := back hj
    obtain ⟨_, hk'⟩ := back hk
    exact S.s1 j k _ _ hj' hk'
theorem Stt.lent {i : Nat} {t : Lt} (S : Stt K B ρ σ G H) (h : getL ρ i = some t) : ∃ (a : Addr) (o : HO), σ[i]? = some (some (.ref a)) ∧ H a = some o ∧ G a = none ∧ LtO K G o t ∧
    (∀ (t' : Lt) (o' : HO) (G' H' : Hp), ExtB a G H G' H' → H' a = some o' → LtO K G' o' t' → Stt K B (setL ρ i t') σ G' H') ∧ ∀ (G' H' : Hp), ExtB a G H G' H' → Stt K B (ρ.set i none) σ G' H' := by
  unfold getL at h
  unfold setL
  split at h
  · rename_i t0 hi
    cases h
    obtain ⟨a, o, h1, h2, h3, h4, h5, h6⟩ := S.oo i t hi
    rw [hi]
    refine ⟨a, o, h1, h2, h3, h6, fun t' o' G' H' e k1 k2 => ?_, fun G' H' e => ?_⟩
    · exact S.chg h1 h3 (by rw [h2]; intro z; cases z) h4 (.inl ⟨_, hi, h5, .inl ⟨t', rfl⟩⟩) e fun t2 z => ⟨o', k1, by rcases z with z | z <;> cases z; exact k2⟩
    · exact S.chg h1 h3 (by rw [h2]; intro z; cases z) h4 (.inl ⟨_, hi, h5, .inr rfl⟩) e fun t2 z => by rcases z with z | z <;> cases z
  · rename_i t0 hi
    cases h
    obtain ⟨a, o, h0, h1, h2, h6⟩ := S.bb i t hi
    obtain ⟨h3, h4, _⟩ := S.nb a h0
    rw [hi]
    refine ⟨a, o, h1, h2, h3, h6, fun t' o' G' H' e k1 k2 => ?_, fun G' H' e => ?_⟩
    · exact S.chg h1 h3 (by rw [h2]; intro z; cases z) h4 (.inr ⟨_, hi, h0, .inl ⟨t', rfl⟩⟩) e fun t2 z => ⟨o', k1, by rcases z with z | z <;> cases z; exact k2⟩
    · exact S.chg h1 h3 (by rw [h2]; intro z; cases z) h4 (.inr ⟨_, hi, h0, .inr rfl⟩) e fun t2 z => by rcases z with z | z <;> cases z
  · cases h
end

/-! ### defs whose first parameter is lent -/
inductive RsB where
  | ok (x : D) (t : Lt) | er (x : Ex) | stuck
abbrev FmB := Lt → List D → RsB
def PostB (K : PySem.W.Frag) (a : Addr) (G H : Hp) (Q : VK) (E : XK) : RsB → Prop
  | .ok x t => ∀ (v : V) (o : HO) (G' H' : Hp), ExtB a G H G' H' → H' a = some o → LtO K G' o t → At K G' v x → Q v H'
  | .er x => ∀ (cls : Value) (d : Option Addr) (G' H' : Hp), ExtB a G H G' H' → ExAt K G' H' cls d x → E cls d H'
  | .stuck => False
def spB (K : PySem.W.Frag) (n : Nat) (m : FmB) : Sp := fun vs H Q E => vs.length = n ∧ ∃ (a : Addr) (o : HO) (vs' : List V) (G : Hp) (t : Lt) (ds : List D), vs = .ref a :: vs' ∧ Same G H ∧ G a = none ∧ H a = some o ∧ LtO K G o t ∧ Ats K G vs' ds ∧ PostB K a G H Q E (m t ds)
def start1 (N : Nat) (t : Lt) (ds : List D) : En := some (.bor t) :: start0 (N - 1) ds
def obr (x : D) (ρ : En) : RsB := match (ρ[0]? : Option (Option Cl)) with
  | some (some (.bor t)) => .ok x t
  | _ => .stuck
def outB : Out → RsB
  | .nx ρ => obr .non ρ
  | .rt x ρ => obr x ρ
  | .ro xs ρ => obr (.lst xs) ρ
  | .er x _ => .er x
  | _ => .stuck
theorem obr_of {K : PySem.W.Frag} {a : Addr} {G H : Hp} {Q : VK} {E : XK} {x : D} {ρ : En} (h : PostB K a G H Q E (obr x ρ)) : ∃ t, ρ[0]? = some (some (.bor t)) ∧ PostB K a G H Q E (.ok x t) := by
  unfold obr at h
  split at h
  · rename_i t e
    exact ⟨t, e, h⟩
  · exact h.elim
def fmB (n N : Nat) (F : En → Out) : FmB := fun t ds => match Nat.beq (ds.length + 1) n with
  | true => outB (F (start1 N t ds))
  | false => .stuck
abbrev gdB (G H : Hp) (a : Addr) : Gd := ⟨G, fun b => if b = a then none else H b, some a⟩
theorem Stt.startB {K : PySem.W.Frag} {G H : Hp} {a : Addr} {o : HO} {t : Lt} {vs : List V} {ds : List D} {N : List Str} (s : Same G H) (ga : G a = none) (ha : H a = some o) (l : LtO K G o t) (av : Ats K G vs ds) (hl : ds.length + 1 ≤ N.length) :
    Stt K (gdB G H a) (start1 N.length t ds) (L2.start N (.ref a :: vs)) G H := by
  cases N with
  | nil => simp at hl
  | cons n0 N =>
    have S0 : Stt K (gd0 G H) (start0 N.length ds) (L2.start N vs) G H := Stt.start s av (by simpa using hl)
    have es : L2.start (n0 :: N) (.ref a :: vs) = some (.ref a) :: L2.start N vs := by
      unfold L2.start
      simp
    rw [es]
    show Stt K (gdB G H a) (some (.bor t) :: start0 N.length ds) _ G H
    refine ⟨s, Same.refl _, fun b u q => ?_, fun b h1 _ => h1, fun b hb => ?_, ?_, fun i x h => ?_, fun i x h => ?_, fun i x h => ?_, fun i j x y b h1 h2 h3 h4 => ?_, fun i j x y h1 h2 => ?_⟩
    · have q' : (if b = a then none else H b) = some u := q
      by_cases e : b = a
      · rw [if_pos e] at q'; cases q'
      · rw [if_neg e] at q'; exact q'
    · cases hb
      exact ⟨ga, if_pos rfl, by rw [ha]; intro z; cases z⟩
    · simp only [List.length_cons]
      exact congrArg Nat.succ S0.len
    · cases i with
      | zero => cases h
      | succ i => exact S0.dd i x (by simpa using h)
    · cases i with
      | zero => cases h
      | succ i =>
        obtain ⟨b, u, h1, h2, h3, h4, h5, h6⟩ := S0.oo i x (by simpa using h)
        have h4' : H b = none := h4
        rw [h2] at h4'
        cases h4'
    · cases i with
      | zero => cases h; exact ⟨a, o, rfl, rfl, ha, l⟩
      | succ i =>
        obtain ⟨b, u, h1, _⟩ := S0.bb i x (by simpa using h)
        cases h1
    · cases i with
      | zero => cases h1
      | succ i =>
        obtain ⟨b, u, h1, h2, h3, h4, h5, h6⟩ := S0.oo i x (by simpa using h1)
        have h4' : H b = none := h4
        rw [h2] at h4'
        cases h4'
    · cases i with
      | zero =>
        cases j with
        | zero => rfl
        | succ j =>
          obtain ⟨b, u, h1, _⟩ := S0.bb j y (by simpa using h2)
          cases h1
      | succ i =>
        obtain ⟨b, u, h1, _⟩ := S0.bb i x (by simpa using h1)
        cases h1
theorem Stt.growB {K : PySem.W.Frag} {G0 H0 : Hp} {a : Addr} {ρ : En} {σ : L2.St} {G H : Hp} (S : Stt K (gdB G0 H0 a) ρ σ G H) : ExtB a G0 H0 G H where
  g := S.gg
  h := fun b o hb q => S.hh b o (show (if b = a then none else H0 b) = some o by rw [if_neg hb]; exact q)
  s := S.sub
  n := fun b h1 h2 => by
    by_cases e : b = a
    · rw [e]; exact (S.nb a rfl).1
    · exact S.nw b h1 (show (if b = a then none else H0 b) ≠ none by rw [if_neg e]; exact h2)
  t := (S.nb a rfl).2.2
theorem Stt.bor0 {K : PySem.W.Frag} {G0 H0 : Hp} {a : Addr} {ρ : En} {σ : L2.St} {G H : Hp} {t : Lt} (S : Stt K (gdB G0 H0 a) ρ σ G H) (h : ρ[0]? = some (some (.bor t))) : ∃ o, H a = some o ∧ LtO K G o t := by
  obtain ⟨b, o, h0, _, h2, h3⟩ := S.bb 0 t h
  cases h0
  exact ⟨o, h2, h3⟩
section
variable {P : Program} {w : World} {K : PySem.W.Frag} {mg : Str → Option Value} {base : Heap} {x qual : Str} {params : Arguments} {body : List Stmt} {scope : Scope} {dvs : List V} {kws : List (Str × V)} {f : Addr} {fd : FuncData} {N ps : List Str} {k : Nat}
theorem PostB.of_out {F : En → Out} {G H : Hp} {a : Addr} {Q : VK} {E : XK} {t : Lt} {ds : List D} (h : PostB K a G H Q E (outB (F (start1 N.length t ds)))) :
    PostS K (gdB G H a) G (fun cls d _ H => E cls d H) { nx := fun _ H' => Q .non H', rt := Q } (F (start1 N.length t ds)) := by
  revert h
  cases F (start1 N.length t ds) with
  | nx ρ' =>
    intro h σ' G' H' e S
    obtain ⟨t', e', h⟩ := obr_of (show PostB K a G H Q E (obr .non ρ') from h)
    obtain ⟨o, h1, h2⟩ := S.bor0 e'
    exact h .non o G' H' S.growB h1 h2 .non
  | rt x ρ' =>
    intro h v σ' G' H' e S av
    obtain ⟨t', e', h⟩ := obr_of (show PostB K a G H Q E (obr x ρ') from h)
    obtain ⟨o, h1, h2⟩ := S.bor0 e'
    exact h v o G' H' S.growB h1 h2 av
  | ro xs ρ' =>
    intro h a2 vs σ' G' H' e S h1 h2 h3 h4 h5
    obtain ⟨t', e', h⟩ := obr_of (show PostB K a G H Q E (obr (.lst xs) ρ') from h)
    obtain ⟨o, k1, k2⟩ := S.bor0 e'
    have hx := S.growB
    have hne : a2 ≠ a := fun z => h4 (by rw [z])
    have hg : Same G' (upd G' a2 (.lst vs)) := fun b u q => by rw [upd_ne (ne_of_none q h2)]; exact q
    refine h (.ref a2) o (upd G' a2 (.lst vs)) H' ⟨hx.g.trans hg, hx.h, fun b u q => ?_, fun b q1 q2 => ?_, hx.t⟩ k1 (k2.mono hg) (.lst upd_same (h5.mono hg))
    · by_cases z : b = a2
      · rw [z, upd_same] at q
        rw [z, h1]
        exact q
      · rw [upd_ne z] at q
        exact S.sub b u q
    · rw [upd_ne fun z => q2 (by
        rw [z]
        have h3' : (if a2 = a then none else H a2) = none := h3
        rwa [if_neg hne] at h3')]
      exact hx.n b q1 q2
  | er x ρ' => exact fun h c d σ' G' H' e S a => h c d G' H' S.growB a
  | bk ρ' => exact fun h => h.elim
  | ct ρ' => exact fun h => h.elim
  | stuck => exact fun h => h.elim
theorem fnB_ok {F : En → Out} (F0 : FunD K x qual params body scope dvs kws f fd) (S : FnScope N ps scope)
    (hb : ∀ (cdv : Value) (A : Around) (outer : List Env) (s : Shared) (H : Hp) (E : XK), Bd (cxOf (L2.CX P w) P w K mg base N qual scope f cdv A outer s H E) (fun cls d _ H => E cls d H) k →
      PassesOwn (model P w) (A.deeper (envOfC qual scope s.heap.objs.size f cdv)) (envOfC qual scope s.heap.objs.size f cdv) (cxOf (L2.CX P w) P w K mg base N qual scope f cdv A outer s H E).xe →
      DSs (cxOf (L2.CX P w) P w K mg base N qual scope f cdv A outer s H E) (fun cls d _ H => E cls d H) body F) :
    FnOk P w K mg base (L2.CX P w) (k + 1) f fd ps (spB K ps.length (fmB ps.length N.length F)) := by
  refine F0.ok S (fun vs H Q E h => h.1) fun cdv A outer s H vs Q E hr h => ?_
  obtain ⟨hl, a, o, vs', G, t, ds, rfl, sm, ga, ha, lt, av, q⟩ := h
  have hld : ds.length + 1 = ps.length := by rw [← av.length]; exact hl
  have tk : Takes (cxOf (L2.CX P w) P w K mg base N qual scope f cdv A outer s H E) (fun cls d _ H => E cls d H) := takes_of rfl rfl rfl (E₁ := fun e' s'' => L2.CX P w outer H s E e' s'') rfl
  refine ⟨_, hb cdv A outer s H E ⟨tk, hr, rfl⟩ (passes_of (X := cxOf (L2.CX P w) P w K mg base N qual scope f cdv A outer s H E) rfl), ?_⟩
  have hN : ps.length ≤ N.length := by have := congrArg List.length S.pre; rw [List.length_take] at this; omega
  refine ⟨gdB G H a, start1 N.length t ds, G, Stt.startB sm ga ha lt av (by omega), ?_⟩
  have e : fmB ps.length N.length F t ds = outB (F (start1 N.length t ds)) := by
    unfold fmB
    rw [hld, Nat.beq_refl]
  rw [e] at q
  exact PostB.of_out (N := N) q
structure HasB (P : Program) (w : World) (K : PySem.W.Frag) (mg : Str → Option Value) (base : Heap) (k : Nat) (f : Addr) (dvs : List D) (m : FmB) : Prop where
  ex : ∃ (fd : FuncData) (ps : List Str) (ds : List Value) (vs : List V), FnOk P w K mg base (L2.CX P w) k f fd ps (spB K ps.length m) ∧ PySem.W.keepIn K (.ref f) = true ∧ Binds K fd ps ds ∧ Vals vs ds ∧ (∀ G, Ats K G vs dvs) ∧ ∀ t l, m t l ≠ .stuck → l.length + 1 = ps.length
theorem HasB.mono {j : Nat} {dvs : List D} {m : FmB} (h : HasB P w K mg base j f dvs m) (e : j ≤ k) : HasB P w K mg base k f dvs m :=
  let ⟨fd, ps, ds, vs, h1, h2, h3, h4, h5, h6⟩ := h.ex
  ⟨fd, ps, ds, vs, h1.mono e, h2, h3, h4, h5, h6⟩
theorem fmB_len {n N : Nat} {F : En → Out} {t : Lt} {ds : List D} (h : fmB n N F t ds ≠ .stuck) : ds.length + 1 = n := by
  unfold fmB at h
  cases e : Nat.beq (ds.length + 1) n with
  | true => exact Nat.eq_of_beq_eq_true e
  | false => rw [e] at h; exact absurd rfl h
theorem PostB.nst {a : Addr} {G H : Hp} {Q : VK} {E : XK} {r : RsB} (h : PostB K a G H Q E r) : r ≠ .stuck := by
  intro z
  rw [z] at h
  exact h
end

/-! ### a call with a lent thing -/
def lentM (m : FmB) (dvs : List D) (i : Nat) (ds : List D) : M D := fun ρ => match getL ρ i with
  | some t => (match m t (ds ++ dvs) with
    | .ok x t' => .ok x (setL ρ i t')
    | .er x => .er x (ρ.set i none)
    | .stuck => .stuck)
  | none => .stuck
section
variable {X : Cx} {W : WX} {j k : Nat} {m : FmB} {dvs : List D} {x y : Str} {e o : Expr} {es : List Expr} {fs : M (List D)} {fo : M D} {p p2 pos apos : Pos}
theorem run_lent {f : Addr} {ds : List D} {B : Gd} {ρ : En} {σ : L2.St} {G H : Hp} {pins : List (Addr × Obj)} {s : Shared} {Q : VK} {us : List Value} {vs : List V} {a : Addr} {i : Nat} (h : HasB X.prog X.w X.K X.mg X.base k f dvs m) (tk : Takes X W) (hr : Room k X.A) (I : Inv X pins σ H s) (S : Stt X.K B ρ σ G H) (r : Vals vs us) (av : Ats X.K G vs ds)
    (hs : σ[i]? = some (some (.ref a))) (q : PostE X.K B σ G W Q (lentM m dvs i ds ρ)) : wpAny (model X.prog X.w) X.A (call (.ref f) (.ref a :: us)) (EP X pins σ Q) X.xe s := by
  obtain ⟨fd, ps, dl, vl, F, kp, hb, hd, hA, hl⟩ := h.ex
  have a2 : Ats X.K G (vs ++ vl) (ds ++ dvs) := av.append (hA G)
  unfold lentM at q
  cases eg : getL ρ i with
  | none => rw [eg] at q; exact q.elim
  | some t =>
    rw [eg] at q
    dsimp only at q
    obtain ⟨a', o, h1, h2, h3, h4, h5, h6⟩ := S.lent eg
    rw [hs] at h1
    cases h1
    refine run_fnSD (E := WE W) (vs := .ref a :: vs) F hr hb hd (passAt tk σ) I (.cons rfl r) ⟨?_, a, o, vs ++ vl, G, t, ds ++ dvs, rfl, S.sub, h3, h2, h4, a2, ?_⟩
    · have : m t (ds ++ dvs) ≠ .stuck := fun z => by rw [z] at q; exact q
      have := hl _ _ this
      show (vs ++ vl).length + 1 = _
      rw [a2.length]
      exact this
    · revert q
      cases m t (ds ++ dvs) with
      | ok z t' => exact fun q v o' G' H' e k1 k2 k3 => q v G' H' e.g (h5 t' o' G' H' e k1 k2) k3
      | er z => exact fun q c d G' H' e k1 => q c d G' H' e.g (h6 G' H' e) k1
      | stuck => exact fun q => q
/-- the slot i holds a thing that may be changed -/
def hold {α : Type} (i : Nat) (f : M α) : M α := fun ρ => match getL ρ i with
  | some _ => f ρ
  | none => .stuck
theorem PostE.hold {B : Gd} {ρ : En} {σ : L2.St} {G H : Hp} {Q : VK} {i : Nat} {f : M D} {K : PySem.W.Frag} (S : Stt K B ρ σ G H) (q : PostE K B σ G W Q (hold i f ρ)) : (∃ a, σ[i]? = some (some (.ref a))) ∧ PostE K B σ G W Q (f ρ) := by
  unfold DL.hold at q
  cases eg : getL ρ i with
  | none => rw [eg] at q; exact q.elim
  | some t =>
    rw [eg] at q
    obtain ⟨a, _, h1, _⟩ := S.lent eg
    exact ⟨⟨a, h1⟩, q⟩
theorem de_lent (i : Nat) (hF : HasB X.prog X.w X.K X.mg X.base j (He.ga X.K x) dvs m) (b : Bd X W k) (hj : j ≤ k) (hg : Gl X x) (hm : X.mg x = some (.ref (He.ga X.K x))) (ha : DA X W es fs) (hN : X.N[i]? = some y := by rfl) (hv : Vis X.env.scope y := by first | exact Or.inl rfl | exact Or.inr (Or.inl rfl) | exact Or.inr (Or.inr rfl))
    (hd : (y == ("__debug__" : Str)) = false := by decide) (hcd : (y == ("__classdict__" : Str)) = false := by decide) (hdb : (x == ("__debug__" : Str)) = false := by decide)
    (he : starEach (.Name y p2 :: es) X.env = (false, eval (.Name y p2) X.env) :: starEach es X.env := by rfl) (hpl : (backTo pos (starEach es X.env)).any (·.1) = false := by rfl) : DE X W (.Call (.Name x p) (.Name y p2 :: es) [] pos) (hold i (bd fs (lentM m dvs i))) := by
  refine ⟨fun pins s σ H Q I q => ?_⟩
  obtain ⟨B, ρ, G, S, q⟩ := q
  obtain ⟨⟨a, hs⟩, q⟩ := PostE.hold S q
  have kp : PySem.W.keepIn X.K (.ref (He.ga X.K x)) = true := let ⟨_, _, _, _, _, h, _⟩ := hF.ex; h
  refine wpAny_Call_Name_kw (ld_glob I hg hm ?_ hdb)
  have pa : PA X (.Name y p2 :: es) (tCons (tVar i) (tA X.K W fs)) := pa_cons (pe_var hN hv hd hcd) ha he
  have hp : tA X.K W fs σ H fun vs H1 => ∃ G1 xs ρ1, Stt X.K B ρ1 σ G1 H1 ∧ Ats X.K G1 vs xs ∧ PostE X.K B σ G1 W Q (lentM m dvs i xs ρ1) := tA_bdE S q fun vs G1 H1 xs ρ1 e1 S1 A1 q1 => ⟨G1, xs, ρ1, S1, A1, q1⟩
  refine PySem.W.callWith_K (h₀ := X.base) I.ok.mod.kin kp (thn (pa.run pos pins s σ H (fun vs H1 => ∃ G1 vs' xs ρ1, vs = .ref a :: vs' ∧ Stt X.K B ρ1 σ G1 H1 ∧ Ats X.K G1 vs' xs ∧ PostE X.K B σ G1 W Q (lentM m dvs i xs ρ1)) I ⟨.ref a, hs, ?_⟩) fun us s1 ⟨vs, H1, I1, r1, G1, vs', xs, ρ1, ev, S1, A1, q1⟩ => ⟨I1.kIn, ?_⟩) he hpl
  · obtain ⟨B', ρ', G', S', q'⟩ := hp
    exact ⟨B', ρ', G', S', by
      revert q'
      cases fs ρ' with
      | ok l ρ2 => exact fun q' vs G2 H2 e S2 A2 => let ⟨G1, xs, ρ1, k1, k2, k3⟩ := q' vs G2 H2 e S2 A2; ⟨G1, vs, xs, ρ1, rfl, k1, k2, k3⟩
      | er z ρ2 => exact fun q' => q'
      | stuck => exact fun q' => q'⟩
  · subst ev
    cases r1 with
    | cons ru rr =>
      cases ru
      exact run_lent hF b.tk (b.hr.mono hj) I1 S1 rr A1 hs q1
end
end DL


set_option Elab.async false
set_option linter.all false
set_option maxRecDepth 100000
set_option maxHeartbeats 4000000
/-! DL7: fields, instances made, own operators, isinstance. -/
namespace DL
open PySem PySem.Spec PyProof.Rows L2

/-! ### fields -/
/-- the classes of which the field f is known -/
abbrev CT := Str → Bool
def ct0 : CT := fun _ => false
def ct1 (c : Str) (T : CT) : CT := fun x => (x == c) || T x
structure FOk (K : PySem.W.Frag) (f : Str) (T : CT) : Prop where
  ok : ∀ c, T c = true → Cls K (He.ga K c) ∧ NoAttr K (He.ga K c) f
theorem fok0 {K : PySem.W.Frag} {f : Str} : FOk K f ct0 := ⟨fun _ h => nomatch h⟩
theorem fok1 {K : PySem.W.Frag} {f c : Str} {T : CT} (h1 : Cls K (He.ga K c)) (h2 : NoAttr K (He.ga K c) f) (h : FOk K f T) : FOk K f (ct1 c T) := ⟨fun x hx => by
  rcases Bool.or_eq_true_iff.mp hx with e | e
  · rw [eq_of_beq e]; exact ⟨h1, h2⟩
  · exact h.ok x e⟩
def fldO (T : CT) (f : Str) : D → Option D
  | .obj c fs => (match T c with
    | true => fs.lookup f
    | false => none)
  | _ => none
def fldD (T : CT) (f : Str) (x : D) : M D := match fldO T f x with
  | some y => rt y
  | none => stk
/-- .. of the name at slot i -/
def fldN (i : Nat) (T : CT) (f : Str) : M D := fun ρ => match ρ[i]? with
  | some (some (.d x)) => fldD T f x ρ
  | some (some (.own t)) => fldD T f t.dat ρ
  | some (some (.bor t)) => fldD T f t.dat ρ
  | _ => .stuck
theorem fldO_at {K : PySem.W.Frag} {G H : Hp} {T : CT} {f : Str} {x y : D} {v : V} (F : FOk K f T) (s : Same G H) (a : At K G v x) (q : fldO T f x = some y) :
    ∃ (b C dx : Addr) (fs : List (Str × V)) (u : V), v = .ref b ∧ H b = some (.ins C dx fs) ∧ Cls K C ∧ NoAttr K C f ∧ fs.lookup f = some u ∧ At K G u y := by
  cases a with
  | obj h1 h2 =>
    rename_i b dx c vs fl
    have q' : (match T c with
      | true => fl.lookup f
      | false => none) = some y := q
    cases e : T c with
    | false => rw [e] at q'; cases q'
    | true =>
      rw [e] at q'
      obtain ⟨u, l, au⟩ := h2.look q'
      obtain ⟨k1, k2⟩ := F.ok c e
      exact ⟨b, _, dx, vs, u, rfl, s _ _ h1, k1, k2, l, au⟩
  | _ => cases q
section
variable {X : Cx} {W : WX} {j k : Nat} {m : FmB} {dvs : List D} {x y f : Str} {e o : Expr} {es : List Expr} {fs : M (List D)} {fo fv : M D} {p p2 pos apos pos' : Pos} {T : CT}
theorem de_fld (ho : DE X W o fo) (F : FOk X.K f T) (hb : attributeBase o f X.env (eval o X.env) = eval o X.env := by rfl) : DE X W (.Attribute o f pos) (bd fo (fldD T f)) :=
  PE.imp (pe_fld ho hb) fun σ H Q ⟨B, ρ, G, S, q⟩ => tD_bdE S q fun v G1 H1 x ρ1 e1 S1 A1 q1 => by
    unfold fldD at q1
    cases e : fldO T f x with
    | none => rw [e] at q1; exact q1.elim
    | some y =>
      rw [e] at q1
      obtain ⟨b, C, dx, fs, u, rfl, h1, h2, h3, h4, h5⟩ := fldO_at F S1.sub A1 e
      exact ⟨b, C, dx, fs, u, rfl, h1, h2, h3, h4, now S1 q1 h5⟩
theorem de_fldN (i : Nat) (F : FOk X.K f T) (hN : X.N[i]? = some x := by rfl) (hv : Vis X.env.scope x := by first | exact Or.inl rfl | exact Or.inr (Or.inl rfl) | exact Or.inr (Or.inr rfl)) (hd : (x == ("__debug__" : Str)) = false := by decide)
    (hcd : (x == ("__classdict__" : Str)) = false := by decide) (hb : attributeBase (.Name x p) f X.env (eval (.Name x p) X.env) = eval (.Name x p) X.env := by rfl) : DE X W (.Attribute (.Name x p) f pos) (fldN i T f) := by
  refine PE.imp (pe_fld (pe_var hN hv hd hcd) hb) fun σ H Q ⟨B, ρ, G, S, q⟩ => ?_
  unfold fldN at q
  have key : ∀ {z : D} {v : V} {G1 : Hp}, Same G1 H → At X.K G1 v z → (∀ {u : V} {y : D}, At X.K G1 u y → fldO T f z = some y → Q u H) → PostE X.K B σ G W Q (fldD T f z ρ) → σ[i]? = some (some v) → tFld X.K (tVar i) f σ H Q := fun {z v G1} s1 a hq q hs => by
    unfold fldD at q
    cases e : fldO T f z with
    | none => rw [e] at q; exact q.elim
    | some y =>
      obtain ⟨b, C, dx, fs, u, rfl, h1, h2, h3, h4, h5⟩ := fldO_at F s1 a e
      exact ⟨_, hs, b, C, dx, fs, u, rfl, h1, h2, h3, h4, hq h5 e⟩
  split at q
  · rename_i z hi
    obtain ⟨v, h1, h2⟩ := S.dd i z hi
    refine key S.sub h2 (fun {u y} a e => ?_) q h1
    unfold fldD at q
    rw [e] at q
    exact now S q a
  · rename_i t hi
    obtain ⟨a, o, h1, h2, h3, h4, h5, h6⟩ := S.oo i t hi
    -- a reading of the thing itself, unfrozen
    have e0 : Same G (upd G a o) := fun b u z => by rw [upd_ne (ne_of_none z h3)]; exact z
    have e1 : Same (upd G a o) H := fun b u z => by
      by_cases hb : b = a
      · rw [hb, upd_same] at z; rw [hb, h2]; exact z
      · rw [upd_ne hb] at z; exact S.sub b u z
    have q0 := q
    unfold fldD at q0
    cases t with
    | lst xs => exact q0.elim
    | ins c fl =>
      cases h6 with
      | ins l =>
        cases e : fldO T f (.obj c fl) with
        | none => rw [show fldO T f (Lt.ins c fl).dat = none from e] at q0; exact q0.elim
        | some y =>
          rw [show fldO T f (Lt.ins c fl).dat = some y from e] at q0
          have e' : (match T c with
            | true => fl.lookup f
            | false => none) = some y := e
          cases eT : T c with
          | false => rw [eT] at e'; cases e'
          | true =>
            rw [eT] at e'
            obtain ⟨u, l1, au⟩ := l.look e'
            obtain ⟨k1, k2⟩ := F.ok c eT
            exact ⟨_, h1, a, _, _, _, u, rfl, h2, k1, k2, l1, now S q0 au⟩
  · rename_i t hi
    obtain ⟨a, o, h0, h1, h2, h6⟩ := S.bb i t hi
    have q0 := q
    unfold fldD at q0
    cases t with
    | lst xs => exact q0.elim
    | ins c fl =>
      cases h6 with
      | ins l =>
        cases e : fldO T f (.obj c fl) with
        | none => rw [show fldO T f (Lt.ins c fl).dat = none from e] at q0; exact q0.elim
        | some y =>
          rw [show fldO T f (Lt.ins c fl).dat = some y from e] at q0
          have e' : (match T c with
            | true => fl.lookup f
            | false => none) = some y := e
          cases eT : T c with
          | false => rw [eT] at e'; cases e'
          | true =>
            rw [eT] at e'
            obtain ⟨u, l1, au⟩ := l.look e'
            obtain ⟨k1, k2⟩ := F.ok c eT
            exact ⟨_, h1, a, _, _, _, u, rfl, h2, k1, k2, l1, now S q0 au⟩
  · exact q.elim

/-! ### a field set -/
def putD (f : Str) (x : D) : List (Str × D) → List (Str × D)
  | [] => [(f, x)]
  | p :: r => match decide (p.1 = f) with
    | true => (p.1, x) :: r
    | false => p :: putD f x r
theorem AtF.put {K : PySem.W.Frag} {H : Hp} {g : Str} {v : V} {z : D} (h : At K H v z) : ∀ {vs : List (Str × V)} {ds : List (Str × D)}, AtF K H vs ds → AtF K H (putF g v vs) (putD g z ds)
  | _, _, .nil => .cons h .nil
  | _, _, .cons (f := f0) h1 t => by
    unfold putF putD
    by_cases e : f0 = g
    · rw [if_pos e]
      simp only [decide_eq_true e]
      exact .cons h t
    · rw [if_neg e]
      simp only [decide_eq_false e]
      exact .cons h1 (AtF.put h t)
def setFt (T : CT) (f : Str) (x : D) : Lt → Option Lt
  | .ins c fs => (match T c && Nat.blt fs.length 1000 with
    | true => some (.ins c (putD f x fs))
    | false => none)
  | _ => none
/-- name.f = value -/
def setF (i : Nat) (T : CT) (f : Str) (fv : M D) : En → Out := fun ρ => match getL ρ i with
  | none => .stuck
  | some _ => (match fv ρ with
    | .er x ρ1 => .er x ρ1
    | .stuck => .stuck
    | .ok x ρ1 => (match getL ρ1 i with
      | none => .stuck
      | some t => (match setFt T f x t with
        | some t' => .nx (setL ρ1 i t')
        | none => .stuck)))
theorem ds_fld (i : Nat) (F : FOk X.K f T) (hv : DE X W e fv) (hN : X.N[i]? = some x := by rfl) (hvis : Vis X.env.scope x := by first | exact Or.inl rfl | exact Or.inr (Or.inl rfl) | exact Or.inr (Or.inr rfl)) (hd : (x == ("__debug__" : Str)) = false := by decide)
    (hcd : (x == ("__classdict__" : Str)) = false := by decide) (hs : swapsWith e (some (.Attribute (.Name x p) f pos')) pos.line X.env = pure false := by rfl) : DS X W (.Assign [.Attribute (.Name x p) f pos'] e pos) (setF i T f fv) := by
  refine PS.imp (ps_fld (pe_var hN hvis hd hcd) hv hs) fun D' σ H ⟨B, ρ, G, S, q⟩ => ?_
  unfold setF at q
  cases eg : getL ρ i with
  | none => rw [eg] at q; exact q.elim
  | some t0 =>
    rw [eg] at q
    obtain ⟨a, _, hs, _⟩ := S.lent eg
    refine ⟨B, ρ, G, S, ?_⟩
    revert q
    cases fv ρ with
    | er z ρ1 => exact fun q c d G' H' e1 S1 a1 => q c d σ G' H' e1 S1 a1
    | stuck => exact fun q => q
    | ok z ρ1 =>
      intro q v G1 H1 e1 S1 A1
      dsimp only at q
      cases eg1 : getL ρ1 i with
      | none => rw [eg1] at q; exact q.elim
      | some t =>
        rw [eg1] at q
        dsimp only at q
        obtain ⟨a', o', hs', h2, h3, h4, h5, _⟩ := S1.lent eg1
        rw [hs] at hs'
        cases hs'
        cases es : setFt T f z t with
        | none => rw [es] at q; exact q.elim
        | some t' =>
          rw [es] at q
          cases h4 with
          | lst l => cases es
          | ins l =>
            rename_i dx c vs fl
            have es' : (match T c && Nat.blt fl.length 1000 with
              | true => some (Lt.ins c (putD f z fl))
              | false => none) = some t' := es
            cases ec : T c && Nat.blt fl.length 1000 with
            | false => rw [ec] at es'; cases es'
            | true =>
              rw [ec] at es'
              cases es'
              obtain ⟨k1, k2⟩ := Bool.and_eq_true_iff.mp ec
              obtain ⟨c1, c2⟩ := F.ok c k1
              refine ⟨.ref a, hs, a, _, _, _, rfl, h2, c1, c2, by rw [l.length]; exact Nat.le_of_ble_eq_true k2, ?_⟩
              refine q σ G1 _ e1 (h5 _ _ G1 _ (ExtB.upd (K := X.K) S1.sub h3) upd_same (.ins (l.put A1)))
end

/-! ### an instance made -/
def makeM (c : Str) (m : FmB) (dvs : List D) (ds : List D) : M D := fun ρ => match m (.ins c []) (ds ++ dvs) with
  | .ok .non t => .ok t.dat ρ
  | .er x => .er x ρ
  | _ => .stuck
section
variable {X : Cx} {W : WX} {j k : Nat} {m : FmB} {dvs : List D} {x : Str} {e : Expr} {es : List Expr} {fs : M (List D)} {p pos : Pos}
theorem run_mk {f : Addr} {ds : List D} {B : Gd} {ρ : En} {σ : L2.St} {G H : Hp} {pins : List (Addr × Obj)} {s : Shared} {Q : VK} {us : List Value} {vs : List V} (hM : Mk X.K (He.ga X.K x) f) (hF : HasB X.prog X.w X.K X.mg X.base k f dvs m) (tk : Takes X W) (hr : Room (k + 1) X.A) (I : Inv X pins σ H s) (S : Stt X.K B ρ σ G H)
    (r : Vals vs us) (av : Ats X.K G vs ds) (q : PostE X.K B σ G W Q (makeM x m dvs ds ρ)) : wpAny (model X.prog X.w) X.A (call (.ref (He.ga X.K x)) us) (EP X pins σ Q) X.xe s := by
  obtain ⟨fd, ps, dl, vl, F, kp, hb, hd, hA, hl⟩ := hF.ex
  obtain ⟨n0, hn0⟩ : ∃ n0, n0 = s.heap.objs.size := ⟨_, rfl⟩
  have f1 : H (n0 + 1) = none := I.hok.fresh (by rw [hn0]; exact Nat.le_succ _)
  have f0 : H n0 = none := I.hok.fresh (by rw [hn0]; exact Nat.le_refl _)
  have hne : n0 ≠ n0 + 1 := Nat.ne_of_lt (Nat.lt_succ_self _)
  have I2 : Inv X pins σ (upd (upd H n0 (.own (n0 + 1))) (n0 + 1) (.ins (He.ga X.K x) n0 [])) { s with heap := (s.heap.push PySem.W.emptyDict).push (PySem.W.instObj (He.ga X.K x) n0) } := by
    rw [hn0]
    exact Inv.made I
  obtain ⟨H1, hH1⟩ : ∃ H1, H1 = upd (upd H n0 (.own (n0 + 1))) (n0 + 1) (.ins (He.ga X.K x) n0 []) := ⟨_, rfl⟩
  rw [← hH1] at I2
  have sH : Same H H1 := fun b o z => by
    rw [hH1, upd_ne (ne_of_none z f1), upd_ne (ne_of_none z f0)]
    exact z
  have hx : H1 (n0 + 1) = some (.ins (He.ga X.K x) n0 []) := by rw [hH1, upd_same]
  have gx : G (n0 + 1) = none := Same.free S.sub f1
  have a2 : Ats X.K G (vs ++ vl) (ds ++ dvs) := av.append (hA G)
  -- what __init__ is wanted to do
  have hq : PostB X.K (n0 + 1) G H1 (fun v H2 => v = .non ∧ Q (.ref (n0 + 1)) H2) (fun cls d H' => W cls d σ H') (m (.ins x []) (ds ++ dvs)) := by
    unfold makeM at q
    have back : ∀ {G' H' : Hp} {o : HO} {t : Lt}, ExtB (n0 + 1) G H1 G' H' → H' (n0 + 1) = some o → LtO X.K G' o t → Ext G H (upd G' (n0 + 1) o) H' := fun {G' H' o t} e1 h1 h2 => by
      have g' : G' (n0 + 1) = none := e1.n _ gx (by rw [hx]; intro z; cases z)
      refine ⟨e1.g.trans fun b u z => by rw [upd_ne (ne_of_none z g')]; exact z, fun b u z => e1.h b u (fun y => by rw [y, f1] at z; cases z) (sH b u z), fun b u z => ?_, fun b k1 k2 => ?_⟩
      · by_cases y : b = n0 + 1
        · rw [y, upd_same] at z; rw [y, h1]; exact z
        · rw [upd_ne y] at z; exact e1.s b u z
      · rw [upd_ne fun y => k2 (by rw [y]; exact f1)]
        exact e1.n b k1 (Same.ne sH k2)
    revert q
    cases m (.ins x []) (ds ++ dvs) with
    | ok z t =>
      cases z with
      | non =>
        intro q v o G' H' e1 h1 h2 h3
        have b1 := back e1 h1 h2
        have g' : G' (n0 + 1) = none := e1.n _ gx (by rw [hx]; intro z; cases z)
        cases h3
        exact ⟨rfl, q (.ref (n0 + 1)) _ H' b1.g (S.ext b1) ((h2.mono fun b u z => by rw [upd_ne (ne_of_none z g')]; exact z).at_ upd_same)⟩
      | _ => exact fun q => q.elim
    | er z =>
      intro q c d G' H' e1 h1
      have b1 : Ext G H G' H' := ⟨e1.g, fun b u z => e1.h b u (fun y => by rw [y, f1] at z; cases z) (sH b u z), e1.s, fun b k1 k2 => e1.n b k1 (Same.ne sH k2)⟩
      exact q c d G' H' b1.g (S.ext b1) h1
    | stuck => exact fun q => q.elim
  have hsp : spB X.K ps.length m (.ref (n0 + 1) :: (vs ++ vl)) H1 (fun v H2 => v = .non ∧ Q (.ref (n0 + 1)) H2) (fun cls d H' => W cls d σ H') :=
    ⟨by show (vs ++ vl).length + 1 = _; rw [a2.length]; exact hl _ _ hq.nst, n0 + 1, _, vs ++ vl, G, .ins x [], ds ++ dvs, rfl, S.sub.trans sH, gx, hx, .ins .nil, a2, hq⟩
  have rr : Vals (V.ref (n0 + 1) :: (vs ++ vl)) (Value.ref (n0 + 1) :: (us ++ dl)) := .cons rfl (r.append hd)
  have hlen : (Value.ref (n0 + 1) :: us ++ dl).length = ps.length := by
    have z := rr.length
    rw [F.len _ _ _ _ hsp] at z
    exact z.symm
  subst hn0
  refine wpAny_call (make_map (f := f) I.kIn hM.makes hM.init (beq_iff_eq.mp hM.fn) (codeAny_mono (F.run _ X.stack _ _ ⟨Value.ref (s.heap.objs.size + 1) :: us, []⟩ (Value.ref (s.heap.objs.size + 1) :: (us ++ dl)) _ _ _
    (hr.make _ us []) (I2.env0.make _ us []) (hb _ (Value.ref (s.heap.objs.size + 1) :: us) I2.kIn hlen) rr hsp) fun re s' hre => ?_))
  cases re with
  | error ex => exact passAt tk σ pins _ _ ex s' I2 hre
  | ok fl =>
    cases fl with
    | ret u =>
      obtain ⟨v, H', I3, rv, ev, q3⟩ := I2.after hre
      cases ev
      exact ⟨rv, ⟨V.ref (s.heap.objs.size + 1), H', I3, rfl, q3⟩⟩
    | next => exact hre.elim
    | brk => exact hre.elim
    | cont => exact hre.elim
theorem de_make (hM : Mk X.K (He.ga X.K x) (He.ma X.K (He.ga X.K x) "__init__")) (hF : HasB X.prog X.w X.K X.mg X.base j (He.ma X.K (He.ga X.K x) "__init__") dvs m) (b : Bd X W k) (hj : j + 1 ≤ k) (hg : Gl X x) (hm : X.mg x = some (.ref (He.ga X.K x))) (ha : DA X W (e :: es) fs) (hdb : (x == ("__debug__" : Str)) = false := by decide)
    (he : starEach (e :: es) X.env = (false, eval e X.env) :: starEach es X.env := by rfl) (hpl : (backTo pos (starEach es X.env)).any (·.1) = false := by rfl) : DE X W (.Call (.Name x p) (e :: es) [] pos) (bd fs (makeM x m dvs)) := by
  refine ⟨fun pins s σ H Q I q => ?_⟩
  obtain ⟨B, ρ, G, S, q⟩ := q
  refine wpAny_Call_Name_kw (ld_glob I hg hm ?_ hdb)
  refine PySem.W.callWith_K (h₀ := X.base) I.ok.mod.kin hM.kp (thn (ha.run pos pins s σ H _ I (tA_bdE S q (Q := fun vs H1 => ∃ G1 xs ρ1, Stt X.K B ρ1 σ G1 H1 ∧ Ats X.K G1 vs xs ∧ PostE X.K B σ G1 W Q (makeM x m dvs xs ρ1)) fun vs G1 H1 xs ρ1 e1 S1 A1 q1 => ⟨G1, xs, ρ1, S1, A1, q1⟩))
    fun us s1 ⟨vs, H1, I1, r1, G1, xs, ρ1, S1, A1, q1⟩ => ⟨I1.kIn, run_mk hM hF b.tk (b.hr.mono hj) I1 S1 r1 A1 q1⟩) he hpl
end

/-! ### operators of one's own classes -/
structure OOk (P : Program) (w : World) (K : PySem.W.Frag) (mg : Str → Option Value) (base : Heap) (k : Nat) (n : Str) (T : MT) : Prop where
  ok : ∀ c m dvs, T c = some (m, dvs) → PySem.W.selfFirst K (He.ga K c) = true ∧ Meth K (He.ga K c) n (He.ma K (He.ga K c) n) ∧ HasF P w K mg base k (He.ma K (He.ga K c) n) dvs m
theorem ook0 {P : Program} {w : World} {K : PySem.W.Frag} {mg : Str → Option Value} {base : Heap} {k : Nat} {n : Str} : OOk P w K mg base k n mt0 := ⟨fun _ _ _ h => nomatch h⟩
theorem ook1 {P : Program} {w : World} {K : PySem.W.Frag} {mg : Str → Option Value} {base : Heap} {j k : Nat} {n c : Str} {m : Fm} {dvs : List D} {T : MT} (h1 : PySem.W.selfFirst K (He.ga K c) = true) (h2 : Meth K (He.ga K c) n (He.ma K (He.ga K c) n)) (h3 : HasF P w K mg base j (He.ma K (He.ga K c) n) dvs m) (hj : j ≤ k)
    (hT : OOk P w K mg base k n T) : OOk P w K mg base k n (mt1 c m dvs T) := ⟨fun c' m' dvs' h => by
  unfold mt1 at h
  cases e : c' == c with
  | true =>
    rw [e] at h
    cases h
    rw [eq_of_beq e]
    exact ⟨h1, h2, h3.mono hj⟩
  | false =>
    rw [e] at h
    exact hT.ok c' m' dvs' h⟩
def ownT (T : MT) : D → D → Option (Fm × List D)
  | .obj c _, .obj c' _ => (match c == c' with
    | true => T c
    | false => none)
  | _, _ => none
def ownO (T : MT) (u : OpF) : OpF := fun x y => match ownT T x y with
  | some p => callM p.1 p.2 [x, y]
  | none => u x y
theorem ownT_at {T : MT} {K : PySem.W.Frag} {G H : Hp} {v w : V} {x y : D} {p : Fm × List D} (s : Same G H) (a : At K G v x) (b : At K G w y) (q : ownT T x y = some p) :
    ∃ (c : Str) (a1 b1 dx dy : Addr) (fs gs : List (Str × V)), v = .ref a1 ∧ w = .ref b1 ∧ H a1 = some (.ins (He.ga K c) dx fs) ∧ H b1 = some (.ins (He.ga K c) dy gs) ∧ T c = some p := by
  cases a with
  | obj h1 h2 =>
    cases b with
    | obj k1 k2 =>
      rename_i a1 dx c vs ds b1 dy c' ws es
      have q' : (match c == c' with
        | true => T c
        | false => none) = some p := q
      cases e : c == c' with
      | false => rw [e] at q'; cases q'
      | true =>
        rw [e] at q'
        have ec := eq_of_beq e
        subst ec
        exact ⟨c, a1, b1, dx, dy, vs, ws, rfl, rfl, s _ _ h1, s _ _ k1, q'⟩
    | _ => cases q
  | _ => cases q
section
variable {X : Cx} {W : WX} {k : Nat} {T : MT}
theorem ep_cmp {pins : List (Addr × Obj)} {σ : L2.St} {Q : VK} {v : Value} {s' : Shared} (h : EP X pins σ Q v s') : PySem.W.CmpBack (EP X pins σ Q) v s' := by
  obtain ⟨y, H', I', r, q⟩ := h
  cases y with
  | non => cases r; exact ⟨.non, H', I', rfl, q⟩
  | bl b => cases r; exact ⟨.bl b, H', I', rfl, q⟩
  | int i => obtain ⟨t, rfl⟩ := r; exact ⟨.int i, H', I', ⟨t, rfl⟩, q⟩
  | str i => obtain ⟨t, rfl⟩ := r; exact ⟨.str i, H', I', ⟨t, rfl⟩, q⟩
  | byt i => obtain ⟨t, rfl⟩ := r; exact ⟨.byt i, H', I', ⟨t, rfl⟩, q⟩
  | flt i => obtain ⟨t, rfl⟩ := r; exact ⟨.flt i, H', I', ⟨t, rfl⟩, q⟩
  | ref a => cases r; exact ⟨.ref a, H', I', rfl, q⟩
  | ty n => cases r; exact ⟨.ty n, H', I', rfl, q⟩
theorem opd_own {op : Operator} {u : OpF} (hT : OOk X.prog X.w X.K X.mg X.base k (PySem.dunder op.info.2) T) (tk : Takes X W) (hr : Room k X.A) (hu : OpD X W (binaryOp op) u) : OpD X W (binaryOp op) (ownO T u) := by
  intro pins s σ B ρ G H x y v w dx dy Q I S rx ry ax ay q
  unfold ownO at q
  cases e : ownT T dx dy with
  | none => rw [e] at q; exact hu pins s σ B ρ G H x y v w dx dy Q I S rx ry ax ay q
  | some p =>
    obtain ⟨m, dvs⟩ := p
    rw [e] at q
    obtain ⟨c, a1, b1, d1, d2, fs, gs, rfl, rfl, ha, hb, hTc⟩ := ownT_at S.sub ax ay e
    cases rx
    cases ry
    obtain ⟨k1, k2, k3⟩ := hT.ok c m dvs hTc
    obtain ⟨mA, J, _⟩ := ins_get I.hok ha
    obtain ⟨mB, J', _⟩ := ins_get I.hok hb
    obtain ⟨od, J, _⟩ := J.look
    obtain ⟨od', J', _⟩ := J'.look
    obtain ⟨mL, hF⟩ := I.fr
    refine PySem.W.binop_K hF I.ok.mod.kin J J'.type k1 k2.at_ k2.fn ?_
    exact wpAny_mono (run_hasF (vs := [.ref a1, .ref b1]) k3 tk hr I S (.cons rfl (.cons rfl .nil)) (.cons ax (.cons ay .nil)) q) (fun _ _ z => ep_cmp z) fun _ _ z => z
/-- - x -/
def ownN (T : MT) (u : D → M D) : D → M D := fun x => match mlook "__neg__" T x with
  | some p => callM p.1 p.2 [x]
  | none => u x
theorem und_own {u : D → M D} (hT : MOk X.prog X.w X.K X.mg X.base k "__neg__" T) (tk : Takes X W) (hr : Room k X.A) (hu : UnD X W (unaryOp .USub) u) : UnD X W (unaryOp .USub) (ownN T u) := by
  intro pins s σ B ρ G H x v dx Q I S rx ax q
  unfold ownN at q
  cases e : mlook "__neg__" T dx with
  | none => rw [e] at q; exact hu pins s σ B ρ G H x v dx Q I S rx ax q
  | some p =>
    obtain ⟨m, dvs⟩ := p
    rw [e] at q
    obtain ⟨c, a1, d1, fs, rfl, ha, hl, hTc⟩ := mlook_at S.sub ax e
    cases rx
    obtain ⟨k1, k2, k3⟩ := hT.ok c m dvs hTc
    obtain ⟨mA, J, _⟩ := ins_get I.hok ha
    obtain ⟨od, J, _⟩ := J.look
    unfold unaryOp
    refine wpAny_holding ?_
    show wpAny _ _ (callSpecial? (.ref a1) "__neg__" [] >>= _) _ _ _
    refine wpAny_bind (PySem.W.special_fn I.kIn J k2.at_ (beq_iff_eq.mp k2.fn) ?_)
    exact wpAny_mono (run_hasF (us := [.ref a1]) (vs := [.ref a1]) k3 tk hr I S (.cons rfl .nil) (.cons ax .nil) q) (fun _ _ z => wpAny_pure z) fun _ _ z => z
end
end DL


set_option Elab.async false
set_option linter.all false
set_option maxRecDepth 100000
set_option maxHeartbeats 4000000
/-! DL8: isinstance, == and !=. -/
namespace DL
open PySem PySem.Spec PyProof.Rows L2

/-! ### isinstance -/
def okN : List String := ["int", "bool", "str", "tuple", "list"]
def tyN : List String := ["NoneType", "bool", "int", "str", "tuple", "list"]
def isBB (a n : String) : Bool := (a == n) || ((a == "bool") && (n == "int"))
theorem isBB_ok : ∀ a ∈ tyN, ∀ n ∈ okN, kitB a n = some (isBB a n) := by decide +kernel
structure IOk (K : PySem.W.Frag) (cl : List Str) : Prop where
  bo : ∀ a ∈ tyN, ∀ C ∈ cl, PySem.W.kitOne K (.type a) (.ref (He.ga K C)) = some false
  ob : ∀ c ∈ cl, ∀ n ∈ okN, PySem.W.kitOne K (.ref (He.ga K c)) (.type n) = some false
  oo : ∀ c ∈ cl, ∀ C ∈ cl, PySem.W.kitOne K (.ref (He.ga K c)) (.ref (He.ga K C)) = some (c == C)
  cs : ∀ c ∈ cl, Cls K (He.ga K c)
  t1 : ∀ c ∈ cl, PySem.W.findIn K (.ref (He.ga K c)) "__class__" = some (some (.builtin "object.__class__"))
  t2 : ∀ c ∈ cl, PySem.W.mroIn K (He.ga K c) (.type "object") = some true
  t3 : PySem.W.specialIn K (.builtin "object.__class__") "__get__" = some (some (.builtin "getset_descriptor.__get__"))
  t4 : PySem.W.takesIn K (.builtin "object.__class__") = some true
def eqB (a b : Option Bool) : Bool := decide (a = b)
def iokB (K : PySem.W.Frag) (cl : List Str) : Bool :=
  (tyN.all fun a => cl.all fun C => eqB (PySem.W.kitOne K (.type a) (.ref (He.ga K C))) (some false)) && (cl.all fun c => okN.all fun n => eqB (PySem.W.kitOne K (.ref (He.ga K c)) (.type n)) (some false)) &&
  (cl.all fun c => cl.all fun C => eqB (PySem.W.kitOne K (.ref (He.ga K c)) (.ref (He.ga K C))) (some (c == C))) &&
  (cl.all fun c => (He.Fa.cls c).ok K && He.eqO (PySem.W.findIn K (.ref (He.ga K c)) "__class__") (some (some (.builtin "object.__class__"))) && eqB (PySem.W.mroIn K (He.ga K c) (.type "object")) (some true)) &&
  He.eqO (PySem.W.specialIn K (.builtin "object.__class__") "__get__") (some (some (.builtin "getset_descriptor.__get__"))) && eqB (PySem.W.takesIn K (.builtin "object.__class__")) (some true)
theorem iokB_ok {K : PySem.W.Frag} {cl : List Str} (h : iokB K cl = true) : IOk K cl := by
  unfold iokB at h
  simp only [Bool.and_eq_true, List.all_eq_true] at h
  obtain ⟨⟨⟨⟨⟨h1, h2⟩, h3⟩, h4⟩, h5⟩, h6⟩ := h
  exact ⟨fun a ha C hC => of_decide_eq_true (h1 a ha C hC), fun c hc n hn => of_decide_eq_true (h2 c hc n hn), fun c hc C hC => of_decide_eq_true (h3 c hc C hC), fun c hc => He.cls_ok (h4 c hc).1.1,
    fun c hc => He.eqO_ok (h4 c hc).1.2, fun c hc => of_decide_eq_true (h4 c hc).2, He.eqO_ok h5, of_decide_eq_true h6⟩
/-- the built-in type of data, if it has one -/
def tnD : D → Option String
  | .non => some "NoneType"
  | .bl _ => some "bool"
  | .int _ => some "int"
  | .str _ => some "str"
  | .tup _ => some "tuple"
  | .lst _ => some "list"
  | .scr _ => some "list"
  | _ => none
def isi (cl : List Str) : D → D → Option Bool
  | .obj c _, .ty n => (match cl.contains c && okN.contains n with
    | true => some false
    | false => none)
  | .obj c _, .glo C => (match cl.contains c && cl.contains C with
    | true => some (c == C)
    | false => none)
  | x, .ty n => (match tnD x, okN.contains n with
    | some a, true => some (isBB a n)
    | _, _ => none)
  | x, .glo C => (match tnD x, cl.contains C with
    | some _, true => some false
    | _, _ => none)
  | _, _ => none
def optM {α : Type} : Option α → M α
  | some a => rt a
  | none => stk
def isiF (cl : List Str) : List D → M D
  | [x, c] => bd (optM (isi cl x c)) fun b => rt (.bl b)
  | _ => stk
theorem tn_at {K : PySem.W.Frag} {G H : Hp} {v : V} {x : D} {a : String} (s : Same G H) (h : At K G v x) (e : tnD x = some a) : TyX K H v (.type a) ∧ a ∈ tyN := by
  cases h with
  | non => cases e; exact ⟨.base .non, by decide⟩
  | bl b => cases e; exact ⟨.base (.bl b), by decide⟩
  | int b => cases e; exact ⟨.base (.int b), by decide⟩
  | str b => cases e; exact ⟨.base (.str b), by decide⟩
  | ty b => cases e
  | glo b => cases e
  | obj b => cases e
  | tup h t =>
    cases e
    refine ⟨?_, by decide⟩
    rcases same_seqT s h with (h | ⟨o, h⟩) | ⟨o, its, n, hk, hc, _⟩
    · exact .base (.tup h)
    · exact .fTuple h
    · exact .kTuple hk hc
  | lst h t => cases e; exact ⟨.base (.lst (s _ _ h)), by decide⟩
  | scr h t =>
    cases e
    refine ⟨?_, by decide⟩
    rcases s.seq h with (h | ⟨o, h⟩) | ⟨o, its, n, hk, hc, _⟩
    · exact .base (.lst h)
    · exact .base (.frz h)
    · exact .kList hk hc
theorem contains_mem {l : List Str} {x : Str} (h : l.contains x = true) : x ∈ l := List.contains_iff_mem.mp h
theorem containsS_mem {l : List String} {x : String} (h : l.contains x = true) : x ∈ l := List.contains_iff_mem.mp h
section
variable {X : Cx} {W : WX} {cl : List Str}
theorem isi_run {K : PySem.W.Frag} {G H : Hp} {v cv : V} {x c : D} {b : Bool} (J : IOk K cl) (s : Same G H) (h : At K G v x) (hc : At K G cv c) (e : isi cl x c = some b) :
    ∃ t u, ClsV cv u ∧ TyX K H v t ∧ PySem.W.kitOne K t u = some b := by
  have own : ∀ {c0 : Str} {fs : List (Str × D)}, At K G v (.obj c0 fs) → c0 ∈ cl → TyX K H v (.ref (He.ga K c0)) := fun {c0 fs} a m => by
    cases a with
    | obj h1 h2 => exact .base (.ins (s _ _ h1) (J.cs _ m) (J.t1 _ m) J.t3 J.t4 (J.t2 _ m))
  have bu : ∀ {n : String}, (match tnD x, okN.contains n with
    | some a, true => some (isBB a n)
    | _, _ => none) = some b → ∃ a, tnD x = some a ∧ n ∈ okN ∧ isBB a n = b := fun {n} e => by
    cases et : tnD x with
    | none => rw [et] at e; cases e
    | some a =>
      rw [et] at e
      cases eo : okN.contains n with
      | false => rw [eo] at e; cases e
      | true => rw [eo] at e; cases e; exact ⟨a, rfl, containsS_mem eo, rfl⟩
  have bo : ∀ {C : Str}, (match tnD x, cl.contains C with
    | some _, true => some false
    | _, _ => none) = some b → ∃ a, tnD x = some a ∧ C ∈ cl ∧ b = false := fun {n} e => by
    cases et : tnD x with
    | none => rw [et] at e; cases e
    | some a =>
      rw [et] at e
      cases eo : cl.contains n with
      | false => rw [eo] at e; cases e
      | true => rw [eo] at e; cases e; exact ⟨a, rfl, contains_mem eo, rfl⟩
  cases hc with
  | ty n =>
    cases x with
    | obj c0 fs =>
      have e' : (match cl.contains c0 && okN.contains n with
        | true => some false
        | false => none) = some b := e
      cases ec : cl.contains c0 && okN.contains n with
      | false => rw [ec] at e'; cases e'
      | true =>
        rw [ec] at e'
        cases e'
        obtain ⟨k1, k2⟩ := Bool.and_eq_true_iff.mp ec
        exact ⟨_, _, .ty n, own h (contains_mem k1), J.ob _ (contains_mem k1) _ (containsS_mem k2)⟩
    | _ =>
      obtain ⟨a, h1, h2, h3⟩ := bu e
      obtain ⟨t1, t2⟩ := tn_at s h h1
      exact ⟨_, _, .ty n, t1, kit_ty (by rw [isBB_ok a t2 n h2, h3])⟩
  | glo C =>
    cases x with
    | obj c0 fs =>
      have e' : (match cl.contains c0 && cl.contains C with
        | true => some (c0 == C)
        | false => none) = some b := e
      cases ec : cl.contains c0 && cl.contains C with
      | false => rw [ec] at e'; cases e'
      | true =>
        rw [ec] at e'
        cases e'
        obtain ⟨k1, k2⟩ := Bool.and_eq_true_iff.mp ec
        exact ⟨_, _, .own _, own h (contains_mem k1), J.oo _ (contains_mem k1) _ (contains_mem k2)⟩
    | _ =>
      obtain ⟨a, h1, h2, h3⟩ := bo e
      obtain ⟨t1, t2⟩ := tn_at s h h1
      exact ⟨_, _, .own _, t1, by rw [h3]; exact J.bo a t2 C h2⟩
  | _ => cases x <;> cases e
theorem cd_isi (J : IOk X.K cl) : CallD X W (.builtin "isinstance") (isiF cl) := CallD.of call_isi fun B ρ σ G H vs ds Q S a q => by
  unfold isiF at q
  split at q
  · rename_i x c
    cases a with
    | cons h t =>
      cases t with
      | cons h2 t =>
        cases t
        cases e : isi cl x c with
        | none => rw [e] at q; exact q.elim
        | some b =>
          rw [e] at q
          obtain ⟨t, u, k1, k2, k3⟩ := isi_run J S.sub h h2 e
          exact ⟨_, _, t, u, b, rfl, k1, k2, k3, now S q (.bl b)⟩
  · exact q.elim

/-! ### == of plain data -/
mutual
def toPy : D → Option PyData
  | .non => some .none
  | .bl b => some (.bool b)
  | .int i => some (.int i)
  | .str x => some (.str x)
  | .tup ds => (toPys ds).map .tuple
  | .lst ds => (toPys ds).map .list
  | .scr ds => (toPys ds).map .list
  | _ => none
def toPys : List D → Option (List PyData)
  | [] => some []
  | d :: ds => match toPy d, toPys ds with
    | some p, some ps => some (p :: ps)
    | _, _ => none
end
mutual
theorem py_at {K : PySem.W.Frag} {G H : Hp} (s : Same G H) : ∀ {v : V} {x : D} {p : PyData}, At K G v x → toPy x = some p → Dp K H v p
  | _, _, _, .non, e => by cases e; exact .non
  | _, _, _, .bl b, e => by cases e; exact .bl b
  | _, _, _, .int b, e => by cases e; exact .int b
  | _, _, _, .str b, e => by cases e; exact .str b
  | _, _, _, .ty b, e => by cases e
  | _, _, _, .glo b, e => by cases e
  | _, _, _, .obj b _, e => by cases e
  | _, _, _, .tup (ds := ds) h t, e => by
    unfold toPy at e
    cases e2 : toPys ds with
    | none => rw [e2] at e; cases e
    | some ps => rw [e2] at e; cases e; exact .tup (same_seqT s h) (pys_at s t e2)
  | _, _, _, .lst (ds := ds) h t, e => by
    unfold toPy at e
    cases e2 : toPys ds with
    | none => rw [e2] at e; cases e
    | some ps => rw [e2] at e; cases e; exact .lst (SqL.of (s _ _ h)) (pys_at s t e2)
  | _, _, _, .scr (ds := ds) h t, e => by
    unfold toPy at e
    cases e2 : toPys ds with
    | none => rw [e2] at e; cases e
    | some ps => rw [e2] at e; cases e; exact .lst (s.seq h) (pys_at s t e2)
theorem pys_at {K : PySem.W.Frag} {G H : Hp} (s : Same G H) : ∀ {vs : List V} {xs : List D} {ps : List PyData}, Ats K G vs xs → toPys xs = some ps → DpAll K H vs ps
  | _, _, _, .nil, e => by cases e; exact .nil
  | _, _, _, .cons (d := d) (ds := ds) h t, e => by
    unfold toPys at e
    cases e1 : toPy d with
    | none => rw [e1] at e; cases e
    | some p =>
      cases e2 : toPys ds with
      | none => rw [e1, e2] at e; cases e
      | some ps => rw [e1, e2] at e; cases e; exact .cons (py_at s h e1) (pys_at s t e2)
end
/-- the two as plain data -/
def two_py (x y : D) : Option (PyData × PyData) := match toPy x, toPy y with
  | some p, some q => some (p, q)
  | _, _ => none
def eqP (neg : Bool) (u : OpF) : OpF := fun x y => match two_py x y with
  | some (p, q) => chk (SeqAt.shaped p && SeqAt.shaped q) (rt (.bl (xor neg (PyData.eqv p q))))
  | none => u x y
theorem two_of {x y : D} {p q : PyData} (h : two_py x y = some (p, q)) : toPy x = some p ∧ toPy y = some q := by
  unfold two_py at h
  cases e1 : toPy x with
  | none => rw [e1] at h; cases h
  | some a =>
    cases e2 : toPy y with
    | none => rw [e1, e2] at h; cases h
    | some b => rw [e1, e2] at h; cases h; exact ⟨rfl, rfl⟩
theorem opd_eqP {u : OpF} {k : Nat} (hr : Room k X.A) (hu : OpD X W (compareOp .Eq) u) : OpD X W (compareOp .Eq) (eqP false u) := by
  intro pins s σ B ρ G H x y v w dx dy Q I S rx ry ax ay q
  unfold eqP at q
  cases e : two_py dx dy with
  | none => rw [e] at q; exact hu pins s σ B ρ G H x y v w dx dy Q I S rx ry ax ay q
  | some z =>
    obtain ⟨p, p'⟩ := z
    rw [e] at q
    obtain ⟨hc, q⟩ := PostE.chk q
    obtain ⟨e1, e2⟩ := two_of e
    obtain ⟨k1, k2⟩ := Bool.and_eq_true_iff.mp hc
    refine op_eqD hr.units pins s σ H x y v w Q I rx ry ⟨p, p', py_at S.sub ax e1, py_at S.sub ay e2, k1, k2, ?_⟩
    have q' := now S q (.bl _)
    rwa [Bool.false_xor] at q'
theorem opd_neP {u : OpF} {k : Nat} (hr : Room k X.A) (hu : OpD X W (compareOp .NotEq) u) : OpD X W (compareOp .NotEq) (eqP true u) := by
  intro pins s σ B ρ G H x y v w dx dy Q I S rx ry ax ay q
  unfold eqP at q
  cases e : two_py dx dy with
  | none => rw [e] at q; exact hu pins s σ B ρ G H x y v w dx dy Q I S rx ry ax ay q
  | some z =>
    obtain ⟨p, p'⟩ := z
    rw [e] at q
    obtain ⟨hc, q⟩ := PostE.chk q
    obtain ⟨e1, e2⟩ := two_of e
    obtain ⟨k1, k2⟩ := Bool.and_eq_true_iff.mp hc
    refine op_neD hr.units pins s σ H x y v w Q I rx ry ⟨p, p', py_at S.sub ax e1, py_at S.sub ay e2, k1, k2, ?_⟩
    have q' := now S q (.bl _)
    rwa [Bool.true_xor] at q'
end

/-! ### == and != of one's own classes -/
structure EOk0 (P : Program) (w : World) (K : PySem.W.Frag) (mg : Str → Option Value) (base : Heap) (k : Nat) (T : MT) : Prop where
  ok : ∀ c m dvs, T c = some (m, dvs) → Meth K (He.ga K c) "__eq__" (He.ma K (He.ga K c) "__eq__") ∧ HasF P w K mg base k (He.ma K (He.ga K c) "__eq__") dvs m ∧
    PySem.W.findIn K (.ref (He.ga K c)) "__ne__" = some (some (.builtin "object.__ne__")) ∧ PySem.W.instIn K (.ref (He.ga K c)) (.type "object") = PySem.W.instIn K (.ref (He.ga K c)) (.type "object") ∧
    PySem.W.subIn K (.ref (He.ga K c)) (.type "object") = some true ∧ ∀ n ∈ tyN, PySem.W.subIn K (.type n) (.ref (He.ga K c)) = some false
theorem eok0 {P : Program} {w : World} {K : PySem.W.Frag} {mg : Str → Option Value} {base : Heap} {k : Nat} : EOk0 P w K mg base k mt0 := ⟨fun _ _ _ h => nomatch h⟩
def eokB (K : PySem.W.Frag) (c : Str) : Bool := (He.Fa.meth c "__eq__").ok K && He.eqO (PySem.W.findIn K (.ref (He.ga K c)) "__ne__") (some (some (.builtin "object.__ne__"))) && eqB (PySem.W.subIn K (.ref (He.ga K c)) (.type "object")) (some true) && tyN.all fun n => eqB (PySem.W.subIn K (.type n) (.ref (He.ga K c))) (some false)
theorem eok1 {P : Program} {w : World} {K : PySem.W.Frag} {mg : Str → Option Value} {base : Heap} {j k : Nat} {c : Str} {m : Fm} {dvs : List D} {T : MT} (h : eokB K c = true) (h3 : HasF P w K mg base j (He.ma K (He.ga K c) "__eq__") dvs m) (hj : j ≤ k)
    (hT : EOk0 P w K mg base k T) : EOk0 P w K mg base k (mt1 c m dvs T) := ⟨fun c' m' dvs' h0 => by
  unfold mt1 at h0
  cases e : c' == c with
  | true =>
    rw [e] at h0
    cases h0
    rw [eq_of_beq e]
    unfold eokB at h
    simp only [Bool.and_eq_true, List.all_eq_true] at h
    obtain ⟨⟨⟨h1, h2⟩, h4⟩, h5⟩ := h
    exact ⟨He.meth_ok h1, h3.mono hj, He.eqO_ok h2, rfl, of_decide_eq_true h4, fun n hn => of_decide_eq_true (h5 n hn)⟩
  | false =>
    rw [e] at h0
    exact hT.ok c' m' dvs' h0⟩
/-- no class of a list is a subclass of another one of it -/
def eooB (K : PySem.W.Frag) (L : List Str) : Bool := L.all fun c => L.all fun c' => (c == c') || eqB (PySem.W.subIn K (.ref (He.ga K c')) (.ref (He.ga K c))) (some false)
/-- all classes of a table stand in a list -/
structure TL (T : MT) (L : List Str) : Prop where
  h : ∀ c p, T c = some p → c ∈ L
theorem tl0 {L : List Str} : TL mt0 L := ⟨fun _ _ h => nomatch h⟩
theorem tl1 {L : List Str} {c : Str} {m : Fm} {dvs : List D} {T : MT} (hc : c ∈ L) (h : TL T L) : TL (mt1 c m dvs T) L := ⟨fun c' p e => by
  unfold mt1 at e
  cases k : c' == c with
  | true => rw [eq_of_beq k]; exact hc
  | false => rw [k] at e; exact h.h c' p e⟩
structure EOk (P : Program) (w : World) (K : PySem.W.Frag) (mg : Str → Option Value) (base : Heap) (k : Nat) (T : MT) : Prop extends EOk0 P w K mg base k T where
  oo : ∀ c c' p p', T c = some p → T c' = some p' → (c == c') = false → PySem.W.subIn K (.ref (He.ga K c')) (.ref (He.ga K c)) = some false
theorem eok_of {P : Program} {w : World} {K : PySem.W.Frag} {mg : Str → Option Value} {base : Heap} {k : Nat} {T : MT} {L : List Str} (h : EOk0 P w K mg base k T) (hl : TL T L) (hb : eooB K L = true) : EOk P w K mg base k T :=
  ⟨h, fun c c' p p' e e' ne => by
    unfold eooB at hb
    simp only [List.all_eq_true] at hb
    have := hb c (hl.h c p e) c' (hl.h c' p' e')
    rw [ne, Bool.false_or] at this
    exact of_decide_eq_true this⟩
theorem eokE {P : Program} {w : World} {K : PySem.W.Frag} {mg : Str → Option Value} {base : Heap} {k : Nat} : EOk P w K mg base k mt0 := ⟨eok0, fun _ _ _ _ h => nomatch h⟩
/-- a class's name, a built-in type's -/
def kdD : D → Option (Sum Str String)
  | .obj c _ => some (.inl c)
  | y => (tnD y).map .inr
theorem kdD_l {y : D} {c : Str} (h : kdD y = some (.inl c)) : ∃ fs, y = .obj c fs := by
  cases y with
  | obj c' fs => cases h; exact ⟨fs, rfl⟩
  | _ => cases h
theorem kdD_r {y : D} {a : String} (h : kdD y = some (.inr a)) : tnD y = some a := by
  cases y with
  | obj c' fs => cases h
  | glo c' => cases h
  | ty c' => cases h
  | _ => cases h; rfl
/-- the own == of x, for a y that is of its class or of a built-in type -/
def ownE (T : MT) (x y : D) : Option (Fm × List D) := match x with
  | .obj c _ => (match kdD y with
    | some (.inl c') => (match c == c' with
      | true => T c
      | false => (match T c' with
        | some _ => T c
        | none => none))
    | some (.inr _) => T c
    | none => none)
  | _ => none
def eqO (T : MT) (u : OpF) : OpF := fun x y => match ownE T x y with
  | some p => callM p.1 p.2 [x, y]
  | none => u x y
/-- != : the answer of == turned -/
def neO (T : MT) (u : OpF) : OpF := fun x y => match ownE T x y with
  | some p => bd (callM p.1 p.2 [x, y]) fun z => match z with
    | .bl b => rt (.bl (!b))
    | _ => stk
  | none => u x y
theorem looks_tn {X : Cx} {pins : List (Addr × Obj)} {σ : L2.St} {H G : Hp} {s : Shared} {v : V} {u : Value} {y : D} {a : String} (I : Inv X pins σ H s) (r : RelV v u) (S : Same G H) (h : At X.K G v y) (e : tnD y = some a) :
    PySem.W.Looks (model X.prog X.w) s.heap (typeOf u) (.type a) := by
  cases h with
  | non => cases e; cases r; exact fun A Q E s' k q => wpAny_pure q
  | bl b => cases e; cases r; exact fun A Q E s' k q => wpAny_pure q
  | int b => cases e; obtain ⟨t, rfl⟩ := r; exact fun A Q E s' k q => wpAny_pure q
  | str b => cases e; obtain ⟨t, rfl⟩ := r; exact fun A Q E s' k q => wpAny_pure q
  | ty b => cases e
  | glo b => cases e
  | obj b => cases e
  | tup h t =>
    cases e; cases r
    obtain ⟨its, _, ⟨o, ho, hc, _⟩, _⟩ := I.tuple (same_seqT S h)
    exact fun A Q E s' k q => wpAny_typeOf_ref (k _ _ ho) (by rw [hc]; exact q)
  | lst h t =>
    cases e; cases r
    obtain ⟨its, _, ⟨o, n, ho, hc, _⟩, _⟩ := I.list (SqL.of (S _ _ h))
    exact fun A Q E s' k q => wpAny_typeOf_ref (k _ _ ho) (by rw [hc]; exact q)
  | scr h t =>
    cases e; cases r
    obtain ⟨its, _, ⟨o, n, ho, hc, _⟩, _⟩ := I.list (S.seq h)
    exact fun A Q E s' k q => wpAny_typeOf_ref (k _ _ ho) (by rw [hc]; exact q)
section
variable {X : Cx} {W : WX} {k : Nat} {T : MT}
/-- what the two are -/
theorem ownE_at {pins : List (Addr × Obj)} {σ : L2.St} {H G : Hp} {s : Shared} {x y : V} {v w : Value} {dx dy : D} {p : Fm × List D} (hT : EOk X.prog X.w X.K X.mg X.base k T) (I : Inv X pins σ H s) (S : Same G H) (rx : RelV x v) (ry : RelV y w) (ax : At X.K G x dx) (ay : At X.K G y dy)
    (e : ownE T dx dy = some p) : ∃ (c : Str) (a1 d1 : Addr) (fs : List (Str × V)) (tb : Value), x = .ref a1 ∧ v = .ref a1 ∧ H a1 = some (.ins (He.ga X.K c) d1 fs) ∧ T c = some p ∧ PySem.W.Looks (model X.prog X.w) s.heap (typeOf w) tb ∧ PySem.W.notFirst X.K (He.ga X.K c) tb = true := by
  cases ax with
  | obj h1 h2 =>
    rename_i a1 d1 c vs ds
    cases rx
    have e' : (match kdD dy with
      | some (.inl c') => (match c == c' with
        | true => T c
        | false => (match T c' with
          | some _ => T c
          | none => none))
      | some (.inr _) => T c
      | none => none) = some p := e
    cases ek : kdD dy with
    | none => rw [ek] at e'; cases e'
    | some z =>
      rw [ek] at e'
      cases z with
      | inl c' =>
        obtain ⟨fs, rfl⟩ := kdD_l ek
        cases ay with
        | obj k1 k2 =>
          have e'' : (match c == c' with
              | true => T c
              | false => (match T c' with
                | some _ => T c
                | none => none)) = some p := e'
          cases ry
          obtain ⟨mB, J', _⟩ := ins_get I.hok (S _ _ k1)
          obtain ⟨od', J', _⟩ := J'.look
          cases ec : c == c' with
          | false =>
            rw [ec] at e''
            cases et : T c' with
            | none => rw [et] at e''; cases e''
            | some p' =>
              rw [et] at e''
              exact ⟨c, a1, d1, vs, _, rfl, rfl, S _ _ h1, e'', J'.type, by
                unfold PySem.W.notFirst
                rw [hT.oo c c' p p' e'' et ec]
                simp⟩
          | true =>
            rw [ec] at e''
            have ec := eq_of_beq ec
            subst ec
            exact ⟨c, a1, d1, vs, _, rfl, rfl, S _ _ h1, e'', J'.type, by simp [PySem.W.notFirst]⟩
      | inr a =>
        have et := kdD_r ek
        obtain ⟨_, _, _, _, _, h5⟩ := hT.ok c p.1 p.2 e'
        exact ⟨c, a1, d1, vs, _, rfl, rfl, S _ _ h1, e', looks_tn I ry S ay et, by
          unfold PySem.W.notFirst
          rw [h5 a (tn_at S ay et).2]
          simp⟩
  | _ => cases e
theorem opd_eqO {u : OpF} (hT : EOk X.prog X.w X.K X.mg X.base k T) (tk : Takes X W) (hr : Room k X.A) (hu : OpD X W (compareOp .Eq) u) : OpD X W (compareOp .Eq) (eqO T u) := by
  intro pins s σ B ρ G H x y v w dx dy Q I S rx ry ax ay q
  unfold eqO at q
  cases e : ownE T dx dy with
  | none => rw [e] at q; exact hu pins s σ B ρ G H x y v w dx dy Q I S rx ry ax ay q
  | some p =>
    obtain ⟨m, dvs⟩ := p
    rw [e] at q
    obtain ⟨c, a1, d1, fs, tb, rfl, rfl, ha, hTc, hb, hn⟩ := ownE_at hT I S.sub rx ry ax ay e
    obtain ⟨k1, k2, _⟩ := hT.ok c m dvs hTc
    obtain ⟨mA, J, _⟩ := ins_get I.hok ha
    obtain ⟨od, J, _⟩ := J.look
    obtain ⟨mL, hF⟩ := I.fr
    show wpAny (model X.prog X.w) X.A (richCompare .Eq (.ref a1) w) _ _ s
    refine PySem.W.cmp_K (op := .Eq) hr.units0 hF I.ok.mod.kin J hb hn k1.at_ k1.fn ?_
    exact wpAny_mono (run_hasF (us := [.ref a1, w]) (vs := [.ref a1, y]) k2 tk hr I S (.cons rfl (.cons ry .nil)) (.cons ax (.cons ay .nil)) q) (fun _ _ z => ep_cmp z) fun _ _ z => z

/-! object.__ne__ -/
theorem bind_ne (self : Value) : bindSpecial (.builtin "object.__ne__") self = pure (.builtin "object.__ne__", [self]) := PySem.F.slot_tuple_iterator_ne_refl.bind self
theorem ne_K {prog : Program} {w : World} {A : Around} {E : Value → Shared → Prop} {s : Shared} {K : PySem.W.Frag} {x C f : Addr} {ox : Obj} {od : Option Obj} {b tb : Value} {Q : Value → Shared → Prop} (hu : A.units + 1 < cLine) (Y : K.In s.heap) (J : PySem.W.InstAt s.heap x ox C od)
    (hb : PySem.W.Looks (model prog w) s.heap (typeOf b) tb) (hn : PySem.W.notFirst K C tb = true) (h1 : PySem.W.findIn K (.ref C) "__ne__" = some (some (.builtin "object.__ne__"))) (h2 : PySem.W.subIn K (.ref C) (.type "object") = some true)
    (hs : PySem.W.findIn K (.ref C) "__eq__" = some (some (.ref f))) (hf : PySem.W.isFn K (.ref f) = true)
    (h : wpAny (model prog w) A.in1 (call (.ref f) [.ref x, b]) (fun v s' => ∃ r, v = .bool r ∧ Q (.bool (!r)) s') E s) : wpAny (model prog w) A (richCompare .NotEq (.ref x) b) Q E s := by
  have sub : PySem.W.Looks (model prog w) s.heap (isInstance (.ref x) (.type "object")) true := J.type.andThen (PySem.W.looks_subIn Y h2)
  have body : wpAny (model prog w) A.in1 (Builtin.«object.__ne__» ⟨[.ref x, b], []⟩) (fun fin s' => ∃ r, fin = .done (.ret (.bool (!r))) ∧ Q (.bool (!r)) s') E s := by
    unfold Builtin.«object.__ne__»
    refine wpAny_bind ?_
    refine wpAny_of_eq (a := ((Value.ref x : Value), [b])) (by first | rfl | (simp only [slotArgs]; rfl)) ?_
    refine wpAny_bind (wpAny_cRoomFor hu ?_)
    refine wpAny_bind (PySem.W.ifBound_K Y J hs hf (wpAny_mono h (fun v s' hv => ?_) fun _ _ z => z))
    obtain ⟨r, rfl, q⟩ := hv
    exact wpAny_bind (wpAny_truthy_bool (wpAny_pure ⟨r, rfl, q⟩))
  have call1 : wpAny (model prog w) A (call (.builtin "object.__ne__") [.ref x, b]) (fun v s' => v ≠ .notImplemented ∧ Q v s') E s := by
    refine wpAny_call (codeAny_call_builtin PySem.F.slot_tuple_iterator_ne_refl.plain PySem.F.cmpEntry_ne (PySem.W.check_slot PySem.F.cmpKind_ne PySem.F.cmpSplit_ne sub (PySem.F.cmpArgs_ne _ _) ?_))
    refine wpAny_mono body (fun fn s' z => ?_) fun _ _ z => z
    obtain ⟨r, rfl, q⟩ := z
    exact ⟨(fun z => nomatch z), q⟩
  have fin : wpAny (model prog w) A (call (.builtin "object.__ne__") ([.ref x] ++ [b]) >>= fun v => pure (some v)) (fun o s' => ∃ v, o = some v ∧ v ≠ .notImplemented ∧ Q v s') E s :=
    wpAny_bind (wpAny_mono call1 (fun v s' z => wpAny_pure ⟨v, rfl, z⟩) fun _ _ z => z)
  have bound : wpAny (model prog w) A (callSpecialIfBound? (.ref x) "__ne__" [b]) (fun o s' => ∃ v, o = some v ∧ v ≠ .notImplemented ∧ Q v s') E s := by
    simp only [callSpecialIfBound?, bindSpecialIfBound?]
    refine wpAny_holding (wpAny_bind (wpAny_bind (wpAny_bind (J.type.here ((PySem.W.looks_findIn Y h1).here ?_)))))
    refine wpAny_bind (wpAny_askSetting (wpAny_ite ?_))
    rw [bind_ne]
    split
    · exact wpAny_bind (wpAny_pure (wpAny_pure fin))
    · exact wpAny_tryCatch (wpAny_bind (wpAny_pure (wpAny_pure fin)))
  have one : wpAny (model prog w) A (tryCompare (.ref x) "__ne__" b) (fun r s' => ∃ v, r = some v ∧ Q v s') E s := by
    unfold tryCompare
    refine wpAny_bind (wpAny_mono bound (fun o s' z => ?_) fun _ _ z => z)
    obtain ⟨v, rfl, nv, q⟩ := z
    cases v <;> first | exact absurd rfl nv | exact wpAny_pure ⟨_, rfl, q⟩
  unfold richCompare
  simp only [oneThing_ref]
  refine wpAny_holding (wpAny_bind (wpAny_cRoomFor (Nat.lt_of_succ_lt hu) ?_))
  refine wpAny_bind (J.type.here (wpAny_bind (hb.here ?_)))
  split
  · rename_i q
    have e : PySem.W.subIn K tb (.ref C) = some false := by
      rcases Bool.or_eq_true_iff.mp hn with e | e
      · rw [beq_iff_eq.mp e] at q; simp at q
      · exact beq_iff_eq.mp e
    refine wpAny_bind ((PySem.W.looks_subIn Y e).here ?_)
    simp only [Bool.false_eq_true, if_false, cmpInfo]
    exact wpAny_bind (wpAny_mono one (fun r s' z => by obtain ⟨v, rfl, hq⟩ := z; exact wpAny_pure hq) fun _ _ z => z)
  · refine wpAny_bind (wpAny_pure ?_)
    simp only [Bool.false_eq_true, if_false, cmpInfo]
    exact wpAny_bind (wpAny_mono one (fun r s' z => by obtain ⟨v, rfl, hq⟩ := z; exact wpAny_pure hq) fun _ _ z => z)
theorem neO_of {K : PySem.W.Frag} {B : Gd} {σ : L2.St} {G : Hp} {ρ : En} {Q : VK} {f : M D} {W : WX} (q : PostE K B σ G W Q (bd f (fun z => match z with
    | .bl b => rt (.bl (!b))
    | _ => stk) ρ)) : PostE K B σ G W (fun v H' => ∃ b, v = .bl b ∧ Q (.bl (!b)) H') (f ρ) := by
  unfold bd at q
  revert q
  cases f ρ with
  | ok x ρ' =>
    intro q v G' H' e S a
    cases a with
    | bl b => exact ⟨b, rfl, q (.bl (!b)) G' H' e S (.bl _)⟩
    | _ => exact q.elim
  | er x ρ' => exact fun q => q
  | stuck => exact fun q => q
end
section
variable {X : Cx} {W : WX} {k j : Nat} {T : MT}
/-- a call below: at A, where the frames are X's -/
theorem run_hasA {A : Around} {f : Addr} {m : Fm} {dvs ds : List D} {B : Gd} {ρ : En} {σ : L2.St} {G H : Hp} {pins : List (Addr × Obj)} {s : Shared} {Q : VK} {us : List Value} {vs : List V} (h : HasF X.prog X.w X.K X.mg X.base k f dvs m) (tk : Takes X W) (hr : Room k A) (hA : A.frames = X.A.frames)
    (I : Inv X pins σ H s) (S : Stt X.K B ρ σ G H) (r : Vals vs us) (a : Ats X.K G vs ds) (q : PostE X.K B σ G W Q (callM m dvs ds ρ)) : wpAny (model X.prog X.w) A (call (.ref f) us) (EP X pins σ Q) X.xe s := by
  obtain ⟨fd, ps, dl, vl, F, kp, hb, hd, hAt, hl⟩ := h.ex
  have a2 : Ats X.K G (vs ++ vl) (ds ++ dvs) := a.append (hAt G)
  have q' := PostF.ofE (K := X.K) rfl S q
  have hsp : spD X.K ps.length m (vs ++ vl) H Q (fun cls d H => W cls d σ H) := ⟨by rw [a2.length]; exact hl _ q'.nst, G, ds ++ dvs, S.sub, a2, q'⟩
  have r2 : Vals (vs ++ vl) (us ++ dl) := r.append hd
  have e := I.env0
  have e0 : Env0 X.prog X.w X.K X.mg X.base A X.stack s H := ⟨by rw [hA]; exact e.frames, e.mod, e.bs, e.bsz, e.funs, e.frf, e.hok, e.bare⟩
  have hlen : (us ++ dl).length = ps.length := by rw [← r2.length]; exact hsp.1
  refine wpAny_call (codeAny_mono (F.run A X.stack s H ⟨us, []⟩ (us ++ dl) (vs ++ vl) Q _ hr e0 (hb s us I.kIn hlen) r2 hsp) fun re s' hre => ?_)
  cases re with
  | error ex => exact passAt tk σ pins H s ex s' I hre
  | ok fl =>
    cases fl with
    | ret u => exact I.after hre
    | next => exact hre.elim
    | brk => exact hre.elim
    | cont => exact hre.elim
theorem opd_neO {u : OpF} (hT : EOk X.prog X.w X.K X.mg X.base j T) (tk : Takes X W) (hr : Room k X.A) (hj : j + 1 ≤ k) (hu : OpD X W (compareOp .NotEq) u) : OpD X W (compareOp .NotEq) (neO T u) := by
  intro pins s σ B ρ G H x y v w dx dy Q I S rx ry ax ay q
  unfold neO at q
  cases e : ownE T dx dy with
  | none => rw [e] at q; exact hu pins s σ B ρ G H x y v w dx dy Q I S rx ry ax ay q
  | some p =>
    obtain ⟨m, dvs⟩ := p
    rw [e] at q
    obtain ⟨c, a1, d1, fs, tb, rfl, rfl, ha, hTc, hb, hn⟩ := ownE_at hT I S.sub rx ry ax ay e
    obtain ⟨k1, k2, k3, _, k4, _⟩ := hT.ok c m dvs hTc
    obtain ⟨mA, J, _⟩ := ins_get I.hok ha
    obtain ⟨od, J, _⟩ := J.look
    show wpAny (model X.prog X.w) X.A (richCompare .NotEq (.ref a1) w) _ _ s
    refine ne_K (by have := hr.units; omega) I.kIn J hb hn k3 k4 k1.at_ k1.fn ?_
    refine wpAny_mono (run_hasA (us := [.ref a1, w]) (vs := [.ref a1, y]) k2 tk ((hr.mono hj).in1) rfl I S (.cons rfl (.cons ry .nil)) (.cons ax (.cons ay .nil)) (neO_of q)) (fun v s' z => ?_) fun _ _ z => z
    obtain ⟨z, H', I', r, b, rfl, q'⟩ := z
    cases r
    exact ⟨b, rfl, .bl _, H', I', rfl, q'⟩
end
end DL


set_option Elab.async false
set_option linter.all false
set_option maxRecDepth 100000
set_option maxHeartbeats 4000000
/-! DL9: statements. -/
namespace DL
open PySem PySem.Spec PyProof.Rows L2

abbrev FS := En → Out
def nxS : FS := fun ρ => .nx ρ
def bkS : FS := fun ρ => .bk ρ
def ctS : FS := fun ρ => .ct ρ
def seqS (F G : FS) : FS := fun ρ => match F ρ with
  | .nx ρ' => G ρ'
  | o => o
/-- a value, then a statement's rest -/
def bdS {α : Type} (f : M α) (g : α → FS) : FS := fun ρ => match f ρ with
  | .ok a ρ' => g a ρ'
  | .er x ρ' => .er x ρ'
  | .stuck => .stuck
def retS (f : M D) : FS := bdS f fun x ρ => .rt x ρ
def retO (f : M (List D)) : FS := bdS f fun x ρ => .ro x ρ
def retN : FS := fun ρ => .rt .non ρ
def dropS (f : M D) : FS := bdS f fun _ ρ => .nx ρ
def setS (i : Nat) (f : M D) : FS := bdS f fun x ρ => .nx (ρ.set i (some (.d x)))
def setO (i : Nat) (f : M (List D)) : FS := bdS f fun x ρ => .nx (ρ.set i (some (.own (.lst x))))
def ifS (f : M Bool) (F G : FS) : FS := bdS f fun b => match b with
  | true => F
  | false => G
section
variable {K : PySem.W.Frag} {B : Gd} {σ : L2.St} {G H : Hp} {ρ : En} {W : WX} {D' : Ends}
theorem tD_bdS {f : M D} {g : D → FS} (S : Stt K B ρ σ G H) (h : PostS K B G W D' (bdS f g ρ)) {Q : VK}
    (q : ∀ v G' H' x ρ', Same G G' → Stt K B ρ' σ G' H' → At K G' v x → PostS K B G' W D' (g x ρ') → Q v H') : tD K W f σ H Q := by
  refine ⟨B, ρ, G, S, ?_⟩
  unfold bdS at h
  revert h
  cases f ρ with
  | ok x ρ' => exact fun h v G' H' e S' a => q v G' H' x ρ' e S' a (h.to e)
  | er x ρ' => exact fun h c d G' H' e S' a => h c d σ G' H' e S' a
  | stuck => exact fun h => h
theorem tT_bdS {f : M Bool} {g : Bool → FS} (S : Stt K B ρ σ G H) (h : PostS K B G W D' (bdS f g ρ)) {Q : Bool → Hp → Prop}
    (q : ∀ G' H' x ρ', Same G G' → Stt K B ρ' σ G' H' → PostS K B G' W D' (g x ρ') → Q x H') : tT K W f σ H Q := by
  refine ⟨B, ρ, G, S, ?_⟩
  unfold bdS at h
  revert h
  cases f ρ with
  | ok x ρ' => exact fun h G' H' e S' => q G' H' x ρ' e S' (h.to e)
  | er x ρ' => exact fun h c d G' H' e S' a => h c d σ G' H' e S' a
  | stuck => exact fun h => h
theorem tA_bdS {f : M (List D)} {g : List D → FS} (S : Stt K B ρ σ G H) (h : PostS K B G W D' (bdS f g ρ)) {Q : List V → Hp → Prop}
    (q : ∀ vs G' H' xs ρ', Same G G' → Stt K B ρ' σ G' H' → Ats K G' vs xs → PostS K B G' W D' (g xs ρ') → Q vs H') : tA K W f σ H Q := by
  refine ⟨B, ρ, G, S, ?_⟩
  unfold bdS at h
  revert h
  cases f ρ with
  | ok x ρ' => exact fun h vs G' H' e S' a => q vs G' H' x ρ' e S' a (h.to e)
  | er x ρ' => exact fun h c d G' H' e S' a => h c d σ G' H' e S' a
  | stuck => exact fun h => h
/-- a list of one's own, new -/
structure NewL (K : PySem.W.Frag) (B : Gd) (ρ : En) (σ : L2.St) (G H : Hp) (a : Addr) (vs : List V) (xs : List D) : Prop where
  h : H a = some (.lst vs)
  g : G a = none
  b : B.H a = none
  bb : B.b ≠ some a
  o : ∀ (i : Nat) (ys : Lt), ρ[i]? = some (some (.own ys)) → σ[i]? ≠ some (some (.ref a))
  a : Ats K G vs xs
theorem tO_bdS {f : M (List D)} {g : List D → FS} (S : Stt K B ρ σ G H) (h : PostS K B G W D' (bdS f g ρ)) {Q : VK}
    (q : ∀ a vs G' H' xs ρ', Same G G' → Stt K B ρ' σ G' H' → NewL K B ρ' σ G' H' a vs xs → PostS K B G' W D' (g xs ρ') → Q (.ref a) H') : tO K W f σ H Q := by
  refine ⟨B, ρ, G, S, ?_⟩
  unfold bdS at h
  revert h
  cases f ρ with
  | ok x ρ' => exact fun h a vs G' H' e S' h1 h2 h3 h4 h5 h6 => q a vs G' H' x ρ' e S' ⟨h1, h2, h3, h4, h5, h6⟩ (h.to e)
  | er x ρ' => exact fun h c d G' H' e S' a => h c d σ G' H' e S' a
  | stuck => exact fun h => h
/-- a slot gets a value -/
theorem Stt.put {i : Nat} {x : D} {v : V} (S : Stt K B ρ σ G H) (a : At K G v x) : Stt K B (ρ.set i (some (.d x))) (σ.set i (some v)) G H := by
  have nd : ∀ {j : Nat} {c : Cl}, (ρ.set i (some (.d x)))[j]? = some (some c) → (∀ y, c ≠ .d y) → i ≠ j ∧ ρ[j]? = some (some c) := fun {j c} h hc => by
    rcases set_get h with ⟨_, z⟩ | ⟨h1, h2⟩
    · exact absurd (Option.some.inj z).symm (hc x)
    · exact ⟨h1, h2⟩
  refine ⟨S.sub, S.gg, S.hh, S.nw, S.nb, by rw [List.length_set, List.length_set]; exact S.len, fun j y hj => ?_, fun j t hj => ?_, fun j t hj => ?_, fun j l s t b hj hl h1 h2 => ?_, fun j l s t hj hl => ?_⟩
  · rcases set_get hj with ⟨rfl, z⟩ | ⟨hne, hj⟩
    · cases z
      have hlt : i < σ.length := by
        have := (List.getElem?_eq_some_iff.mp hj).1
        rw [List.length_set] at this
        rw [S.len]
        exact this
      exact ⟨v, by rw [List.getElem?_set_self hlt], a⟩
    · obtain ⟨u, h1, h2⟩ := S.dd j y hj
      exact ⟨u, by rw [List.getElem?_set_ne hne]; exact h1, h2⟩
  · obtain ⟨hne, hj⟩ := nd hj fun y z => nomatch z
    obtain ⟨b, o, h1, r⟩ := S.oo j t hj
    exact ⟨b, o, by rw [List.getElem?_set_ne hne]; exact h1, r⟩
  · obtain ⟨hne, hj⟩ := nd hj fun y z => nomatch z
    obtain ⟨b, o, h0, h1, r⟩ := S.bb j t hj
    exact ⟨b, o, h0, by rw [List.getElem?_set_ne hne]; exact h1, r⟩
  · obtain ⟨n1, hj⟩ := nd hj fun y z => nomatch z
    obtain ⟨n2, hl⟩ := nd hl fun y z => nomatch z
    rw [List.getElem?_set_ne n1] at h1
    rw [List.getElem?_set_ne n2] at h2
    exact S.sp j l s t b hj hl h1 h2
  · exact S.s1 j l s t (nd hj fun y z => nomatch z).2 (nd hl fun y z => nomatch z).2
theorem Stt.putO {i : Nat} {xs : List D} {vs : List V} {a : Addr} (S : Stt K B ρ σ G H) (n : NewL K B ρ σ G H a vs xs) : Stt K B (ρ.set i (some (.own (.lst xs)))) (σ.set i (some (.ref a))) G H := by
  have lt : ∀ {j : Nat} {c : Option Cl}, (ρ.set i (some (.own (.lst xs))))[j]? = some c → i = j → i < σ.length := fun {j c} hj e => by
    have := (List.getElem?_eq_some_iff.mp hj).1
    rw [List.length_set] at this
    rw [S.len, e]
    exact this
  refine ⟨S.sub, S.gg, S.hh, S.nw, S.nb, by rw [List.length_set, List.length_set]; exact S.len, fun j y hj => ?_, fun j t hj => ?_, fun j t hj => ?_, fun j l s t b hj hl h1 h2 => ?_, fun j l s t hj hl => ?_⟩
  · rcases set_get hj with ⟨_, z⟩ | ⟨hne, hj⟩
    · cases z
    · obtain ⟨u, h1, h2⟩ := S.dd j y hj
      exact ⟨u, by rw [List.getElem?_set_ne hne]; exact h1, h2⟩
  · rcases set_get hj with ⟨rfl, z⟩ | ⟨hne, hj⟩
    · cases z
      exact ⟨a, _, by rw [List.getElem?_set_self (lt hj rfl)], n.h, n.g, n.b, n.bb, .lst n.a⟩
    · obtain ⟨b, o, h1, r⟩ := S.oo j t hj
      exact ⟨b, o, by rw [List.getElem?_set_ne hne]; exact h1, r⟩
  · rcases set_get hj with ⟨_, z⟩ | ⟨hne, hj⟩
    · cases z
    · obtain ⟨b, o, h0, h1, r⟩ := S.bb j t hj
      exact ⟨b, o, h0, by rw [List.getElem?_set_ne hne]; exact h1, r⟩
  · rcases set_get hj with ⟨rfl, z⟩ | ⟨n1, hj'⟩
    · rcases set_get hl with ⟨rfl, z'⟩ | ⟨n2, hl'⟩
      · rfl
      · rw [List.getElem?_set_self (lt hj rfl)] at h1
        rw [List.getElem?_set_ne n2] at h2
        cases h1
        exact absurd h2 (n.o l t hl')
    · rw [List.getElem?_set_ne n1] at h1
      rcases set_get hl with ⟨rfl, z'⟩ | ⟨n2, hl'⟩
      · rw [List.getElem?_set_self (lt hl rfl)] at h2
        cases h2
        exact absurd h1 (n.o j s hj')
      · rw [List.getElem?_set_ne n2] at h2
        exact S.sp j l s t b hj' hl' h1 h2
  · rcases set_get hj with ⟨_, z⟩ | ⟨_, hj⟩
    · cases z
    · rcases set_get hl with ⟨_, z⟩ | ⟨_, hl⟩
      · cases z
      · exact S.s1 j l s t hj hl
end
section
variable {X : Cx} {W : WX} {e : Expr} {f : M D} {fo : M (List D)} {ft : M Bool} {st : Stmt} {sts : List Stmt} {F G : FS} {pos : Pos} {x : Str}
theorem ds_imp {F' : FS} (h : DS X W st F) (e : F = F') : DS X W st F' := e ▸ h
theorem dss_nil : DSs X W [] nxS := PSs.imp pss_nil fun D' σ H ⟨B, ρ, G, S, q⟩ => q σ G H (Same.refl _) S
theorem dss_cons (h1 : DS X W st F) (h2 : DSs X W sts G) : DSs X W (st :: sts) (seqS F G) := PSs.imp (pss_cons h1 h2) fun D' σ H ⟨B, ρ, G0, S, q⟩ => by
  refine ⟨B, ρ, G0, S, ?_⟩
  unfold seqS at q
  revert q
  cases F ρ with
  | nx ρ' => exact fun q σ' G' H' e S' => ⟨B, ρ', G', S', q.to e⟩
  | rt x ρ' => exact fun q => q
  | ro x ρ' => exact fun q => q
  | bk ρ' => exact fun q => q
  | ct ρ' => exact fun q => q
  | er x ρ' => exact fun q => q
  | stuck => exact fun q => q
theorem dss_one (h1 : DS X W st F) : DSs X W [st] F := pss_one h1
theorem ds_pass : DS X W (.Pass pos) nxS := PS.imp ps_pass fun D' σ H ⟨B, ρ, G, S, q⟩ => q σ G H (Same.refl _) S
theorem ds_break : DS X W (.Break pos) bkS := PS.imp ps_break fun D' σ H ⟨B, ρ, G, S, q⟩ => q σ G H (Same.refl _) S
theorem ds_continue : DS X W (.Continue pos) ctS := PS.imp ps_continue fun D' σ H ⟨B, ρ, G, S, q⟩ => q σ G H (Same.refl _) S
theorem ds_doc {y j p} : DS X W (.Expr (.Constant (.str y) j p) pos) nxS := PS.imp ps_doc fun D' σ H ⟨B, ρ, G, S, q⟩ => q σ G H (Same.refl _) S
theorem ds_expr (h : DE X W e f) (hs : swapsWith e none pos.line X.env = pure false := by rfl) : DS X W (.Expr e pos) (dropS f) :=
  PS.imp (ps_expr h hs) fun D' σ H ⟨B, ρ, G, S, q⟩ => tD_bdS S q fun v G1 H1 x ρ1 e1 S1 A1 q1 => q1 σ G1 H1 (Same.refl _) S1
theorem ds_ret (h : DE X W e f) : DS X W (.Return (some e) pos) (retS f) :=
  PS.imp (ps_ret h) fun D' σ H ⟨B, ρ, G, S, q⟩ => tD_bdS S q fun v G1 H1 x ρ1 e1 S1 A1 q1 => q1 v σ G1 H1 (Same.refl _) S1 A1
theorem ds_retO (h : DO X W e fo) : DS X W (.Return (some e) pos) (retO fo) :=
  PS.imp (ps_ret h) fun D' σ H ⟨B, ρ, G, S, q⟩ => tO_bdS S q fun a vs G1 H1 x ρ1 e1 S1 n q1 => q1 a vs σ G1 H1 (Same.refl _) S1 n.h n.g n.b n.bb n.a
theorem ds_retN : DS X W (.Return none pos) retN := PS.imp ps_retN fun D' σ H ⟨B, ρ, G, S, q⟩ => q .non σ G H (Same.refl _) S .non
theorem ds_if {c : Expr} {a b : List Stmt} (hc : DT X W c ft) (ha : DSs X W a F) (hb : DSs X W b G) : DS X W (.If c a b pos) (ifS ft F G) :=
  PS.imp (ps_if hc ha hb) fun D' σ H ⟨B, ρ, G0, S, q⟩ => tT_bdS S q fun G1 H1 x ρ1 e1 S1 q1 => ite_of (fun h => by subst h; exact ⟨B, ρ1, G1, S1, q1⟩) fun h => by subst h; exact ⟨B, ρ1, G1, S1, q1⟩
theorem ds_set (i : Nat) {p : Pos} (nd : X.N.Nodup) (h : DE X W e f) (hi : X.N[i]? = some x := by rfl) (hx : Loc X.env.scope x := by first | exact .inl rfl | exact .inr rfl) (hs : swapsWith e (some (.Name x p)) pos.line X.env = pure false := by rfl)
    (hf : X.fn x = true ∨ X.env.scope.names.lookup x = some .local := by first | exact .inl rfl | exact .inr rfl) : DS X W (.Assign [.Name x p] e pos) (setS i f) :=
  PS.imp (ps_set nd hi hx h hs hf) fun D' σ H ⟨B, ρ, G, S, q⟩ => tD_bdS S q fun v G1 H1 x ρ1 e1 S1 A1 q1 => q1 _ G1 H1 (Same.refl _) (S1.put A1)
theorem ds_setO (i : Nat) {p : Pos} (nd : X.N.Nodup) (h : DO X W e fo) (hi : X.N[i]? = some x := by rfl) (hx : Loc X.env.scope x := by first | exact .inl rfl | exact .inr rfl) (hs : swapsWith e (some (.Name x p)) pos.line X.env = pure false := by rfl)
    (hf : X.fn x = true ∨ X.env.scope.names.lookup x = some .local := by first | exact .inl rfl | exact .inr rfl) : DS X W (.Assign [.Name x p] e pos) (setO i fo) :=
  PS.imp (ps_set nd hi hx h hs hf) fun D' σ H ⟨B, ρ, G, S, q⟩ => tO_bdS S q fun a vs G1 H1 x ρ1 e1 S1 n q1 => q1 _ G1 H1 (Same.refl _) (S1.putO n)
/-- a, b = x, y -/
def par2 (i j : Nat) (f : M (List D)) : FS := bdS f fun xs ρ => match xs with
  | [x, y] => .nx ((ρ.set i (some (.d x))).set j (some (.d y)))
  | _ => .stuck
theorem ds_par2 (i j : Nat) {y : Str} {a b : Expr} {px py pt : Pos} {kt k2 pt2} (hc : X.calm = true) (nd : X.N.Nodup) (ha : DA X W [a, b] fo) (hi : X.N[i]? = some x := by rfl) (hj : X.N[j]? = some y := by rfl) (hij : i ≠ j := by decide)
    (hx : X.env.scope.names.lookup x = some .local := by rfl) (hy : X.env.scope.names.lookup y = some .local := by rfl)
    (hw : swappedStores [.Tuple [.Name x px, .Name y py] kt pt] (.Tuple [a, b] k2 pt2) X.env = pure (some [x, y]) := by rfl)
    (hs : swapsWithSole [.Tuple [.Name x px, .Name y py] kt pt] (.Tuple [a, b] k2 pt2) pos.line X.env = pure false := by rfl) :
    DS X W (.Assign [.Tuple [.Name x px, .Name y py] kt pt] (.Tuple [a, b] k2 pt2) pos) (par2 i j fo) :=
  PS.imp (ps_par hc nd hi hj hij hx hy ha hw hs) fun D' σ H ⟨B, ρ, G, S, q⟩ => tA_bdS S q fun vs G1 H1 xs ρ1 e1 S1 A1 q1 => by
    cases A1 with
    | nil => exact q1.elim
    | cons h1 t =>
      cases t with
      | nil => exact q1.elim
      | cons h2 t =>
        cases t with
        | nil => exact ⟨_, _, rfl, q1 _ G1 H1 (Same.refl _) ((S1.put h1).put h2)⟩
        | cons h3 t => exact q1.elim
def par3 (i j l : Nat) (f : M (List D)) : FS := bdS f fun xs ρ => match xs with
  | [x, y, z] => .nx (((ρ.set i (some (.d x))).set j (some (.d y))).set l (some (.d z)))
  | _ => .stuck
theorem ds_par3 (i j l : Nat) {y z : Str} {a b c : Expr} {px py pz pt : Pos} {kt k2 pt2} (hc : X.calm = true) (nd : X.N.Nodup) (ha : DA X W [a, b, c] fo) (hi : X.N[i]? = some x := by rfl) (hj : X.N[j]? = some y := by rfl) (hl : X.N[l]? = some z := by rfl) (hij : i ≠ j := by decide) (hil : i ≠ l := by decide) (hjl : j ≠ l := by decide)
    (hx : X.env.scope.names.lookup x = some .local := by rfl) (hy : X.env.scope.names.lookup y = some .local := by rfl) (hz : X.env.scope.names.lookup z = some .local := by rfl)
    (hw : swappedStores [.Tuple [.Name x px, .Name y py, .Name z pz] kt pt] (.Tuple [a, b, c] k2 pt2) X.env = pure (some [x, y, z]) := by rfl)
    (hs : swapsWithSole [.Tuple [.Name x px, .Name y py, .Name z pz] kt pt] (.Tuple [a, b, c] k2 pt2) pos.line X.env = pure false := by rfl) :
    DS X W (.Assign [.Tuple [.Name x px, .Name y py, .Name z pz] kt pt] (.Tuple [a, b, c] k2 pt2) pos) (par3 i j l fo) :=
  PS.imp (ps_par3 hc nd hi hj hl hij hil hjl hx hy hz ha hw hs) fun D' σ H ⟨B, ρ, G, S, q⟩ => tA_bdS S q fun vs G1 H1 xs ρ1 e1 S1 A1 q1 => by
    cases A1 with
    | nil => exact q1.elim
    | cons h1 t =>
      cases t with
      | nil => exact q1.elim
      | cons h2 t =>
        cases t with
        | nil => exact q1.elim
        | cons h3 t =>
          cases t with
          | nil => exact ⟨_, _, _, rfl, q1 _ G1 H1 (Same.refl _) (((S1.put h1).put h2).put h3)⟩
          | cons h4 t => exact q1.elim

/-! ### targets -/
abbrev Tgm := D → En → Option En
abbrev Tgs := List D → En → Option En
/-- the target takes data; is: the slots that it may set -/
def tG (K : PySem.W.Frag) (is : List Nat) (g : Tgm) : TG := fun v σ H Q => ∃ (B : Gd) (ρ : En) (G : Hp) (d : D) (ρ' : En), Stt K B ρ σ G H ∧ At K G v d ∧ g d ρ = some ρ' ∧ ∀ (σ' : L2.St) (G' H' : Hp), Same G G' → Stt K B ρ' σ' G' H' → wipe σ' is = wipe σ is → Q σ' H'
def tGs (K : PySem.W.Frag) (is : List Nat) (g : Tgs) : TGs := fun vs σ H Q => ∃ (B : Gd) (ρ : En) (G : Hp) (ds : List D) (ρ' : En), Stt K B ρ σ G H ∧ Ats K G vs ds ∧ g ds ρ = some ρ' ∧ ∀ (σ' : L2.St) (G' H' : Hp), Same G G' → Stt K B ρ' σ' G' H' → wipe σ' is = wipe σ is → Q σ' H'
abbrev DG (X : Cx) (tg : Expr) (is : List Nat) (g : Tgm) : Prop := PG X tg (tG X.K is g)
abbrev DGs (X : Cx) (ts : List Expr) (is : List Nat) (g : Tgs) : Prop := PGs X ts (tGs X.K is g)
theorem PG.imp {tg : Expr} {t t' : TG} (h : PG X tg t) (i : ∀ v σ H Q, t' v σ H Q → t v σ H Q) : PG X tg t' := ⟨fun pins s σ H v u Q I r q => h.run pins s σ H v u Q I r (i v σ H Q q)⟩
theorem PGs.imp {ts : List Expr} {t t' : TGs} (h : PGs X ts t) (i : ∀ v σ H Q, t' v σ H Q → t v σ H Q) : PGs X ts t' := ⟨fun pins s σ H v u Q I r q => h.run pins s σ H v u Q I r (i v σ H Q q)⟩
theorem wipe_get (σ : L2.St) : ∀ (is : List Nat) (j : Nat), (wipe σ is)[j]? = if j ∈ is then (if j < σ.length then some none else none) else σ[j]?
  | [], j => by simp [wipe]
  | i :: is, j => by
    unfold wipe
    by_cases e : i = j
    · subst e
      rw [if_pos List.mem_cons_self]
      by_cases hl : i < σ.length
      · rw [if_pos hl, List.getElem?_set_self (by rw [wipe_length]; exact hl)]
      · rw [if_neg hl, List.getElem?_eq_none (by rw [List.length_set, wipe_length]; omega)]
    · rw [List.getElem?_set_ne e, wipe_get σ is j]
      have : (j ∈ i :: is) ↔ j ∈ is := by simp [Ne.symm e]
      by_cases m : j ∈ is
      · rw [if_pos m, if_pos (this.mpr m)]
      · rw [if_neg m, if_neg (fun z => m (this.mp z))]
theorem wipe_ext {σ τ : L2.St} {is : List Nat} (hl : σ.length = τ.length) (h : ∀ j, j ∉ is → σ[j]? = τ[j]?) : wipe σ is = wipe τ is := by
  apply List.ext_getElem?
  intro j
  rw [wipe_get, wipe_get, hl]
  by_cases m : j ∈ is
  · rw [if_pos m, if_pos m]
  · rw [if_neg m, if_neg m]
    exact h j m
theorem wipe_back {σ τ : L2.St} {is : List Nat} (h : wipe σ is = wipe τ is) : σ.length = τ.length ∧ ∀ j, j ∉ is → σ[j]? = τ[j]? := by
  refine ⟨by rw [← wipe_length σ is, h, wipe_length], fun j m => ?_⟩
  have := congrArg (fun l : L2.St => l[j]?) h
  simp only [wipe_get, if_neg m] at this
  exact this
theorem wipe_sub {σ τ : L2.St} {is js : List Nat} (h : wipe σ is = wipe τ is) (m : ∀ i ∈ is, i ∈ js) : wipe σ js = wipe τ js := by
  obtain ⟨h1, h2⟩ := wipe_back h
  exact wipe_ext h1 fun j hj => h2 j fun z => hj (m j z)
def gNm (i : Nat) : Tgm := fun d ρ => some (ρ.set i (some (.d d)))
theorem dg_name (i : Nat) {p : Pos} (nd : X.N.Nodup) (hi : X.N[i]? = some x := by rfl) (hx : Loc X.env.scope x := by first | exact .inl rfl | exact .inr rfl) (hf : X.fn x = true ∨ X.env.scope.names.lookup x = some .local := by first | exact .inl rfl | exact .inr rfl) : DG X (.Name x p) [i] (gNm i) :=
  PG.imp (pg_name nd hi hx hf) fun v σ H Q ⟨B, ρ, G, d, ρ', S, a, e, q⟩ => by
    cases e
    refine q _ G H (Same.refl _) (S.put a) (wipe_ext (List.length_set ..) fun j hj => ?_)
    rw [List.getElem?_set_ne fun z => hj (by simp [z])]
def gN0 : Tgs := fun ds ρ => match ds with
  | [] => some ρ
  | _ => none
def gC (g : Tgm) (h : Tgs) : Tgs := fun ds ρ => match ds with
  | d :: r => (match g d ρ with
    | some ρ' => h r ρ'
    | none => none)
  | [] => none
theorem dgs_nil {is : List Nat} : DGs X [] is gN0 := PGs.imp pgs_nil fun vs σ H Q ⟨B, ρ, G, ds, ρ', S, a, e, q⟩ => by
  cases a with
  | nil => cases e; exact ⟨rfl, q σ G H (Same.refl _) S rfl⟩
  | cons h t => cases e
theorem dgs_cons {t : Expr} {ts : List Expr} {is js ks : List Nat} {g : Tgm} {h : Tgs} (h1 : DG X t is g) (h2 : DGs X ts js h) (m1 : ∀ i ∈ is, i ∈ ks := by decide) (m2 : ∀ i ∈ js, i ∈ ks := by decide) (hs : (assignEach (t :: ts) X.env).map (·.2) = assign t X.env :: (assignEach ts X.env).map (·.2) := by rfl) : DGs X (t :: ts) ks (gC g h) :=
  PGs.imp (pgs_cons h1 h2 hs) fun vs σ H Q ⟨B, ρ, G, ds, ρ', S, a, e, q⟩ => by
    cases a with
    | nil => cases e
    | @cons v d vs ds a1 a2 =>
      have e' : (match g d ρ with
        | some ρ1 => h ds ρ1
        | none => none) = some ρ' := e
      cases eg : g d ρ with
      | none => rw [eg] at e'; cases e'
      | some ρ1 =>
        rw [eg] at e'
        refine ⟨v, vs, rfl, B, ρ, G, d, ρ1, S, a1, eg, fun σ1 G1 H1 e1 S1 w1 => ?_⟩
        exact ⟨B, ρ1, G1, ds, ρ', S1, a2.mono e1, e', fun σ2 G2 H2 e2 S2 w2 => q σ2 G2 H2 (e1.trans e2) S2 ((wipe_sub w2 m2).trans (wipe_sub w1 m1))⟩
/-- (a, b, ..) = a tuple, a list -/
def gTp (n : Nat) (h : Tgs) : Tgm := fun d ρ => match d with
  | .tup ds => (match Nat.beq ds.length n with
    | true => h ds ρ
    | false => none)
  | .lst ds => (match Nat.beq ds.length n with
    | true => h ds ρ
    | false => none)
  | _ => none
theorem dg_tup {ts : List Expr} {k n : Nat} {is : List Nat} {h : Tgs} {p : Pos} (hc : X.calm = true) (h1 : DGs X ts is h) (hn : (assignEach ts X.env).length = n := by rfl) (hst : (assignEach ts X.env).findIdx? (·.1) = none := by rfl) : DG X (.Tuple ts k p) is (gTp n h) := by
  refine ⟨fun pins s σ H v u Q I r hw => ?_⟩
  obtain ⟨B, ρ, G, d, ρ', S, a, e, q⟩ := hw
  cases a with
  | tup ht ta =>
    rename_i ad vs ds
    have e' : (match Nat.beq ds.length n with
      | true => h ds ρ
      | false => none) = some ρ' := e
    cases eb : Nat.beq ds.length n with
    | false => rw [eb] at e'; cases e'
    | true =>
      rw [eb] at e'
      exact (pg_tup (pos := p) (k := k) hc h1 hn hst).run pins s σ H _ u Q I r ⟨ad, vs, rfl, same_seqT S.sub ht, by rw [ta.length]; exact Nat.eq_of_beq_eq_true eb, B, ρ, G, ds, ρ', S, ta, e', q⟩
  | lst ht ta =>
    rename_i ad vs ds
    have e' : (match Nat.beq ds.length n with
      | true => h ds ρ
      | false => none) = some ρ' := e
    cases eb : Nat.beq ds.length n with
    | false => rw [eb] at e'; cases e'
    | true =>
      rw [eb] at e'
      exact (pg_unl (pos := p) (k := k) hc h1 hn hst).run pins s σ H _ u Q I r ⟨ad, vs, rfl, SqL.of (S.sub _ _ ht), by rw [ta.length]; exact Nat.eq_of_beq_eq_true eb, B, ρ, G, ds, ρ', S, ta, e', q⟩
  | _ => cases e
/-- target = value -/
def asgS (f : M D) (g : Tgm) : FS := bdS f fun x ρ => match g x ρ with
  | some ρ' => .nx ρ'
  | none => .stuck
theorem ds_asg {tg : Expr} {is : List Nat} {g : Tgm} (he : DE X W e f) (hg : DG X tg is g) (hs : swapsWithSole [tg] e pos.line X.env = pure false := by rfl) (hw : swappedStores [tg] e X.env = pure none := by rfl)
    (h1 : (assignEach [tg] X.env).map (·.2) = [assign tg X.env] := by rfl) : DS X W (.Assign [tg] e pos) (asgS f g) :=
  PS.imp (ps_asg he hg hs hw h1) fun D' σ H ⟨B, ρ, G, S, q⟩ => tD_bdS S q fun v G1 H1 x ρ1 e1 S1 A1 q1 => by
    cases eg : g x ρ1 with
    | none => rw [eg] at q1; exact q1.elim
    | some ρ2 =>
      rw [eg] at q1
      exact ⟨B, ρ1, G1, x, ρ2, S1, A1, eg, fun σ2 G2 H2 e2 S2 _ => q1 σ2 G2 H2 e2 S2⟩

/-! ### while -/
/-- a turn's end -/
def loopS (rest : FS) : Out → Out
  | .nx ρ => rest ρ
  | .ct ρ => rest ρ
  | .bk ρ => .nx ρ
  | o => o
theorem PostS.loop {K : PySem.W.Frag} {B : Gd} {G : Hp} {W : WX} {D' : Ends} {rest : FS} {o : Out} {N : L2.St → Hp → Prop} (h : PostS K B G W D' (loopS rest o)) (hN : ∀ (ρ : En) (σ' : L2.St) (G' H' : Hp), Same G G' → Stt K B ρ σ' G' H' → PostS K B G' W D' (rest ρ) → N σ' H') :
    PostS K B G W { D' with nx := N, ct := N, bk := D'.nx } o := by
  cases o with
  | nx ρ => exact fun σ' G' H' e S => hN ρ σ' G' H' e S (PostS.to e h)
  | ct ρ => exact fun σ' G' H' e S => hN ρ σ' G' H' e S (PostS.to e h)
  | bk ρ => exact h
  | rt x ρ => exact h
  | ro x ρ => exact h
  | er x ρ => exact h
  | stuck => exact h
def whileF (c : M Bool) (F : FS) : Nat → FS
  | 0 => fun _ => .stuck
  | n + 1 => bdS c fun b => match b with
    | true => fun ρ => loopS (whileF c F n) (F ρ)
    | false => nxS
def whileS (μ : En → Nat) (c : M Bool) (F : FS) : FS := fun ρ => whileF c F (μ ρ) ρ
theorem ds_while (μ : En → Nat) {c : Expr} {body : List Stmt} (hp : PassesOwn (model X.prog X.w) X.A X.env X.xe) (hc : DT X W c ft) (hb : DSs X W body F) : DS X W (.While c body [] pos) (whileS μ ft F) :=
  PS.imp (ps_while hp hc hb) fun D' σ H ⟨B, ρ, G, S, q⟩ => by
    refine ⟨fun m σ H => ∃ ρ G, Stt X.K B ρ σ G H ∧ PostS X.K B G W D' (whileF ft F m ρ), ⟨μ ρ, ρ, G, S, q⟩, ?_⟩
    rintro m σ H ⟨ρ, G, S, q⟩
    cases m with
    | zero => exact q.elim
    | succ m =>
      unfold whileF at q
      refine tT_bdS S q fun G1 H1 b ρ1 e1 S1 q1 => ?_
      cases b with
      | false => rw [if_neg Bool.false_ne_true]; exact q1 σ G1 H1 (Same.refl _) S1
      | true =>
        rw [if_pos rfl]
        exact ⟨fun σ' H' => ∃ ρ G, Stt X.K B ρ σ' G H' ∧ PostS X.K B G W D' (whileF ft F m ρ), fun σ' H' z => ⟨m, Nat.lt_succ_self _, z⟩, B, ρ1, G1, S1, PostS.loop q1 fun ρ2 σ' G' H' e S' q2 => ⟨ρ2, G', S', q2⟩⟩

/-! ### what is walked -/
def Yields (K : PySem.W.Frag) (J : It) (ds : List D) (G : Hp) : Prop := ∀ (i : Nat) (G1 H1 : Hp), Same G G1 → Same G1 H1 →
  (∀ d, ds[i]? = some d → J.go i H1 ∧ ∀ x H', J.yld i H1 x H' → ∃ G', Ext G1 H1 G' H' ∧ At K G' x d) ∧ (ds[i]? = none → J.stop i H1)
theorem Yields.mono {K : PySem.W.Frag} {J : It} {ds : List D} {G G' : Hp} (h : Yields K J ds G) (e : Same G G') : Yields K J ds G' := fun i G1 H1 e1 s => h i G1 H1 (e.trans e1) s
def PostI (K : PySem.W.Frag) (B : Gd) (σ : L2.St) (G : Hp) (W : WX) (R : It → Hp → Prop) : Res (List D) → Prop
  | .ok ds ρ' => ∀ (J : It) (G' H' : Hp), Same G G' → Stt K B ρ' σ G' H' → Yields K J ds G' → R J H'
  | .er x ρ' => ∀ (cls : Value) (d : Option Addr) (G' H' : Hp), Same G G' → Stt K B ρ' σ G' H' → ExAt K G' H' cls d x → W cls d σ H'
  | .stuck => False
def tI (K : PySem.W.Frag) (W : WX) (f : M (List D)) : TI := fun σ H R => ∃ (B : Gd) (ρ : En) (G : Hp), Stt K B ρ σ G H ∧ PostI K B σ G W R (f ρ)
abbrev DI (X : Cx) (W : WX) (tg e : Expr) (f : M (List D)) : Prop := PI X tg e (tI X.K W f)
theorem PI.imp {tg : Expr} {t t' : TI} (h : PI X tg e t) (i : ∀ σ H R, t' σ H R → t σ H R) : PI X tg e t' := ⟨fun pins s σ H R I q => h.run pins s σ H R I (i σ H R q)⟩
theorem tD_bdI {K : PySem.W.Frag} {B : Gd} {σ : L2.St} {G H : Hp} {ρ : En} {W : WX} {f : M D} {g : D → M (List D)} {R : It → Hp → Prop} (S : Stt K B ρ σ G H) (h : PostI K B σ G W R (bd f g ρ)) {Q : VK}
    (q : ∀ v G' H' x ρ', Same G G' → Stt K B ρ' σ G' H' → At K G' v x → PostI K B σ G' W R (g x ρ') → Q v H') : tD K W f σ H Q := by
  refine ⟨B, ρ, G, S, ?_⟩
  unfold bd at h
  have to : ∀ {G1 : Hp} {r : Res (List D)}, Same G G1 → PostI K B σ G W R r → PostI K B σ G1 W R r := fun {G1 r} e h => by
    cases r with
    | ok x ρ' => exact fun J G' H' e1 => h J G' H' (e.trans e1)
    | er x ρ' => exact fun c d G' H' e1 => h c d G' H' (e.trans e1)
    | stuck => exact h
  revert h
  cases f ρ with
  | ok x ρ' => exact fun h v G' H' e S' a => q v G' H' x ρ' e S' a (to e h)
  | er x ρ' => exact fun h c d G' H' e S' a => h c d G' H' e S' a
  | stuck => exact fun h => h
theorem tA_bdI {K : PySem.W.Frag} {B : Gd} {σ : L2.St} {G H : Hp} {ρ : En} {W : WX} {f : M (List D)} {g : List D → M (List D)} {R : It → Hp → Prop} (S : Stt K B ρ σ G H) (h : PostI K B σ G W R (bd f g ρ)) {Q : List V → Hp → Prop}
    (q : ∀ v G' H' x ρ', Same G G' → Stt K B ρ' σ G' H' → Ats K G' v x → PostI K B σ G' W R (g x ρ') → Q v H') : tA K W f σ H Q := by
  refine ⟨B, ρ, G, S, ?_⟩
  unfold bd at h
  have to : ∀ {G1 : Hp} {r : Res (List D)}, Same G G1 → PostI K B σ G W R r → PostI K B σ G1 W R r := fun {G1 r} e h => by
    cases r with
    | ok x ρ' => exact fun J G' H' e1 => h J G' H' (e.trans e1)
    | er x ρ' => exact fun c d G' H' e1 => h c d G' H' (e.trans e1)
    | stuck => exact h
  revert h
  cases f ρ with
  | ok x ρ' => exact fun h v G' H' e S' a => q v G' H' x ρ' e S' a (to e h)
  | er x ρ' => exact fun h c d G' H' e S' a => h c d G' H' e S' a
  | stuck => exact fun h => h
def chrs (x : Str) : List D := x.cps.toList.map fun c => .str ⟨#[c]⟩
def itms : D → M (List D)
  | .tup ds => rt ds
  | .lst ds => rt ds
  | .scr ds => rt ds
  | .str x => rt (chrs x)
  | _ => stk
theorem yields_list {K : PySem.W.Frag} {G : Hp} {a : Addr} {vs : List V} {ds : List D} (hq : ∀ G1 H1, Same G G1 → Same G1 H1 → SqL K H1 a vs) (t : Ats K G vs ds) : Yields K (Itl K a) ds G := fun i G1 H1 e s => by
  refine ⟨fun d hd => ?_, fun hn => ?_⟩
  · obtain ⟨v, hv, av⟩ := t.get hd
    refine ⟨⟨vs, v, hq G1 H1 e s, hv⟩, fun x H' y => ?_⟩
    obtain ⟨rfl, y⟩ := y
    have := y vs (hq G1 _ e s)
    rw [hv] at this
    cases this
    exact ⟨G1, Ext.refl s, av.mono e⟩
  · exact ⟨vs, hq G1 H1 e s, by rw [t.length]; exact List.getElem?_eq_none_iff.mp hn⟩
theorem yields_tup {K : PySem.W.Frag} {G : Hp} {a : Addr} {vs : List V} {ds : List D} (hq : ∀ G1 H1, Same G G1 → Same G1 H1 → SqT K H1 a vs) (t : Ats K G vs ds) : Yields K (Itt K a) ds G := fun i G1 H1 e s => by
  refine ⟨fun d hd => ?_, fun hn => ?_⟩
  · obtain ⟨v, hv, av⟩ := t.get hd
    refine ⟨⟨vs, v, hq G1 H1 e s, hv⟩, fun x H' y => ?_⟩
    obtain ⟨rfl, y⟩ := y
    have := y vs (hq G1 _ e s)
    rw [hv] at this
    cases this
    exact ⟨G1, Ext.refl s, av.mono e⟩
  · exact ⟨vs, hq G1 H1 e s, by rw [t.length]; exact List.getElem?_eq_none_iff.mp hn⟩
theorem yields_str {K : PySem.W.Frag} {G : Hp} {x : Str} : Yields K (Its x) (chrs x) G := fun i G1 H1 e s => by
  unfold chrs
  refine ⟨fun d hd => ?_, fun hn => ?_⟩
  · rw [List.getElem?_map] at hd
    cases ec : x.cps.toList[i]? with
    | none => rw [ec] at hd; cases hd
    | some c =>
      rw [ec] at hd
      cases hd
      have ec' : x.cps[i]? = some c := by simpa using ec
      refine ⟨(Array.getElem?_eq_some_iff.mp ec').1, fun v H' y => ?_⟩
      obtain ⟨rfl, c', hc', rfl⟩ := y
      rw [ec'] at hc'
      cases hc'
      exact ⟨G1, Ext.refl s, .str _⟩
  · have : x.cps.size ≤ i := by
      have := List.getElem?_eq_none_iff.mp hn
      simpa using this
    exact this
/-- a tuple, a list, a text -/
theorem di_val {tg : Expr} (h : DE X W e f) : DI X W tg e (bd f itms) := by
  refine ⟨fun pins s σ H R I q => ?_⟩
  obtain ⟨B, ρ, G, S, q⟩ := q
  refine thn (h.run pins s σ H (fun v H1 => ∃ G1 x ρ1, Stt X.K B ρ1 σ G1 H1 ∧ At X.K G1 v x ∧ PostI X.K B σ G1 W R (itms x ρ1)) I (tD_bdI S q fun v G1 H1 x ρ1 e1 S1 A1 q1 => ⟨G1, x, ρ1, S1, A1, q1⟩)) fun u s1 ⟨v, H1, I1, r1, G1, x, ρ1, S1, A1, q1⟩ => ?_
  cases A1 with
  | tup h1 t =>
    rename_i a vs ds
    cases r1
    obtain ⟨its, rv, p, hz⟩ := I1.tuple (same_seqT S1.sub h1)
    exact wpAny_pyIter_tuple (show s1.heap.IsTuple a its.toArray from p) (pi_one (tk := s1.toks) I1 _ (turn_tuple a _) ⟨_, Heap.get?_push_size _ rfl, rfl, rfl⟩ (q1 _ G1 H1 (Same.refl _) S1 (yields_tup (fun G2 H2 e s => same_seqT s (same_seqT e h1)) t)))
  | lst h1 t =>
    rename_i a vs ds
    cases r1
    obtain ⟨its, rv, p, hz⟩ := I1.list (SqL.of (S1.sub _ _ h1))
    exact wpAny_pyIter_list p.isList (pi_one (tk := s1.toks) I1 _ (turn_list a _) ⟨_, Heap.get?_push_size _ rfl, rfl, rfl⟩ (q1 _ G1 H1 (Same.refl _) S1 (yields_list (fun G2 H2 e s => SqL.of (s _ _ (e _ _ h1))) t)))
  | scr h1 t =>
    rename_i a vs ds
    cases r1
    obtain ⟨its, rv, p, hz⟩ := I1.list (S1.sub.seq h1)
    exact wpAny_pyIter_list p.isList (pi_one (tk := s1.toks) I1 _ (turn_list a _) ⟨_, Heap.get?_push_size _ rfl, rfl, rfl⟩ (q1 _ G1 H1 (Same.refl _) S1 (yields_list (fun G2 H2 e s => s.seq (e.seq h1)) t)))
  | str x =>
    obtain ⟨t, rfl⟩ := r1
    have q2 := q1 _ G1 H1 (Same.refl _) S1 yields_str
    cases ha : x.cps.all (· < 128)
    · exact wpAny_pyIter_wide ha (pi_one (tk := s1.toks) I1 _ (turn_str _ x t "str_iterator" (.inr rfl)) ⟨_, Heap.get?_push_size _ rfl, rfl, rfl⟩ q2)
    · exact wpAny_pyIter_ascii ha (pi_one (tk := s1.toks) I1 _ (turn_str _ x t "str_ascii_iterator" (.inl rfl)) ⟨_, Heap.get?_push_size _ rfl, rfl, rfl⟩ q2)
  | _ => exact q1.elim
/-! ### ranges -/
def rgOk (i : Int) : Bool := decide (-4611686018427387904 ≤ i) && decide (i < 4611686018427387904)
theorem rgOk_ok {i : Int} (h : rgOk i = true) : -(2 ^ 62) ≤ i ∧ i < 2 ^ 62 := by
  obtain ⟨h1, h2⟩ := Bool.and_eq_true_iff.mp h
  have h1 := of_decide_eq_true h1
  have h2 := of_decide_eq_true h2
  constructor <;> omega
def rgL (lo : Int) (n : Nat) : List D := (List.range n).map fun i => .int (lo + (i : Nat))
def rngF1 : List D → M (List D)
  | [.int j] => match rgOk j with
    | true => rt (rgL 0 j.toNat)
    | false => stk
  | _ => stk
def rngF2 : List D → M (List D)
  | [.int i, .int j] => match rgOk i && rgOk j with
    | true => rt (rgL i (j - i).toNat)
    | false => stk
  | _ => stk
/-- range(i, j, c) of a step -/
def rgC (lo c : Int) (n : Nat) : List D := (List.range n).map fun i => .int (lo + (i : Nat) * c)
def rgN (i j c : Int) : Nat := (Builtin.Range.rangeSize i j c).toNat
def rgOk3 (i j c : Int) : Bool := !decide (c = 0) && decide (c.natAbs < 1073741824) && Builtin.Range.small i j c && decide (Builtin.Range.rangeSize i j c = (rgN i j c : Nat))
def rngF3 : List D → M (List D)
  | [.int i, .int j, .int c] => match rgOk3 i j c with
    | true => rt (rgC i c (rgN i j c))
    | false => stk
  | _ => stk
theorem yields_rng {K : PySem.W.Frag} {G : Hp} {lo : Int} {n : Nat} : Yields K (Itr lo n) (rgL lo n) G := fun i G1 H1 e s => by
  unfold rgL
  refine ⟨fun d hd => ?_, fun hn => ?_⟩
  · rw [List.getElem?_map] at hd
    by_cases hi : i < n
    · rw [List.getElem?_range hi] at hd
      cases hd
      refine ⟨hi, fun v H' y => ?_⟩
      obtain ⟨rfl, rfl⟩ := y
      exact ⟨G1, Ext.refl s, .int _⟩
    · rw [List.getElem?_eq_none (by simpa using hi)] at hd
      cases hd
  · have := List.getElem?_eq_none_iff.mp hn
    have : n ≤ i := by simpa using this
    exact this
theorem yields_rgC {K : PySem.W.Frag} {G : Hp} {lo c : Int} {n : Nat} : Yields K (Itc lo c n) (rgC lo c n) G := fun i G1 H1 e s => by
  unfold rgC
  refine ⟨fun d hd => ?_, fun hn => ?_⟩
  · rw [List.getElem?_map] at hd
    by_cases hi : i < n
    · rw [List.getElem?_range hi] at hd
      cases hd
      refine ⟨hi, fun v H' y => ?_⟩
      obtain ⟨rfl, rfl⟩ := y
      exact ⟨G1, Ext.refl s, .int _⟩
    · rw [List.getElem?_eq_none (by simpa using hi)] at hd
      cases hd
  · have := List.getElem?_eq_none_iff.mp hn
    have : n ≤ i := by simpa using this
    exact this
theorem di_rng1 {tg a : Expr} {p : Pos} (hg : Gl X "range") (hm : X.mg "range" = none) (ha : DA X W [a] fo) (hs : starEach [a] X.env = [(false, eval a X.env)] := by rfl) : DI X W tg (.Call (.Name "range" p) [a] [] pos) (bd fo rngF1) :=
  PI.imp (pi_range1 hg hm ha hs) fun σ H R ⟨B, ρ, G, S, q⟩ => tA_bdI S q fun vs G1 H1 xs ρ1 e1 S1 A1 q1 => by
    unfold rngF1 at q1
    split at q1
    · rename_i j
      cases A1.one_int
      cases ec : rgOk j with
      | false => rw [ec] at q1; exact q1.elim
      | true =>
        rw [ec] at q1
        obtain ⟨k1, k2⟩ := rgOk_ok ec
        exact ⟨j, rfl, k1, k2, q1 _ G1 H1 (Same.refl _) S1 yields_rng⟩
    · exact q1.elim
theorem Ats.two_int {K : PySem.W.Frag} {G : Hp} {vs : List V} {i j : Int} (a : Ats K G vs [.int i, .int j]) : vs = [.int i, .int j] := by
  cases a with
  | cons h t => cases h; rw [t.one_int]
theorem di_rng2 {tg a b : Expr} {p : Pos} (hg : Gl X "range") (hm : X.mg "range" = none) (ha : DA X W [a, b] fo) (hs : starEach [a, b] X.env = [(false, eval a X.env), (false, eval b X.env)] := by rfl) (hs2 : starEach [b] X.env = [(false, eval b X.env)] := by rfl) : DI X W tg (.Call (.Name "range" p) [a, b] [] pos) (bd fo rngF2) :=
  PI.imp (pi_range2 hg hm ha hs hs2) fun σ H R ⟨B, ρ, G, S, q⟩ => tA_bdI S q fun vs G1 H1 xs ρ1 e1 S1 A1 q1 => by
    unfold rngF2 at q1
    split at q1
    · rename_i i j
      cases A1.two_int
      cases ec : rgOk i && rgOk j with
      | false => rw [ec] at q1; exact q1.elim
      | true =>
        rw [ec] at q1
        obtain ⟨k1, k2⟩ := Bool.and_eq_true_iff.mp ec
        obtain ⟨a1, a2⟩ := rgOk_ok k1
        obtain ⟨b1, b2⟩ := rgOk_ok k2
        exact ⟨i, j, rfl, ⟨a1, a2, b1, b2⟩, q1 _ G1 H1 (Same.refl _) S1 yields_rng⟩
    · exact q1.elim
theorem di_rng3 {tg a b c : Expr} {p : Pos} (hg : Gl X "range") (hm : X.mg "range" = none) (ha : DA X W [a, b, c] fo) (hs : starEach [a, b, c] X.env = (false, eval a X.env) :: starEach [b, c] X.env := by rfl) (hpl : (backTo pos (starEach [b, c] X.env)).any (·.1) = false := by rfl) : DI X W tg (.Call (.Name "range" p) [a, b, c] [] pos) (bd fo rngF3) :=
  PI.imp (pi_range3 hg hm ha hs hpl) fun σ H R ⟨B, ρ, G, S, q⟩ => tA_bdI S q fun vs G1 H1 xs ρ1 e1 S1 A1 q1 => by
    unfold rngF3 at q1
    split at q1
    · rename_i i j c
      cases A1 with
      | cons h t =>
        cases h
        cases t.two_int
        cases ec : rgOk3 i j c with
        | false => rw [ec] at q1; exact q1.elim
        | true =>
          rw [ec] at q1
          unfold rgOk3 at ec
          simp only [Bool.and_eq_true, Bool.not_eq_true', decide_eq_false_iff_not, decide_eq_true_eq] at ec
          obtain ⟨⟨⟨c1, c2⟩, c3⟩, c4⟩ := ec
          exact ⟨i, j, c, _, rfl, ⟨c1, c2, c3, c4⟩, q1 _ G1 H1 (Same.refl _) S1 yields_rgC⟩
    · exact q1.elim

/-! ### for -/
def forF (g : Tgm) (F : FS) : List D → FS
  | [] => nxS
  | d :: ds => fun ρ => match g d ρ with
    | some ρ1 => loopS (forF g F ds) (F ρ1)
    | none => .stuck
def forS (f : M (List D)) (g : Tgm) (F : FS) : FS := bdS f (forF g F)
theorem ds_for {tg iter : Expr} {body : List Stmt} {is : List Nat} {g : Tgm} (hp : PassesOwn (model X.prog X.w) X.A X.env X.xe) (hc : X.calm = true) (hi : DI X W tg iter fo) (hg : DG X tg is g) (hb : DSs X W body F)
    (hs : ∀ x, foldedSetIterable iter X.env x = pure x := by intro _; rfl) : DS X W (.For tg iter body [] pos) (forS fo g F) :=
  PS.imp (ps_for hp hc hi hg hb hs) fun D' σ H ⟨B, ρ, G, S, q⟩ => by
    refine ⟨B, ρ, G, S, ?_⟩
    unfold forS bdS at q
    revert q
    cases fo ρ with
    | er x ρ1 => exact fun q c d G' H' e S' a => q c d σ G' H' e S' a
    | stuck => exact fun q => q
    | ok ds ρ1 =>
      intro q J G1 H1 e1 S1 Y
      refine ⟨fun i m σ H => m = ds.length - i ∧ ∃ ρ G, Stt X.K B ρ σ G H ∧ Yields X.K J ds G ∧ PostS X.K B G W D' (forF g F (ds.drop i) ρ), ⟨_, rfl, ρ1, G1, S1, Y, PostS.to e1 q⟩, ?_⟩
      rintro i m σ H ⟨rfl, ρ, G, S, Y, q⟩
      obtain ⟨y1, y2⟩ := Y i G H (Same.refl _) S.sub
      cases ed : ds[i]? with
      | none =>
        have hl := List.getElem?_eq_none_iff.mp ed
        rw [List.drop_eq_nil_of_le hl] at q
        exact .inl ⟨y2 ed, q σ G H (Same.refl _) S⟩
      | some d =>
        obtain ⟨hl, hd⟩ := List.getElem?_eq_some_iff.mp ed
        rw [List.drop_eq_getElem_cons hl, hd] at q
        obtain ⟨go, yl⟩ := y1 d ed
        refine .inr ⟨go, fun σ' H' => ∃ ρ G, Stt X.K B ρ σ' G H' ∧ Yields X.K J ds G ∧ PostS X.K B G W D' (forF g F (ds.drop (i + 1)) ρ), fun σ' H' z => ⟨ds.length - (i + 1), by omega, rfl, z⟩, fun x H' hy => ?_⟩
        obtain ⟨G', ex, ax⟩ := yl x H' hy
        have q' : PostS X.K B G W D' (match g d ρ with
          | some ρ1 => loopS (forF g F (ds.drop (i + 1))) (F ρ1)
          | none => .stuck) := q
        cases eg : g d ρ with
        | none => rw [eg] at q'; exact q'.elim
        | some ρ2 =>
          rw [eg] at q'
          refine ⟨B, ρ, G', d, ρ2, S.ext ex, ax, eg, fun σ2 G2 H2 e2 S2 _ => ⟨B, ρ2, G2, S2, ?_⟩⟩
          exact PostS.loop (q'.to (ex.g.trans e2)) fun ρ3 σ3 G3 H3 e3 S3 q3 => ⟨ρ3, G3, S3, Y.mono ((ex.g.trans e2).trans e3), q3⟩
end
end DL


set_option Elab.async false
set_option linter.all false
set_option maxRecDepth 100000
set_option maxHeartbeats 4000000
/-! DL10: comprehensions, any, all. -/
namespace DL
open PySem PySem.Spec PyProof.Rows L2

/-- no exception -/
abbrev WF : WX := fun _ _ _ _ => False
theorem takes_WF {X : Cx} : Takes X WF := fun u s' ⟨_, _, _, _, _, _, _, _, _, _, _, _, _, _, _, _, w⟩ => w.elim
theorem Bd.blk {X : Cx} {W : WX} {k : Nat} (b : Bd X W k) {s : Shared} {H : Hp} {scope : Scope} {cenv : Env} {fp : List Addr} : Bd (X.blk s H scope cenv fp) WF k := ⟨takes_WF, b.hr, b.calm⟩
def wipeE (ρ : En) : List Nat → En
  | [] => ρ
  | v :: vs => (wipeE ρ vs).set v none
theorem wipeE_length (ρ : En) : ∀ vs : List Nat, (wipeE ρ vs).length = ρ.length
  | [] => rfl
  | v :: vs => by unfold wipeE; rw [List.length_set, wipeE_length ρ vs]
theorem wipeE_get {ρ : En} {j : Nat} {c : Cl} : ∀ {vs : List Nat}, (wipeE ρ vs)[j]? = some (some c) → ρ[j]? = some (some c) ∧ j ∉ vs
  | [], h => ⟨h, by simp⟩
  | v :: vs, h => by
    unfold wipeE at h
    rcases set_get h with ⟨_, z⟩ | ⟨hne, h⟩
    · cases z
    · obtain ⟨h1, h2⟩ := wipeE_get h
      exact ⟨h1, by simp only [List.mem_cons, not_or]; exact ⟨fun e => hne e.symm, h2⟩⟩
theorem wipe_idem {σ : L2.St} {vs : List Nat} : wipe (wipe σ vs) vs = wipe σ vs := wipe_ext (wipe_length σ vs) fun j hj => by rw [wipe_get, if_neg hj]
section
variable {K : PySem.W.Frag} {B : Gd} {ρ : En} {σ τ : L2.St} {G H : Hp} {vs : List Nat}
theorem Stt.wiped (S : Stt K B ρ σ G H) (h : wipe τ vs = wipe σ vs) : Stt K B (wipeE ρ vs) τ G H := by
  obtain ⟨hl, hg⟩ := wipe_back h
  have at_ : ∀ {j : Nat} {c : Cl}, (wipeE ρ vs)[j]? = some (some c) → ρ[j]? = some (some c) ∧ τ[j]? = σ[j]? := fun {j c} h => by
    obtain ⟨h1, h2⟩ := wipeE_get h
    exact ⟨h1, hg j h2⟩
  refine ⟨S.sub, S.gg, S.hh, S.nw, S.nb, by rw [wipeE_length, hl]; exact S.len, fun j x hj => ?_, fun j t hj => ?_, fun j t hj => ?_, fun i j s t b hi hj h1 h2 => ?_, fun i j s t hi hj => ?_⟩
  · obtain ⟨h1, h2⟩ := at_ hj
    rw [h2]
    exact S.dd j x h1
  · obtain ⟨h1, h2⟩ := at_ hj
    rw [h2]
    exact S.oo j t h1
  · obtain ⟨h1, h2⟩ := at_ hj
    rw [h2]
    exact S.bb j t h1
  · obtain ⟨i1, i2⟩ := at_ hi
    obtain ⟨j1, j2⟩ := at_ hj
    rw [i2] at h1
    rw [j2] at h2
    exact S.sp i j s t b i1 j1 h1 h2
  · exact S.s1 i j s t (at_ hi).1 (at_ hj).1
/-- what stood in the block's own slots comes back -/
def keepD : Option (Option Cl) → Option Cl
  | some (some (.d x)) => some (.d x)
  | _ => none
def mergeE (ρ0 ρ : En) : List Nat → En
  | [] => ρ
  | v :: vs => (mergeE ρ0 ρ vs).set v (keepD ρ0[v]?)
theorem mergeE_length (ρ0 ρ : En) : ∀ vs : List Nat, (mergeE ρ0 ρ vs).length = ρ.length
  | [] => rfl
  | v :: vs => by unfold mergeE; rw [List.length_set, mergeE_length ρ0 ρ vs]
theorem mergeE_get {ρ0 ρ : En} {j : Nat} {c : Cl} : ∀ {vs : List Nat}, (mergeE ρ0 ρ vs)[j]? = some (some c) → (∃ x, c = .d x ∧ ρ0[j]? = some (some (.d x))) ∨ (ρ[j]? = some (some c) ∧ j ∉ vs)
  | [], h => .inr ⟨h, by simp⟩
  | v :: vs, h => by
    unfold mergeE at h
    rcases set_get h with ⟨rfl, z⟩ | ⟨hne, h⟩
    · unfold keepD at z
      split at z
      · rename_i x e
        cases z
        exact .inl ⟨x, rfl, e⟩
      · cases z
    · rcases mergeE_get h with h | ⟨h1, h2⟩
      · exact .inl h
      · exact .inr ⟨h1, by simp only [List.mem_cons, not_or]; exact ⟨fun e => hne e.symm, h2⟩⟩
theorem Stt.merged {ρ0 : En} {G0 H0 : Hp} (S0 : Stt K B ρ0 σ G0 H0) (S : Stt K B ρ τ G H) (e : Same G0 G) (h : wipe τ vs = wipe σ vs) : Stt K B (mergeE ρ0 ρ vs) σ G H := by
  obtain ⟨hl, hg⟩ := wipe_back h
  have nd : ∀ {j : Nat} {c : Cl}, (mergeE ρ0 ρ vs)[j]? = some (some c) → (∀ x, c ≠ .d x) → ρ[j]? = some (some c) ∧ σ[j]? = τ[j]? := fun {j c} hj hc => by
    rcases mergeE_get hj with ⟨x, z, _⟩ | ⟨h1, h2⟩
    · exact absurd z (hc x)
    · exact ⟨h1, (hg j h2).symm⟩
  refine ⟨S.sub, S.gg, S.hh, S.nw, S.nb, by rw [mergeE_length, ← hl]; exact S.len, fun j x hj => ?_, fun j t hj => ?_, fun j t hj => ?_, fun i j s t b hi hj h1 h2 => ?_, fun i j s t hi hj => ?_⟩
  · rcases mergeE_get hj with ⟨y, z, h0⟩ | ⟨h1, h2⟩
    · cases z
      obtain ⟨v, k1, k2⟩ := S0.dd j x h0
      exact ⟨v, k1, k2.mono e⟩
    · rw [← hg j h2]
      exact S.dd j x h1
  · obtain ⟨h1, h2⟩ := nd hj fun x z => nomatch z
    rw [h2]
    exact S.oo j t h1
  · obtain ⟨h1, h2⟩ := nd hj fun x z => nomatch z
    rw [h2]
    exact S.bb j t h1
  · obtain ⟨i1, i2⟩ := nd hi fun x z => nomatch z
    obtain ⟨j1, j2⟩ := nd hj fun x z => nomatch z
    rw [i2] at h1
    rw [j2] at h2
    exact S.sp i j s t b i1 j1 h1 h2
  · exact S.s1 i j s t (nd hi fun x z => nomatch z).1 (nd hj fun x z => nomatch z).1
/-- the ground with a list in the making -/
abbrev Gd.bld (B : Gd) (a : Addr) (vs : List V) : Gd := ⟨B.G, upd B.H a (.lst vs), B.b⟩
/-- the list at a is new -/
structure Fresh (B : Gd) (G : Hp) (a : Addr) : Prop where
  g : G a = none
  b : B.H a = none
  bg : B.G a = none
  bb : B.b ≠ some a
theorem Stt.begin {a : Addr} (S : Stt K B ρ σ G H) (ha : H a = none) : Fresh B G a ∧ Stt K (B.bld a []) ρ σ G (upd H a (.lst [])) := by
  have ga : G a = none := Same.free S.sub ha
  have hb : B.H a = none := Same.free S.hh ha
  have bbn : B.b ≠ some a := fun z => (S.nb a z).2.2 ha
  have e := Ext.newH (o := .lst []) S.sub ha
  have S1 := S.ext e
  refine ⟨⟨ga, hb, Same.free S.gg ga, bbn⟩, S1.sub, S1.gg, fun b o q => ?_, fun b h1 h2 => ?_, fun b hbb => ?_, S1.len, S1.dd, fun j t hj => ?_, S1.bb, S1.sp, S1.s1⟩
  · have q' : upd B.H a (.lst []) b = some o := q
    by_cases z : b = a
    · rw [z, upd_same] at q'
      rw [z, upd_same]
      exact q'
    · rw [upd_ne z] at q'
      exact S1.hh b o q'
  · by_cases z : b = a
    · rw [z]; exact ga
    · exact S.nw b h1 (by
        have h2' : upd B.H a (.lst []) b ≠ none := h2
        rwa [upd_ne z] at h2')
  · obtain ⟨k1, k2, k3⟩ := S1.nb b hbb
    refine ⟨k1, ?_, k3⟩
    show upd B.H a (.lst []) b = none
    rw [upd_ne fun z => bbn (by rw [hbb, z])]
    exact k2
  · obtain ⟨b, o, h1, h2, h3, h4, h5, h6⟩ := S.oo j t hj
    have hba : b ≠ a := fun z => by rw [z, ha] at h2; cases h2
    refine ⟨b, o, h1, by rw [upd_ne hba]; exact h2, h3, ?_, h5, h6⟩
    show upd B.H a (.lst []) b = none
    rw [upd_ne hba]
    exact h4
theorem Stt.grown {a : Addr} {vs vs' : List V} (f : Fresh B G a) (S : Stt K (B.bld a vs) ρ σ G H) : Stt K (B.bld a vs') ρ σ G (upd H a (.lst vs')) := by
  have upn : ∀ {b : Addr}, b ≠ a → upd B.H a (.lst vs) b = none → upd B.H a (.lst vs') b = none := fun {b} z q => by
    rw [upd_ne z] at q ⊢
    exact q
  have nea : ∀ {b : Addr}, upd B.H a (.lst vs) b = none → b ≠ a := fun {b} q z => by rw [z, upd_same] at q; cases q
  refine ⟨fun b o q => ?_, S.gg, fun b o q => ?_, fun b h1 h2 => ?_, fun b hbb => ?_, S.len, S.dd, fun j t hj => ?_, fun j t hj => ?_, S.sp, S.s1⟩
  · rw [upd_ne (ne_of_none q f.g)]
    exact S.sub b o q
  · by_cases z : b = a
    · have q' : upd B.H a (.lst vs') b = some o := q
      rw [z, upd_same] at q'
      rw [z, upd_same]
      exact q'
    · have q' : upd B.H a (.lst vs') b = some o := q
      rw [upd_ne z] at q' ⊢
      exact S.hh b o (show upd B.H a (.lst vs) b = some o by rw [upd_ne z]; exact q')
  · by_cases z : b = a
    · rw [z]; exact f.g
    · have h2' : upd B.H a (.lst vs') b ≠ none := h2
      rw [upd_ne z] at h2'
      exact S.nw b h1 (show upd B.H a (.lst vs) b ≠ none by rw [upd_ne z]; exact h2')
  · obtain ⟨k1, k2, k3⟩ := S.nb b hbb
    have z := nea k2
    exact ⟨k1, upn z k2, by rw [upd_ne z]; exact k3⟩
  · obtain ⟨b, o, h1, h2, h3, h4, h5, h6⟩ := S.oo j t hj
    have z := nea h4
    exact ⟨b, o, h1, by rw [upd_ne z]; exact h2, h3, upn z h4, h5, h6⟩
  · obtain ⟨b, o, h0, h1, h2, h3⟩ := S.bb j t hj
    have z : b ≠ a := fun z => f.bb (by rw [← z]; exact h0)
    exact ⟨b, o, h0, h1, by rw [upd_ne z]; exact h2, h3⟩
theorem Stt.ended {a : Addr} {vs : List V} (f : Fresh B G a) (S : Stt K (B.bld a vs) ρ σ G H) : Stt K B ρ σ G H ∧ H a = some (.lst vs) ∧ ∀ (i : Nat) (ys : Lt), ρ[i]? = some (some (.own ys)) → σ[i]? ≠ some (some (.ref a)) := by
  have nea : ∀ {b : Addr}, upd B.H a (.lst vs) b = none → b ≠ a ∧ B.H b = none := fun {b} q => by
    by_cases z : b = a
    · rw [z, upd_same] at q; cases q
    · rw [upd_ne z] at q; exact ⟨z, q⟩
  refine ⟨⟨S.sub, S.gg, fun b o q => ?_, fun b h1 h2 => ?_, fun b hbb => ?_, S.len, S.dd, fun j t hj => ?_, S.bb, S.sp, S.s1⟩, S.hh a _ upd_same, fun i ys hi hs => ?_⟩
  · exact S.hh b o (show upd B.H a (.lst vs) b = some o by rw [upd_ne (ne_of_none q f.b)]; exact q)
  · exact S.nw b h1 (show upd B.H a (.lst vs) b ≠ none by rw [upd_ne fun z => h2 (by rw [z]; exact f.b)]; exact h2)
  · obtain ⟨k1, k2, k3⟩ := S.nb b hbb
    exact ⟨k1, (nea k2).2, k3⟩
  · obtain ⟨b, o, h1, h2, h3, h4, h5, h6⟩ := S.oo j t hj
    exact ⟨b, o, h1, h2, h3, (nea h4).2, h5, h6⟩
  · obtain ⟨b, o, h1, h2, h3, h4, h5, h6⟩ := S.oo i ys hi
    rw [h1] at hs
    cases hs
    exact (nea h4).1 rfl
theorem Fresh.mono {G' H' : Hp} {a : Addr} {vs : List V} (f : Fresh B G a) (S : Stt K (B.bld a vs) ρ σ G' H') : Fresh B G' a :=
  ⟨S.nw a f.bg (show upd B.H a (.lst vs) a ≠ none by rw [upd_same]; intro z; cases z), f.b, f.bg, f.bb⟩
end
/-- the turns of a comprehension -/
def lcF (vs : List Nat) (g : Tgm) (ft : M Bool) (fe : M D) : List D → List D → En → Res (List D)
  | [], acc, ρ => .ok acc ρ
  | d :: ds, acc, ρ => match g d ρ with
    | none => .stuck
    | some ρ1 => (match ft ρ1 with
      | .ok true ρ2 => (match fe ρ2 with
        | .ok x ρ3 => (match Nat.blt acc.length 16777216 with
          | true => lcF vs g ft fe ds (acc ++ [x]) (wipeE ρ3 vs)
          | false => .stuck)
        | _ => .stuck)
      | .ok false ρ2 => lcF vs g ft fe ds acc (wipeE ρ2 vs)
      | _ => .stuck)
def lcM (vs : List Nat) (fi : M (List D)) (g : Tgm) (ft : M Bool) (fe : M D) : M (List D) := fun ρ => match fi ρ with
  | .ok ds ρ1 => (match lcF vs g ft fe ds [] (wipeE ρ1 vs) with
    | .ok l ρ2 => .ok l (mergeE ρ1 ρ2 vs)
    | _ => .stuck)
  | .er x ρ1 => .er x ρ1
  | .stuck => .stuck
theorem Ats.snoc {K : PySem.W.Frag} {H : Hp} {vs : List V} {ds : List D} {v : V} {d : D} (h : Ats K H vs ds) (a : At K H v d) : Ats K H (vs ++ [v]) (ds ++ [d]) := h.append (.cons a .nil)
theorem lc_of {K : PySem.W.Frag} {W : WX} {vs is : List Nat} {fi : M (List D)} {g : Tgm} {ft : M Bool} {fe : M D} (hm : ∀ i ∈ is, i ∈ vs) {σ : L2.St} {H : Hp} {Q : VK} (h : tO K W (lcM vs fi g ft fe) σ H Q) : tLc (tI K W fi) (tG K is g) (tT K WF ft) (tD K WF fe) vs σ H Q := by
  obtain ⟨B, ρ, G, S, q⟩ := h
  refine ⟨B, ρ, G, S, ?_⟩
  unfold lcM at q
  revert q
  cases fi ρ with
  | er x ρ1 => exact fun q c d G' H' e S' a => q c d G' H' e S' a
  | stuck => exact fun q => q
  | ok ds ρ1 =>
    intro q J G1 H1 e1 S1 Y aD hD
    dsimp only at q
    obtain ⟨f1, S2⟩ := S1.begin hD
    have S3 : Stt K (B.bld aD []) (wipeE ρ1 vs) (wipe σ vs) G1 (upd H1 aD (.lst [])) := S2.wiped wipe_idem
    -- the wish
    let Pv : Nat → Hp → Prop := fun i H => ∃ (ρ : En) (G : Hp) (ws : List V) (acc : List D), Same G1 G ∧ Fresh B G aD ∧ Stt K (B.bld aD ws) ρ (wipe σ vs) G H ∧ Ats K G ws acc ∧
      PostO K B σ G W Q (match lcF vs g ft fe (ds.drop i) acc ρ with
        | .ok l ρ2 => .ok l (mergeE ρ1 ρ2 vs)
        | _ => .stuck)
    refine ⟨fun i m H => m = ds.length - i ∧ Pv i H, ⟨_, rfl, wipeE ρ1 vs, G1, [], [], Same.refl _, f1, S3, .nil, PostO.to e1 q⟩, ?_⟩
    rintro i m H' ⟨rfl, ρ, G2, ws, acc, e2, f2, S4, A4, q4⟩
    obtain ⟨y1, y2⟩ := Y i G2 H' e2 S4.sub
    cases ed : ds[i]? with
    | none =>
      have hl := List.getElem?_eq_none_iff.mp ed
      rw [List.drop_eq_nil_of_le hl] at q4
      have q5 : PostO K B σ G2 W Q (.ok acc (mergeE ρ1 ρ vs)) := q4
      obtain ⟨S5, h5, o5⟩ := S4.ended f2
      refine .inl ⟨y2 ed, q5 aD ws G2 H' (Same.refl _) (Stt.merged S1 S5 e2 wipe_idem) h5 f2.g f2.b f2.bb (fun j ys hj hs => ?_) A4⟩
      rcases mergeE_get hj with ⟨x, z, _⟩ | ⟨k1, k2⟩
      · cases z
      · refine o5 j ys k1 ?_
        rw [wipe_get, if_neg k2]
        exact hs
    | some d =>
      obtain ⟨hl, hd⟩ := List.getElem?_eq_some_iff.mp ed
      rw [List.drop_eq_getElem_cons hl, hd] at q4
      obtain ⟨go, yl⟩ := y1 d ed
      refine .inr ⟨go, Pv (i + 1), fun H'' z => ⟨ds.length - (i + 1), by omega, rfl, z⟩, fun x H'' hy => ?_⟩
      obtain ⟨G3, ex, ax⟩ := yl x H'' hy
      have S5 := S4.ext ex
      unfold lcF at q4
      cases eg : g d ρ with
      | none => rw [eg] at q4; exact q4.elim
      | some ρ5 =>
        rw [eg] at q4
        dsimp only at q4
        refine ⟨B.bld aD ws, ρ, G3, d, ρ5, S5, ax, eg, fun σ6 G6 H6 e6 S6 w6 => ⟨(wipe_sub w6 hm).trans wipe_idem, ?_⟩⟩
        have w6' : wipe σ6 vs = wipe σ vs := (wipe_sub w6 hm).trans wipe_idem
        have w6'' : wipe (wipe σ vs) vs = wipe σ6 vs := wipe_idem.trans w6'.symm
        refine ⟨B.bld aD ws, ρ5, G6, S6, ?_⟩
        revert q4
        cases ft ρ5 with
        | er x ρ7 => exact fun q => q.elim
        | stuck => exact fun q => q.elim
        | ok b ρ7 =>
          cases b with
          | false =>
            intro q7 G7 H7 e7 S7
            rw [if_neg Bool.false_ne_true]
            have eA := ((e2.trans ex.g).trans e6).trans e7
            exact ⟨wipeE ρ7 vs, G7, ws, acc, eA, f2.mono S7, S7.wiped w6'', A4.mono ((ex.g.trans e6).trans e7), PostO.to ((ex.g.trans e6).trans e7) q7⟩
          | true =>
            intro q7 G7 H7 e7 S7
            rw [if_pos rfl]
            refine ⟨B.bld aD ws, ρ7, G7, S7, ?_⟩
            dsimp only at q7
            revert q7
            cases fe ρ7 with
            | er x ρ8 => exact fun q => q.elim
            | stuck => exact fun q => q.elim
            | ok x ρ8 =>
              intro q8 v G8 H8 e8 S8 a8
              dsimp only at q8
              have eB := ((ex.g.trans e6).trans e7).trans e8
              have A8 := A4.mono eB
              cases ec : Nat.blt acc.length 16777216 with
              | false => rw [ec] at q8; exact q8.elim
              | true =>
                rw [ec] at q8
                have f8 := f2.mono S8
                refine ⟨ws, (S8.ended f8).2.1, ?_, wipeE ρ8 vs, G8, ws ++ [v], acc ++ [x], e2.trans eB, f8, (Stt.grown f8 S8).wiped w6'', A8.snoc a8, PostO.to eB q8⟩
                rw [A8.length, sizeLine_eq]
                exact Nat.le_of_ble_eq_true ec
theorem Stt.frzL {K : PySem.W.Frag} {B : Gd} {ρ : En} {σ : L2.St} {G H : Hp} {a : Addr} {vs : List V} {xs : List D} (S : Stt K B ρ σ G H) (n : NewL K B ρ σ G H a vs xs) : Same G (upd G a (.lst vs)) ∧ Stt K B ρ σ (upd G a (.lst vs)) H ∧ At K (upd G a (.lst vs)) (.ref a) (.lst xs) := by
  have e : Same G (upd G a (.lst vs)) := fun b o q => by rw [upd_ne (ne_of_none q n.g)]; exact q
  refine ⟨e, ⟨fun b o q => ?_, S.gg.trans e, S.hh, fun b h1 h2 => ?_, fun b hbb => ?_, S.len, fun j x hj => ?_, fun j t hj => ?_, fun j t hj => ?_, S.sp, S.s1⟩, .lst upd_same (n.a.mono e)⟩
  · by_cases z : b = a
    · rw [z, upd_same] at q; rw [z, n.h]; exact q
    · rw [upd_ne z] at q; exact S.sub b o q
  · rw [upd_ne fun z => h2 (by rw [z]; exact n.b)]
    exact S.nw b h1 h2
  · obtain ⟨k1, k2, k3⟩ := S.nb b hbb
    exact ⟨by rw [upd_ne fun z => n.bb (by rw [hbb, z])]; exact k1, k2, k3⟩
  · obtain ⟨v, h1, h2⟩ := S.dd j x hj
    exact ⟨v, h1, h2.mono e⟩
  · obtain ⟨b, o, h1, h2, h3, h4, h5, h6⟩ := S.oo j t hj
    have z : b ≠ a := fun z => n.o j t hj (by rw [h1, z])
    exact ⟨b, o, h1, h2, by rw [upd_ne z]; exact h3, h4, h5, h6.mono e⟩
  · obtain ⟨b, o, h0, h1, h2, h3⟩ := S.bb j t hj
    exact ⟨b, o, h0, h1, h2, h3.mono e⟩
section
variable {X : Cx} {W : WX} {e : Expr} {f : M D} {fo fi : M (List D)} {pos : Pos} {x : Str} {k : Nat}
/-- a new list frozen at once -/
def frzM (f : M (List D)) : M D := bd f fun l => rt (.lst l)
theorem de_frz (h : DO X W e fo) : DE X W e (frzM fo) := PE.imp h fun σ H Q ⟨B, ρ, G, S, q⟩ => by
  refine ⟨B, ρ, G, S, ?_⟩
  unfold frzM bd at q
  revert q
  cases fo ρ with
  | er x ρ1 => exact fun q => q
  | stuck => exact fun q => q
  | ok l ρ1 =>
    intro q a vs G' H' e S' h1 h2 h3 h4 h5 h6
    obtain ⟨k1, k2, k3⟩ := S'.frzL ⟨h1, h2, h3, h4, h5, h6⟩
    exact q _ _ H' (e.trans k1) k2 k3
abbrev DTs (X : Cx) (W : WX) (ifs : List Expr) (f : M Bool) : Prop := PTs X ifs (tT X.K W f)
theorem PTs.imp {ifs : List Expr} {t t' : TT} (h : PTs X ifs t) (i : ∀ σ H Q, t' σ H Q → t σ H Q) : PTs X ifs t' := ⟨fun pins s σ H Q I q => h.run pins s σ H Q I (i σ H Q q)⟩
theorem dts_nil : DTs X W [] (rt true) := PTs.imp pts_nil fun σ H Q ⟨B, ρ, G, S, q⟩ => q G H (Same.refl _) S
theorem dts_one {c : Expr} {ft : M Bool} (h : DT X W c ft) : DTs X W [c] ft := pts_one h
section
variable {elt tg iter : Expr} {ifs : List Expr} {scope : Scope} {own : List (Str × Nat)} {is : List Nat} {g : Tgm} {ft : M Bool} {fe : M D} {spos : Pos}
theorem do_lc (b : Bd X W k) (hN : X.N.Nodup) (own : List (Str × Nat)) (hi : DI X W tg iter fi) (ok : BlkOk X.N X.env.scope scope own)
    (hg : ∀ (s : Shared) (H : Hp) (C : Addr) (cl : List (Str × Addr)) (fp : List Addr), Bd (X.blk s H scope (compEnvC scope cl C X.env) fp) WF k → DG (X.blk s H scope (compEnvC scope cl C X.env) fp) tg is g)
    (ht : ∀ (s : Shared) (H : Hp) (C : Addr) (cl : List (Str × Addr)) (fp : List Addr), Bd (X.blk s H scope (compEnvC scope cl C X.env) fp) WF k → DTs (X.blk s H scope (compEnvC scope cl C X.env) fp) WF ifs ft)
    (he : ∀ (s : Shared) (H : Hp) (C : Addr) (cl : List (Str × Addr)) (fp : List Addr), Bd (X.blk s H scope (compEnvC scope cl C X.env) fp) WF k → DE (X.blk s H scope (compEnvC scope cl C X.env) fp) WF elt fe)
    (hm : ∀ i ∈ is, i ∈ own.map (·.2) := by decide) (hs : ∀ x, foldedSetIterable iter X.env x = pure x := by intro _; rfl) :
    DO X W (.ListComp elt [⟨tg, iter, ifs, 0⟩] scope pos) (lcM (own.map (·.2)) fi g ft fe) :=
  PE.imp (pe_lc b.calm hN hi ok (fun s H C cl fp => hg s H C cl fp b.blk) (fun s H C cl fp => ht s H C cl fp b.blk) (fun s H C cl fp => he s H C cl fp b.blk) hs) fun σ H Q q => lc_of hm q
/-- name = [..] on one line -/
theorem ds_lcO (i : Nat) {py : Pos} (b : Bd X W k) (hN : X.N.Nodup) (own : List (Str × Nat)) (hi : DI X W tg iter fi) (ok : BlkOk X.N X.env.scope scope own)
    (hg : ∀ (s : Shared) (H : Hp) (C : Addr) (cl : List (Str × Addr)) (fp : List Addr), Bd (X.blk s H scope (compEnvC scope cl C X.env) fp) WF k → DG (X.blk s H scope (compEnvC scope cl C X.env) fp) tg is g)
    (ht : ∀ (s : Shared) (H : Hp) (C : Addr) (cl : List (Str × Addr)) (fp : List Addr), Bd (X.blk s H scope (compEnvC scope cl C X.env) fp) WF k → DTs (X.blk s H scope (compEnvC scope cl C X.env) fp) WF ifs ft)
    (he : ∀ (s : Shared) (H : Hp) (C : Addr) (cl : List (Str × Addr)) (fp : List Addr), Bd (X.blk s H scope (compEnvC scope cl C X.env) fp) WF k → DE (X.blk s H scope (compEnvC scope cl C X.env) fp) WF elt fe)
    (hy : X.N[i]? = some x := by rfl) (hyl : X.env.scope.names.lookup x = some .local := by rfl) (hsw : swapsWith (.ListComp elt [⟨tg, iter, ifs, 0⟩] scope pos) (some (.Name x py)) spos.line X.env = pure true := by rfl)
    (hm : ∀ i ∈ is, i ∈ own.map (·.2) := by decide) (hs : ∀ x, foldedSetIterable iter X.env x = pure x := by intro _; rfl) :
    DS X W (.Assign [.Name x py] (.ListComp elt [⟨tg, iter, ifs, 0⟩] scope pos) spos) (setO i (lcM (own.map (·.2)) fi g ft fe)) :=
  PS.imp (ps_setLc b.calm hN hy hyl hsw hi ok (fun s H C cl fp => hg s H C cl fp b.blk) (fun s H C cl fp => ht s H C cl fp b.blk) (fun s H C cl fp => he s H C cl fp b.blk) hs) fun D' σ H ⟨B, ρ, G, S, q⟩ =>
    lc_of (Q := fun x H1 => gName i x σ H1 D'.nx) hm (tO_bdS S q fun a vs G1 H1 x ρ1 e1 S1 n q1 => q1 _ G1 H1 (Same.refl _) (S1.putO n))
end

def blkB (N : List Str) (sc scope : Scope) (own : List (Str × Nat)) : Bool :=
  decide (scope.kind = .function) && scope.names.all (fun y => decide (scope.names.lookup y.1 = some y.2)) && own.all (fun p => decide (N[p.2]? = some p.1)) &&
  scope.names.all (fun y => !decide (y.2 = .free) || (decide (sc.names.lookup y.1 = some .cell) || decide (sc.names.lookup y.1 = some .free))) &&
  scope.names.all fun y => !(decide (y.2 = .local) || decide (y.2 = .cell)) || (decide (y.1 ∈ own.map (·.1)) || decide (y.1 ∉ N))
theorem blk_of {N : List Str} {sc scope : Scope} {own : List (Str × Nat)} (h : blkB N sc scope own = true) : BlkOk N sc scope own := by
  simp only [blkB, Bool.and_eq_true, List.all_eq_true, decide_eq_true_eq, Bool.or_eq_true, Bool.not_eq_true', decide_eq_false_iff_not] at h
  obtain ⟨⟨⟨⟨h1, h2⟩, h3⟩, h4⟩, h5⟩ := h
  refine ⟨h1, h2, h3, fun y m e => (h4 y m).resolve_left (fun n => n e), fun y m e => (h5 y m).resolve_left fun n => ?_⟩
  rcases e with e | e <;> simp [e] at n
/-! ### any, all -/
def blsD : List D → Option (List Bool)
  | [] => some []
  | .bl b :: r => (match blsD r with
    | some bs => some (b :: bs)
    | none => none)
  | _ => none
def blsO : D → Option (List Bool)
  | .lst ds => blsD ds
  | _ => none
theorem bls_at {K : PySem.W.Frag} {G : Hp} : ∀ {vs : List V} {ds : List D} {bs : List Bool}, Ats K G vs ds → blsD ds = some bs → vs = bs.map V.bl
  | _, _, _, .nil, e => by cases e; rfl
  | _, _, _, .cons (d := d) (ds := ds) h t, e => by
    cases d with
    | bl b =>
      have e' : (match blsD ds with
        | some bs => some (b :: bs)
        | none => none) = some _ := e
      cases e2 : blsD ds with
      | none => rw [e2] at e'; cases e'
      | some bs =>
        rw [e2] at e'
        cases e'
        cases h
        rw [bls_at t e2]
        rfl
    | _ => cases e
def anyF : List D → M D
  | [x] => (match blsO x with
    | some bs => rt (.bl (bs.any id))
    | none => stk)
  | _ => stk
def allF : List D → M D
  | [x] => (match blsO x with
    | some bs => rt (.bl (bs.all id))
    | none => stk)
  | _ => stk
theorem blsO_at {K : PySem.W.Frag} {G H : Hp} {v : V} {x : D} {bs : List Bool} (s : Same G H) (a : At K G v x) (e : blsO x = some bs) : ∃ b, v = .ref b ∧ SqL K H b (bs.map V.bl) := by
  cases a with
  | lst h t =>
    rename_i b vs ds
    refine ⟨b, rfl, ?_⟩
    rw [← bls_at t e]
    exact SqL.of (s _ _ h)
  | _ => cases e
theorem cd_any (hc : X.calm = true) : CallD X W (.builtin "any") anyF := CallD.of (cr_any hc) fun B ρ σ G H vs ds Q S a q => by
  unfold anyF at q
  split at q
  · rename_i x
    cases a with
    | cons h t =>
      cases t
      cases e : blsO x with
      | none => rw [e] at q; exact q.elim
      | some bs =>
        rw [e] at q
        obtain ⟨b, rfl, hq⟩ := blsO_at S.sub h e
        exact ⟨b, bs, rfl, hq, now S q (.bl _)⟩
  · exact q.elim
theorem cd_all (hc : X.calm = true) : CallD X W (.builtin "all") allF := CallD.of (cr_all hc) fun B ρ σ G H vs ds Q S a q => by
  unfold allF at q
  split at q
  · rename_i x
    cases a with
    | cons h t =>
      cases t
      cases e : blsO x with
      | none => rw [e] at q; exact q.elim
      | some bs =>
        rw [e] at q
        obtain ⟨b, rfl, hq⟩ := blsO_at S.sub h e
        exact ⟨b, bs, rfl, hq, now S q (.bl _)⟩
  · exact q.elim
end
end DL


set_option Elab.async false
set_option linter.all false
set_option maxRecDepth 100000
set_option maxHeartbeats 4000000
/-! DL11: places, slices, lists changed, texts, conversions. -/
namespace DL
open PySem PySem.Spec PyProof.Rows L2

/-! ### places -/
def ixP (n : Nat) (i : Int) : Option Nat := match decide (0 ≤ i) with
  | true => (match decide (i < n) with
    | true => some i.toNat
    | false => none)
  | false => (match decide (-(n : Int) ≤ i) with
    | true => some (i + n).toNat
    | false => none)
theorem ixP_eq (n : Nat) (i : Int) : ixP n i = ixN n i := by
  unfold ixP ixN
  by_cases h0 : 0 ≤ i
  · rw [if_pos h0]
    simp only [decide_eq_true h0]
    by_cases h1 : i < n
    · rw [if_pos h1]; simp only [decide_eq_true h1]
    · rw [if_neg h1]; simp only [decide_eq_false h1]
  · rw [if_neg h0]
    simp only [decide_eq_false h0]
    by_cases h1 : -(n : Int) ≤ i
    · rw [if_pos h1]; simp only [decide_eq_true h1]
    · rw [if_neg h1]; simp only [decide_eq_false h1]
def atD {α : Type} (xs : List α) (i : Int) : Option α := match ixP xs.length i with
  | some j => xs[j]?
  | none => none
theorem atD_eq {α : Type} (xs : List α) (i : Int) : atD xs i = atI xs i := by
  unfold atD atI
  rw [ixP_eq]
  cases ixN xs.length i <;> rfl
theorem atD_at {K : PySem.W.Frag} {G : Hp} {vs : List V} {ds : List D} {i : Int} {d : D} (a : Ats K G vs ds) (h : atD ds i = some d) : ∃ v, atI vs i = some v ∧ At K G v d := by
  rw [atD_eq] at h
  unfold atI at h ⊢
  rw [a.length]
  cases e : ixN ds.length i with
  | none => rw [e] at h; cases h
  | some j =>
    rw [e] at h
    exact a.get h
def ixD : D → D → Option D
  | .tup xs, .int i => atD xs i
  | .lst xs, .int i => atD xs i
  | .scr xs, .int i => atD xs i
  | .str z, .int i => (match szOk z.length with
    | true => (match atD z.cps.toList i with
      | some c => some (.str ⟨#[c]⟩)
      | none => none)
    | false => none)
  | _, _ => none
def ixM (x y : D) : M D := optM (ixD x y)
theorem ixD_at {K : PySem.W.Frag} {B : Gd} {σ : L2.St} {W : WX} {ρ : En} {G H : Hp} {Q : VK} {v w : V} {x y : D} (S : Stt K B ρ σ G H) (a : At K G v x) (b : At K G w y) (q : PostE K B σ G W Q (ixM x y ρ)) : rIx K v w H Q := by
  unfold ixM at q
  cases e : ixD x y with
  | none => rw [e] at q; exact q.elim
  | some z =>
    rw [e] at q
    have fin : ∀ {u : V}, At K G u z → Q u H := fun au => now S q au
    cases b with
    | int i =>
      cases a with
      | tup h t =>
        obtain ⟨u, h1, h2⟩ := atD_at t e
        exact .inr (.inl ⟨_, _, i, u, rfl, rfl, same_seqT S.sub h, h1, fin h2⟩)
      | lst h t =>
        obtain ⟨u, h1, h2⟩ := atD_at t e
        exact .inl ⟨_, _, i, u, rfl, rfl, SqL.of (S.sub _ _ h), h1, fin h2⟩
      | scr h t =>
        obtain ⟨u, h1, h2⟩ := atD_at t e
        exact .inl ⟨_, _, i, u, rfl, rfl, S.sub.seq h, h1, fin h2⟩
      | str s0 =>
        have e' : (match szOk s0.length with
          | true => (match atD s0.cps.toList i with
            | some c => some (D.str ⟨#[c]⟩)
            | none => none)
          | false => none) = some z := e
        cases ez : szOk s0.length with
        | false => rw [ez] at e'; cases e'
        | true =>
          rw [ez] at e'
          dsimp only at e'
          cases ea : atD s0.cps.toList i with
          | none => rw [ea] at e'; cases e'
          | some c =>
            rw [ea] at e'
            cases e'
            exact .inr (.inr ⟨s0, i, c, rfl, rfl, szOk_le ez, by rw [← atD_eq]; exact ea, fin (.str _)⟩)
      | _ => cases e
    | _ => cases a <;> cases e
section
variable {X : Cx} {W : WX} {a b c e : Expr} {es : List Expr} {fa fb fc f : M D} {fo fs : M (List D)} {pos p p2 apos cpos pos' : Pos} {x : Str} {j k : Nat}
/-- two expressions, then an operation's reading -/
theorem two_imp {r : R2} {g : D → D → M D} (h : ∀ {B : Gd} {ρ : En} {σ : L2.St} {G H : Hp} {v w : V} {x y : D} {Q : VK}, Stt X.K B ρ σ G H → At X.K G v x → At X.K G w y → PostE X.K B σ G W Q (g x y ρ) → r v w H Q) :
    ∀ σ H Q, tD X.K W (two fa fb g) σ H Q → tOp r (tD X.K W fa) (tD X.K W fb) σ H Q := fun σ H Q ⟨B, ρ, G, S, q⟩ =>
  tD_bdE S q fun v G1 H1 x ρ1 e1 S1 A1 q1 => tD_bdE S1 q1 fun w G2 H2 y ρ2 e2 S2 A2 q2 => h S2 (A1.mono e2) A2 q2
theorem de_ix (ha : DE X W a fa) (hb : DE X W b fb) (hs : PlainIx b := by exact fun _ _ => rfl) : DE X W (.Subscript a b pos) (two fa fb ixM) :=
  PE.imp (pe_ix ix_seq ha hb hs) (two_imp fun S a b q => ixD_at S a b q)
/-- .. of the name at slot i, which is not frozen -/
def ixNv (i : Nat) (y : D) : M D := fun ρ => match ρ[i]? with
  | some (some (.d x)) => ixM x y ρ
  | some (some (.own t)) => ixM t.dat y ρ
  | some (some (.bor t)) => ixM t.dat y ρ
  | _ => .stuck
def isVar (ρ : En) (i : Nat) : Bool := match (ρ[i]? : Option (Option Cl)) with
  | some (some _) => true
  | _ => false
def ixNm (i : Nat) (fb : M D) : M D := fun ρ => match isVar ρ i with
  | true => bd fb (ixNv i) ρ
  | false => .stuck
theorem isVar_at {K : PySem.W.Frag} {B : Gd} {ρ : En} {σ : L2.St} {G H : Hp} {i : Nat} (S : Stt K B ρ σ G H) (h : isVar ρ i = true) : ∃ v, σ[i]? = some (some v) := by
  unfold isVar at h
  split at h
  · rename_i c e
    cases c with
    | d x => obtain ⟨v, h1, _⟩ := S.dd i x e; exact ⟨v, h1⟩
    | own t => obtain ⟨a, _, h1, _⟩ := S.oo i t e; exact ⟨_, h1⟩
    | bor t => obtain ⟨a, _, _, h1, _⟩ := S.bb i t e; exact ⟨_, h1⟩
  · cases h
theorem ixL_at {K : PySem.W.Frag} {B : Gd} {σ : L2.St} {W : WX} {ρ : En} {G H : Hp} {Q : VK} {ad : Addr} {o : HO} {t : Lt} {w : V} {y : D} (S : Stt K B ρ σ G H) (ha : H ad = some o) (l : LtO K G o t) (b : At K G w y) (q : PostE K B σ G W Q (ixM t.dat y ρ)) : rIx K (.ref ad) w H Q := by
  unfold ixM at q
  cases l with
  | ins l => cases b <;> exact q.elim
  | lst l =>
    rename_i vs xs
    cases b with
    | int i =>
      have q' : PostE K B σ G W Q (optM (atD xs i) ρ) := q
      cases e : atD xs i with
      | none => rw [e] at q'; exact q'.elim
      | some z =>
        rw [e] at q'
        obtain ⟨u, h1, h2⟩ := atD_at l e
        exact .inl ⟨ad, vs, i, u, rfl, rfl, SqL.of ha, h1, now S q' h2⟩
    | _ => exact q.elim
theorem de_ixN (i : Nat) (hb : DE X W b fb) (hN : X.N[i]? = some x := by rfl) (hv : Vis X.env.scope x := by first | exact Or.inl rfl | exact Or.inr (Or.inl rfl) | exact Or.inr (Or.inr rfl)) (hd : (x == ("__debug__" : Str)) = false := by decide) (hcd : (x == ("__classdict__" : Str)) = false := by decide) (hs : PlainIx b := by exact fun _ _ => rfl) :
    DE X W (.Subscript (.Name x p) b pos) (ixNm i fb) :=
  PE.imp (pe_ix ix_seq (pe_var hN hv hd hcd) hb hs) fun σ H Q ⟨B, ρ, G, S, q⟩ => by
    unfold ixNm at q
    cases ev : isVar ρ i with
    | false => rw [ev] at q; exact q.elim
    | true =>
      rw [ev] at q
      obtain ⟨v, hv⟩ := isVar_at S ev
      refine ⟨v, hv, tD_bdE S q fun w G1 H1 y ρ1 e1 S1 A1 q1 => ?_⟩
      unfold ixNv at q1
      split at q1
      · rename_i z hi
        obtain ⟨v', h1, h2⟩ := S1.dd i z hi
        rw [hv] at h1
        cases h1
        exact ixD_at S1 h2 A1 q1
      · rename_i t hi
        obtain ⟨ad, o, h1, h2, _, _, _, h6⟩ := S1.oo i t hi
        rw [hv] at h1
        cases h1
        exact ixL_at S1 h2 h6 A1 q1
      · rename_i t hi
        obtain ⟨ad, o, _, h1, h2, h6⟩ := S1.bb i t hi
        rw [hv] at h1
        cases h1
        exact ixL_at S1 h2 h6 A1 q1
      · exact q1.elim
/-- len of a name that is not frozen -/
def lenNm (i : Nat) : M D := fun ρ => match ρ[i]? with
  | some (some (.d x)) => lenF [x] ρ
  | some (some (.own t)) => lenF [t.dat] ρ
  | some (some (.bor t)) => lenF [t.dat] ρ
  | _ => .stuck
theorem de_lenN (i : Nat) (hg : Gl X "len") (hm : X.mg "len" = none) (hN : X.N[i]? = some x := by rfl) (hv : Vis X.env.scope x := by first | exact Or.inl rfl | exact Or.inr (Or.inl rfl) | exact Or.inr (Or.inr rfl)) (hd : (x == ("__debug__" : Str)) = false := by decide) (hcd : (x == ("__classdict__" : Str)) = false := by decide)
    (he : starEach [.Name x p2] X.env = (false, eval (.Name x p2) X.env) :: starEach [] X.env := by rfl) : DE X W (.Call (.Name "len" p) [.Name x p2] [] pos) (lenNm i) := by
  refine PE.imp (pe_callB call_len hg hm boot_len (pa_cons (pe_var hN hv hd hcd) pa_nil he) (by decide) (by decide) he) fun σ H Q ⟨B, ρ, G, S, q⟩ => ?_
  unfold lenNm at q
  have lt : ∀ {ad : Addr} {o : HO} {t : Lt}, H ad = some o → LtO X.K G o t → PostE X.K B σ G W Q (lenF [t.dat] ρ) → σ[i]? = some (some (.ref ad)) → tCB (fun xs H Q => ∃ x n, xs = [x] ∧ LenV X.K x H n ∧ Q (.int n) H) (tCons (tVar i) tNil) σ H Q := fun {ad o t} ha l q hs => by
    cases l with
    | ins l => exact q.elim
    | lst l =>
      rename_i vs xs
      exact ⟨_, hs, _, _, rfl, .inl ⟨vs, SqL.of ha, rfl⟩, by rw [l.length]; exact now S q (.int _)⟩
  split at q
  · rename_i z hi
    obtain ⟨v, h1, h2⟩ := S.dd i z hi
    refine ⟨v, h1, ?_⟩
    show ∃ x n, [v] = [x] ∧ LenV X.K x H n ∧ Q (.int n) H
    have q2 : PostE X.K B σ G W Q (lenF [z] ρ) := q
    cases h2 with
    | str y =>
      obtain ⟨hc, q3⟩ := PostE.chk q2
      exact ⟨_, _, rfl, ⟨szOk_le hc, rfl⟩, now S q3 (.int _)⟩
    | tup h t => exact ⟨_, _, rfl, .inr ⟨_, same_seqT S.sub h, rfl⟩, by rw [t.length]; exact now S q2 (.int _)⟩
    | lst h t => exact ⟨_, _, rfl, .inl ⟨_, SqL.of (S.sub _ _ h), rfl⟩, by rw [t.length]; exact now S q2 (.int _)⟩
    | scr h t => exact ⟨_, _, rfl, .inl ⟨_, S.sub.seq h, rfl⟩, by rw [t.length]; exact now S q2 (.int _)⟩
    | _ => exact q2.elim
  · rename_i t hi
    obtain ⟨ad, o, h1, h2, _, _, _, h6⟩ := S.oo i t hi
    exact lt h2 h6 q h1
  · rename_i t hi
    obtain ⟨ad, o, _, h1, h2, h6⟩ := S.bb i t hi
    exact lt h2 h6 q h1
  · exact q.elim

/-! ### slices -/
def partF (f : M D) : M (Option Int) := bd f fun x => match x with
  | .int i => rt (some i)
  | _ => stk
abbrev PMO := M (Option Int)
def tP (K : PySem.W.Frag) (W : WX) (f : PMO) : TO := fun σ H Q => ∃ (B : Gd) (ρ : En) (G : Hp), Stt K B ρ σ G H ∧ (match f ρ with
  | .ok o ρ' => ∀ (G' H' : Hp), Same G G' → Stt K B ρ' σ G' H' → Q o H'
  | .er x ρ' => ∀ (cls : Value) (d : Option Addr) (G' H' : Hp), Same G G' → Stt K B ρ' σ G' H' → ExAt K G' H' cls d x → W cls d σ H'
  | .stuck => False)
abbrev DP (X : Cx) (W : WX) (e : Option Expr) (f : PMO) : Prop := PO X e (tP X.K W f)
theorem PO.imp {e : Option Expr} {t t' : TO} (h : PO X e t) (i : ∀ σ H Q, t' σ H Q → t σ H Q) : PO X e t' := ⟨fun pins s σ H Q I q => h.run pins s σ H Q I (i σ H Q q)⟩
theorem dp_none : DP X W none (rt none) := PO.imp po_none fun σ H Q ⟨B, ρ, G, S, q⟩ => q G H (Same.refl _) S
theorem dp_some (h : DE X W e f) : DP X W (some e) (partF f) := PO.imp (po_some h) fun σ H Q ⟨B, ρ, G, S, q⟩ => by
  refine ⟨B, ρ, G, S, ?_⟩
  unfold partF bd at q
  revert q
  cases f ρ with
  | er x ρ1 => exact fun q => q
  | stuck => exact fun q => q
  | ok x ρ1 =>
    intro q v G' H' e S' a
    cases a with
    | int i => exact ⟨i, rfl, q G' H' e S'⟩
    | _ => exact q.elim
def cutD (xs : List D) (lo hi : Option Int) : List D := (xs.drop (HT.sIx xs.length 0 lo)).take (HT.sIx xs.length xs.length hi - HT.sIx xs.length 0 lo)
def slD : D → Option Int → Option Int → Option D
  | .tup xs, lo, hi => some (.tup (cutD xs lo hi))
  | .lst xs, lo, hi => some (.lst (cutD xs lo hi))
  | .scr xs, lo, hi => some (.lst (cutD xs lo hi))
  | .str z, lo, hi => (match szOk z.length with
    | true => some (.str (cutS z lo hi))
    | false => none)
  | _, _, _ => none
theorem cut_at {K : PySem.W.Frag} {G : Hp} {vs : List V} {ds : List D} {lo hi : Option Int} (a : Ats K G vs ds) : Ats K G (cutV vs lo hi) (cutD ds lo hi) := by
  unfold cutV cutD
  rw [a.length]
  exact (a.drop _).take _
theorem cutD_all {xs : List D} {lo hi : Option Int} (h : HT.sIx xs.length 0 lo = 0 ∧ HT.sIx xs.length xs.length hi = xs.length) : cutD xs lo hi = xs := by
  unfold cutD
  rw [h.1, h.2]
  simp
def slM (x : D) (lo hi : Option Int) : M D := optM (slD x lo hi)
def rSl (K : PySem.W.Frag) : V → Option Int → Option Int → Hp → VK → Prop := fun x lo hi H Q => rSlA K x lo hi H Q ∨ rSlL K x lo hi H Q ∨ rSlS x lo hi H Q
theorem sl_any : SlR X (rSl X.K) := SlR.or sl_tupA (SlR.or sl_list sl_str)
theorem slD_at {K : PySem.W.Frag} {B : Gd} {σ : L2.St} {ρ : En} {G H : Hp} {Q : VK} {v : V} {x : D} {lo hi : Option Int} (S : Stt K B ρ σ G H) (a : At K G v x) (q : PostE K B σ G W Q (slM x lo hi ρ)) : rSl K v lo hi H Q := by
  unfold slM at q
  cases a with
  | tup h t =>
    rename_i ad vs ds
    have hq := same_seqT S.sub h
    have q' : PostE K B σ G W Q (rt (.tup (cutD ds lo hi)) ρ) := q
    refine .inl ⟨ad, vs, rfl, hq, fun hw => ?_, fun _ p hp => PostE.tup S q' (cut_at t) hp⟩
    rw [cutD_all (by rw [← t.length]; exact hw)] at q'
    exact now S q' (.tup h t)
  | lst h t => exact .inr (.inl ⟨_, _, rfl, SqL.of (S.sub _ _ h), fun p hp => PostE.lst S (show PostE K B σ G W Q (rt (.lst (cutD _ lo hi)) ρ) from q) (cut_at t) hp⟩)
  | scr h t => exact .inr (.inl ⟨_, _, rfl, S.sub.seq h, fun p hp => PostE.lst S (show PostE K B σ G W Q (rt (.lst (cutD _ lo hi)) ρ) from q) (cut_at t) hp⟩)
  | str z =>
    have q' : PostE K B σ G W Q (optM (match szOk z.length with
      | true => some (D.str (cutS z lo hi))
      | false => none) ρ) := q
    cases ez : szOk z.length with
    | false => rw [ez] at q'; exact q'.elim
    | true =>
      rw [ez] at q'
      exact .inr (.inr ⟨z, rfl, szOk_le ez, now S q' (.str _)⟩)
  | _ => exact q.elim
def slF (f : M D) (l h : PMO) : M D := bd f fun x => bd l fun lo => bd h fun hi => slM x lo hi
theorem tP_bdE {K : PySem.W.Frag} {B : Gd} {σ : L2.St} {G H : Hp} {ρ : En} {f : PMO} {g : Option Int → M D} {Q' : VK} (S : Stt K B ρ σ G H) (h : PostE K B σ G W Q' (bd f g ρ)) {Q : Option Int → Hp → Prop}
    (q : ∀ G' H' x ρ', Same G G' → Stt K B ρ' σ G' H' → PostE K B σ G' W Q' (g x ρ') → Q x H') : tP K W f σ H Q := by
  refine ⟨B, ρ, G, S, ?_⟩
  unfold bd at h
  revert h
  cases f ρ with
  | ok x ρ' => exact fun h G' H' e S' => q G' H' x ρ' e S' (h.to e)
  | er x ρ' => exact fun h => h
  | stuck => exact fun h => h
theorem de_sl {lo hi : Option Expr} {fl fh : PMO} (he : DE X W e f) (hl : DP X W lo fl) (hh : DP X W hi fh) : DE X W (.Subscript e (.Slice lo hi none p2) pos) (slF f fl fh) :=
  PE.imp (pe_slice sl_any he hl hh) fun σ H Q ⟨B, ρ, G, S, q⟩ => tD_bdE S q fun v G1 H1 x ρ1 e1 S1 A1 q1 => tP_bdE S1 q1 fun G2 H2 lo ρ2 e2 S2 q2 => tP_bdE S2 q2 fun G3 H3 hi ρ3 e3 S3 q3 =>
    slD_at S3 ((A1.mono e2).mono e3) q3

/-! ### lists changed -/
/-- a step on the list at slot i -/
def chgM (i : Nat) (g : List D → Option (D × List D)) : M D := fun ρ => match getL ρ i with
  | some (.lst xs) => (match g xs with
    | some p => .ok p.1 (setL ρ i (.lst p.2))
    | none => .stuck)
  | _ => .stuck
def appG (y : D) (xs : List D) : Option (D × List D) := match Nat.blt xs.length 16777216 with
  | true => some (.non, xs ++ [y])
  | false => none
/-- the slot i holds a list that may be changed -/
def holdL {α : Type} (i : Nat) (f : M α) : M α := fun ρ => match getL ρ i with
  | some (.lst _) => f ρ
  | _ => .stuck
theorem PostE.holdL {K : PySem.W.Frag} {B : Gd} {ρ : En} {σ : L2.St} {G H : Hp} {Q : VK} {i : Nat} {f : M D} (S : Stt K B ρ σ G H) (q : PostE K B σ G W Q (holdL i f ρ)) : (∃ a vs, σ[i]? = some (some (.ref a)) ∧ H a = some (.lst vs)) ∧ PostE K B σ G W Q (f ρ) := by
  unfold DL.holdL at q
  cases eg : getL ρ i with
  | none => rw [eg] at q; exact q.elim
  | some t =>
    rw [eg] at q
    cases t with
    | ins c fs => exact q.elim
    | lst xs =>
      obtain ⟨a, o, h1, h2, _, h4, _⟩ := S.lent eg
      cases h4
      exact ⟨⟨a, _, h1, h2⟩, q⟩
def appM (i : Nat) (f : M D) : M D := holdL i (bd f fun y => chgM i (appG y))
theorem chg_at {K : PySem.W.Frag} {B : Gd} {σ : L2.St} {ρ : En} {G H : Hp} {Q : VK} {i : Nat} {g : List D → Option (D × List D)} {ad : Addr} (S : Stt K B ρ σ G H) (hs : σ[i]? = some (some (.ref ad))) (q : PostE K B σ G W Q (chgM i g ρ)) :
    ∃ (vs : List V) (xs ys : List D) (z : D), H ad = some (.lst vs) ∧ Ats K G vs xs ∧ g xs = some (z, ys) ∧ ∀ (v : V) (ws : List V), Ats K G ws ys → At K G v z → Q v (upd H ad (.lst ws)) := by
  unfold chgM at q
  cases eg : getL ρ i with
  | none => rw [eg] at q; exact q.elim
  | some t =>
    rw [eg] at q
    cases t with
    | ins c fs => exact q.elim
    | lst xs =>
      dsimp only at q
      cases e : g xs with
      | none => rw [e] at q; exact q.elim
      | some zy =>
        obtain ⟨z, ys⟩ := zy
        rw [e] at q
        obtain ⟨a', o, h1, h2, h3, h4, h5, _⟩ := S.lent eg
        rw [hs] at h1
        cases h1
        cases h4 with
        | lst l =>
          rename_i vs
          exact ⟨vs, xs, ys, z, h2, l, e, fun v ws aw av => q v G _ (Same.refl _) (h5 _ _ G _ (ExtB.upd (K := K) S.sub h3) upd_same (.lst aw)) av⟩
theorem de_append (i : Nat) (h : DE X W e f) (hN : X.N[i]? = some x := by rfl) (hv : Vis X.env.scope x := by first | exact Or.inl rfl | exact Or.inr (Or.inl rfl) | exact Or.inr (Or.inr rfl)) (hd : (x == ("__debug__" : Str)) = false := by decide) (hcd : (x == ("__classdict__" : Str)) = false := by decide)
    (hbase : attributeBase (.Name x p) "append" X.env (eval (.Name x p) X.env) = eval (.Name x p) X.env := by rfl)
    (hfew : ((backTo cpos (starEach [e] X.env)).all (fun x => !x.1) && (backToKw cpos (keywordEach [] X.env)).all (fun x => x.1.isSome)
      && decide (([e] : List Expr).length + ([] : List Keyword).length + (if ([] : List Keyword).isEmpty then 0 else 1) < 30)) = true := by rfl)
    (hline : (apos.endLine == cpos.line) = true := by rfl) (hs : starEach [e] X.env = (false, eval e X.env) :: starEach [] X.env := by rfl) (hplain : (backTo cpos (starEach [] X.env)).any (·.1) = false := by rfl) :
    DE X W (.Call (.Attribute (.Name x p) "append" apos) [e] [] cpos) (appM i f) :=
  PE.imp (pe_bm PySem.F.plainAttrs_list PySem.F.slot_list_append PySem.F.type_list_append mt_append (pe_var hN hv hd hcd) (pa_cons h pa_nil hs) hbase hfew hline hs hplain) fun σ H Q ⟨B, ρ, G, S, q⟩ => by
    unfold appM at q
    obtain ⟨⟨ad, ws, hs, h2⟩, q⟩ := PostE.holdL S q
    refine ⟨.ref ad, hs, .inl ⟨rfl, _, SqL.of h2⟩, tD_bdE S q fun v G1 H1 y ρ1 e1 S1 A1 q1 => ?_⟩
    obtain ⟨vs, xs, ys, z, k1, k2, k3, k4⟩ := chg_at S1 hs q1
    unfold appG at k3
    cases ec : Nat.blt xs.length 16777216 with
    | false => rw [ec] at k3; cases k3
    | true =>
      rw [ec] at k3
      cases k3
      exact ⟨ad, vs, v, rfl, rfl, k1, by rw [k2.length, sizeLine_eq]; exact Nat.le_of_ble_eq_true ec, k4 .non _ (k2.snoc A1) .non⟩
/-- name.pop() -/
def popG (xs : List D) : Option (D × List D) := match xs[xs.length - 1]? with
  | some y => some (y, xs.dropLast)
  | none => none
def popM (i : Nat) : M D := holdL i (chgM i popG)
theorem Ats.dropLast {K : PySem.W.Frag} {H : Hp} {vs : List V} {ds : List D} (h : Ats K H vs ds) : Ats K H vs.dropLast ds.dropLast := by
  rw [List.dropLast_eq_take, List.dropLast_eq_take, h.length]
  exact h.take _
theorem de_pop (i : Nat) (hN : X.N[i]? = some x := by rfl) (hv : Vis X.env.scope x := by first | exact Or.inl rfl | exact Or.inr (Or.inl rfl) | exact Or.inr (Or.inr rfl)) (hd : (x == ("__debug__" : Str)) = false := by decide) (hcd : (x == ("__classdict__" : Str)) = false := by decide)
    (hbase : attributeBase (.Name x p) "pop" X.env (eval (.Name x p) X.env) = eval (.Name x p) X.env := by rfl) (hline : (apos.endLine == cpos.line) = true := by rfl) : DE X W (.Call (.Attribute (.Name x p) "pop" apos) [] [] cpos) (popM i) :=
  PE.imp (pe_bm0 PySem.F.plainAttrs_list PySem.F.slot_list_pop PySem.F.type_list_pop mt_pop (pe_var hN hv hd hcd) hbase hline) fun σ H Q ⟨B, ρ, G, S, q⟩ => by
    unfold popM at q
    obtain ⟨⟨ad, ws, hs, h2⟩, q⟩ := PostE.holdL S q
    refine ⟨.ref ad, hs, .inl ⟨rfl, _, SqL.of h2⟩, ?_⟩
    obtain ⟨vs, xs, ys, z, k1, k2, k3, k4⟩ := chg_at S hs q
    unfold popG at k3
    cases ec : xs[xs.length - 1]? with
    | none => rw [ec] at k3; cases k3
    | some y =>
      rw [ec] at k3
      cases k3
      obtain ⟨v, h3, h4⟩ := k2.get ec
      exact ⟨ad, vs, v, rfl, rfl, k1, by rw [k2.length]; exact h3, k4 v _ k2.dropLast h4⟩
/-- name.extend(a list) -/
def extG (y : D) (xs : List D) : Option (D × List D) := match y with
  | .lst zs => (match szOk (xs.length + zs.length) with
    | true => some (.non, xs ++ zs)
    | false => none)
  | _ => none
def extM (i : Nat) (f : M D) : M D := holdL i (bd f fun y => chgM i (extG y))
theorem de_extend (i : Nat) (h : DE X W e f) (hN : X.N[i]? = some x := by rfl) (hv : Vis X.env.scope x := by first | exact Or.inl rfl | exact Or.inr (Or.inl rfl) | exact Or.inr (Or.inr rfl)) (hd : (x == ("__debug__" : Str)) = false := by decide) (hcd : (x == ("__classdict__" : Str)) = false := by decide)
    (hbase : attributeBase (.Name x p) "extend" X.env (eval (.Name x p) X.env) = eval (.Name x p) X.env := by rfl)
    (hfew : ((backTo cpos (starEach [e] X.env)).all (fun x => !x.1) && (backToKw cpos (keywordEach [] X.env)).all (fun x => x.1.isSome)
      && decide (([e] : List Expr).length + ([] : List Keyword).length + (if ([] : List Keyword).isEmpty then 0 else 1) < 30)) = true := by rfl)
    (hline : (apos.endLine == cpos.line) = true := by rfl) (hs : starEach [e] X.env = (false, eval e X.env) :: starEach [] X.env := by rfl) (hplain : (backTo cpos (starEach [] X.env)).any (·.1) = false := by rfl) :
    DE X W (.Call (.Attribute (.Name x p) "extend" apos) [e] [] cpos) (extM i f) :=
  PE.imp (pe_bm PySem.F.plainAttrs_list PySem.F.slot_list_extend PySem.F.type_list_extend mt_extend (pe_var hN hv hd hcd) (pa_cons h pa_nil hs) hbase hfew hline hs hplain) fun σ H Q ⟨B, ρ, G, S, q⟩ => by
    unfold extM at q
    obtain ⟨⟨ad, ws, hs, h2⟩, q⟩ := PostE.holdL S q
    refine ⟨.ref ad, hs, .inl ⟨rfl, _, SqL.of h2⟩, tD_bdE S q fun v G1 H1 y ρ1 e1 S1 A1 q1 => ?_⟩
    obtain ⟨vs, xs, ys, z, k1, k2, k3, k4⟩ := chg_at S1 hs q1
    cases A1 with
    | lst hb t =>
      rename_i bd zv zs
      have k3' : (match szOk (xs.length + zs.length) with
        | true => some (D.non, xs ++ zs)
        | false => none) = some (z, ys) := k3
      cases ec : szOk (xs.length + zs.length) with
      | false => rw [ec] at k3'; cases k3'
      | true =>
        rw [ec] at k3'
        cases k3'
        exact ⟨ad, bd, vs, zv, rfl, rfl, k1, S1.sub _ _ hb, by rw [k2.length, t.length]; exact szOk_le ec, k4 .non _ (k2.append t) .non⟩
    | _ => cases k3
/-- name[i] = value -/
def sixG (y z : D) (xs : List D) : Option (D × List D) := match y with
  | .int k => (match ixP xs.length k with
    | some j => some (.non, xs.set j z)
    | none => none)
  | _ => none
def sixS (i : Nat) (fv fi : M D) : FS := bdS (holdL i (bd fv fun z => bd fi fun y => chgM i (sixG y z))) fun _ => nxS
theorem ds_six (i : Nat) (hv : DE X W e f) (hi : DE X W b fb) (hN : X.N[i]? = some x := by rfl) (hvis : Vis X.env.scope x := by first | exact Or.inl rfl | exact Or.inr (Or.inl rfl) | exact Or.inr (Or.inr rfl)) (hd : (x == ("__debug__" : Str)) = false := by decide) (hcd : (x == ("__classdict__" : Str)) = false := by decide)
    (hs : swapsWithSole [.Subscript (.Name x p) b pos'] e pos.line X.env = pure false := by rfl) (hw : swappedStores [.Subscript (.Name x p) b pos'] e X.env = pure none := by rfl)
    (h1 : (assignEach [.Subscript (.Name x p) b pos'] X.env).map (·.2) = [assign (.Subscript (.Name x p) b pos') X.env] := by rfl)
    (ha : ∀ v, assign (.Subscript (.Name x p) b pos') X.env v = (do
      let ov ← holding [v] (eval (.Name x p) X.env)
      let iv ← holding [v, ov] (eval b X.env)
      standAt pos'
      holding [v, ov, iv] (setItem ov iv v)
      release [v, ov, iv] []) := by intro _; rfl) : DS X W (.Assign [.Subscript (.Name x p) b pos'] e pos) (sixS i f fb) :=
  PS.imp (ps_asg hv (pg_sub (pe_var hN hvis hd hcd) hi set_list ha) hs hw h1) fun D' σ H ⟨B, ρ, G, S, q⟩ => by
    have hE : PostE X.K B σ G W (fun _ H' => D'.nx σ H') (holdL i (bd f fun z => bd fb fun y => chgM i (sixG y z)) ρ) := by
      unfold sixS bdS at q
      revert q
      cases holdL i (bd f fun z => bd fb fun y => chgM i (sixG y z)) ρ with
      | ok x ρ1 => exact fun q v G' H' e S' a => q σ G' H' e S'
      | er x ρ1 => exact fun q c d G' H' e S' a => q c d σ G' H' e S' a
      | stuck => exact fun q => q
    obtain ⟨⟨ad, ws, hs, h2⟩, hE⟩ := PostE.holdL S hE
    refine tD_bdE S hE fun v G1 H1 z ρ1 e1 S1 A1 q1 => ⟨.ref ad, hs, tD_bdE S1 q1 fun w G2 H2 y ρ2 e2 S2 A2 q2 => ?_⟩
    obtain ⟨vs, xs, ys, z', k1, k2, k3, k4⟩ := chg_at S2 hs q2
    cases A2 with
    | int n =>
      have k3' : (match ixP xs.length n with
        | some j => some (D.non, xs.set j z)
        | none => none) = some (z', ys) := k3
      cases ec : ixP xs.length n with
      | none => rw [ec] at k3'; cases k3'
      | some j =>
        rw [ec] at k3'
        cases k3'
        exact ⟨ad, vs, n, j, rfl, rfl, k1, by rw [k2.length, ← ixP_eq]; exact ec, k4 .non _ (k2.set j (A1.mono e2)) .non⟩
    | _ => cases k3

/-! ### list(x), tuple(x), str(x) -/
def seqD : D → Option (List D)
  | .tup xs => some xs
  | .lst xs => some xs
  | .scr xs => some xs
  | _ => none
theorem seqD_at {K : PySem.W.Frag} {G H : Hp} {v : V} {x : D} {xs : List D} (s : Same G H) (a : At K G v x) (e : seqD x = some xs) : ∃ p vs, v = .ref p ∧ (SqL K H p vs ∨ SqT K H p vs) ∧ Ats K G vs xs := by
  cases a with
  | tup h t => cases e; exact ⟨_, _, rfl, .inr (same_seqT s h), t⟩
  | lst h t => cases e; exact ⟨_, _, rfl, .inl (SqL.of (s _ _ h)), t⟩
  | scr h t => cases e; exact ⟨_, _, rfl, .inl (s.seq h), t⟩
  | _ => cases e
def listO : List D → M (List D)
  | [x] => optM (seqD x)
  | _ => stk
def tupF : List D → M D
  | [.tup xs] => rt (.tup xs)
  | [.lst xs] => rt (.tup xs)
  | [.scr xs] => rt (.tup xs)
  | _ => stk
theorem do_list (hg : Gl X "list") (hm : X.mg "list" = none) (ha : DA X W [e] fs) (he : starEach [e] X.env = (false, eval e X.env) :: starEach [] X.env := by rfl) : DO X W (.Call (.Name "list" p) [e] [] pos) (bd fs listO) :=
  PE.imp (pe_callTy call_list_of hg hm boot_list ha (by decide) (by decide) he) fun σ H Q ⟨B, ρ, G, S, q⟩ => tA_bdO S q fun vs G1 H1 xs ρ1 e1 S1 A1 q1 => by
    unfold listO at q1
    split at q1
    · rename_i z
      cases A1 with
      | cons h t =>
        cases t
        cases es : seqD z with
        | none => rw [es] at q1; exact q1.elim
        | some ys =>
          rw [es] at q1
          obtain ⟨pp, ws, rfl, hq, t⟩ := seqD_at S1.sub h es
          exact ⟨pp, ws, rfl, hq, fun l hl => PostO.lst S1 q1 t hl⟩
    · exact q1.elim
theorem cd_tuple : CallD X W (.type "tuple") tupF := CallD.of call_tuple_of fun B ρ σ G H vs ds Q S a q => by
  unfold tupF at q
  split at q
  · cases a with
    | cons h t =>
      cases t
      cases h with
      | tup h t => exact ⟨_, _, rfl, .inr ⟨same_seqT S.sub h, now S q (.tup h t)⟩⟩
  · cases a with
    | cons h t =>
      cases t
      cases h with
      | lst h t => exact ⟨_, _, rfl, .inl ⟨SqL.of (S.sub _ _ h), fun l hl => PostE.tup S q t hl⟩⟩
  · cases a with
    | cons h t =>
      cases t
      cases h with
      | scr h t => exact ⟨_, _, rfl, .inl ⟨S.sub.seq h, fun l hl => PostE.tup S q t hl⟩⟩
  · exact q.elim
def strF (u : List D → M D) : List D → M D
  | [.int i] => chk (Nat.blt i.natAbs.log2 1920) (rt (.str (toString i)))
  | [.str x] => rt (.str x)
  | ds => u ds
def noF : List D → M D := fun _ => stk
theorem cd_no {f : Value} : CallD X W f noF := fun _ _ _ _ _ _ _ _ _ _ _ _ _ _ _ q => q.elim
theorem cd_str {u : List D → M D} (hu : CallD X W (.type "str") u) : CallD X W (.type "str") (strF u) := by
  intro pins s σ B ρ G H vs us ds Q I S rv av q
  unfold strF at q
  split at q
  · rename_i i
    obtain ⟨hc, q⟩ := PostE.chk q
    cases av.one_int
    exact call_str_int pins s σ H _ us Q I rv ⟨i, rfl, Nat.le_of_ble_eq_true hc, now S q (.str _)⟩
  · rename_i x
    cases av with
    | cons h t =>
      cases t
      cases h
      exact SkE.call_str_str pins s σ H _ us Q I rv ⟨x, rfl, now S q (.str _)⟩
  · exact hu pins s σ B ρ G H vs us ds Q I S rv av q
def mxF (b : Bool) : List D → M D
  | [.int i, .int j] => rt (.int (match xor b (decide (j > i)) with
    | true => j
    | false => i))
  | _ => stk
theorem cd_max (hc : X.calm = true) : CallD X W (.builtin "max") (mxF false) := CallD.of (call_max2 hc) fun B ρ σ G H vs ds Q S a q => by
  unfold mxF at q
  split at q
  · rename_i i j
    cases a.two_int
    refine ⟨i, j, rfl, ?_⟩
    have q' := now S q (.int _)
    by_cases h : j > i
    · rw [if_pos h]; simpa [h] using q'
    · rw [if_neg h]; simpa [h] using q'
  · exact q.elim
def mnF : List D → M D
  | [.int i, .int j] => rt (.int (match decide (j < i) with
    | true => j
    | false => i))
  | _ => stk
theorem cd_min (hc : X.calm = true) : CallD X W (.builtin "min") mnF := CallD.of (call_min2 hc) fun B ρ σ G H vs ds Q S a q => by
  unfold mnF at q
  split at q
  · rename_i i j
    cases a.two_int
    refine ⟨i, j, rfl, ?_⟩
    have q' := now S q (.int _)
    by_cases h : j < i
    · rw [if_pos h]; simpa [h] using q'
    · rw [if_neg h]; simpa [h] using q'
  · exact q.elim

/-! ### + of tuples, of lists; comparisons of texts; chains -/
def addT (u : OpF) : OpF
  | .tup xs, .tup ys => chk (szOk (xs.length + ys.length)) (rt (.tup (xs ++ ys)))
  | .lst xs, .lst ys => chk (szOk (xs.length + ys.length)) (rt (.lst (xs ++ ys)))
  | x, y => u x y
theorem opd_addT {u : OpF} (hu : OpD X W (binaryOp .Add) u) : OpD X W (binaryOp .Add) (addT u) := by
  intro pins s σ B ρ G H x y v w dx dy Q I S rx ry ax ay q
  unfold addT at q
  split at q
  · rename_i xs ys
    obtain ⟨hc, q⟩ := PostE.chk q
    cases ax with
    | tup h1 t1 =>
      cases ay with
      | tup h2 t2 =>
        rename_i a1 vs a2 ws
        refine op_catA pins s σ H _ _ v w Q I rx ry ⟨a1, a2, vs, ws, rfl, rfl, same_seqT S.sub h1, same_seqT S.sub h2, by rw [t1.length, t2.length]; exact szOk_le hc, fun e => ?_, fun e e2 => ?_, fun _ _ pp hp => PostE.tup S q (t1.append t2) hp⟩
        · subst e
          cases t1
          exact now S q (.tup h2 t2)
        · subst e2
          cases t2
          rw [List.append_nil] at q
          exact now S q (.tup h1 t1)
  · rename_i xs ys
    obtain ⟨hc, q⟩ := PostE.chk q
    cases ax with
    | lst h1 t1 =>
      cases ay with
      | lst h2 t2 =>
        rename_i a1 vs a2 ws
        exact op_cat pins s σ H _ _ v w Q I rx ry ⟨a1, a2, vs, ws, rfl, rfl, S.sub _ _ h1, S.sub _ _ h2, by rw [t1.length, t2.length]; exact szOk_le hc, fun pp hp => PostE.lst S q (t1.append t2) hp⟩
  · exact hu pins s σ B ρ G H x y v w dx dy Q I S rx ry ax ay q
def ltS (u : OpF) : OpF
  | .str x, .str y => rt (.bl (decide (x.cps.toList < y.cps.toList)))
  | x, y => u x y
def leS (u : OpF) : OpF
  | .str x, .str y => rt (.bl (!decide (y.cps.toList < x.cps.toList)))
  | x, y => u x y
theorem opd_ltS {u : OpF} (hu : OpD X W (compareOp .Lt) u) : OpD X W (compareOp .Lt) (ltS u) := by
  intro pins s σ B ρ G H x y v w dx dy Q I S rx ry ax ay q
  unfold ltS at q
  split at q
  · cases ax; cases ay
    exact op_lt_str pins s σ H _ _ v w Q I rx ry ⟨_, _, rfl, rfl, now S q (.bl _)⟩
  · exact hu pins s σ B ρ G H x y v w dx dy Q I S rx ry ax ay q
theorem opd_leS {u : OpF} (hu : OpD X W (compareOp .LtE) u) : OpD X W (compareOp .LtE) (leS u) := by
  intro pins s σ B ρ G H x y v w dx dy Q I S rx ry ax ay q
  unfold leS at q
  split at q
  · cases ax; cases ay
    exact op_le_str pins s σ H _ _ v w Q I rx ry ⟨_, _, rfl, rfl, now S q (.bl _)⟩
  · exact hu pins s σ B ρ G H x y v w dx dy Q I S rx ry ax ay q
/-- a op1 b op2 c -/
def chainM (fa fb fc : M D) (g h : OpF) : M D := bd fa fun x => bd fb fun y => bd (g x y) fun t => match t with
  | .bl true => bd fc fun z => h y z
  | .bl false => rt (.bl false)
  | _ => stk
/-- a step that changes nothing but the heap -/
theorem chain_run {op op' : CmpOp} {g h : OpF} (ho : OpD X W (compareOp op) g) (ho' : OpD X W (compareOp op') h) (ha : DE X W a fa) (hb : DE X W b fb) (hc : DE X W c fc) (hm : lastMarks [op, op'] [b, c] = false := by with_unfolding_all rfl) :
    DE X W (.Compare a [op, op'] [b, c] pos) (chainM fa fb fc g h) := by
  refine ⟨fun pins s σ H Q I q => ?_⟩
  obtain ⟨B, ρ, G, S, q⟩ := q
  unfold chainM at q
  let gg : D → D → M D := fun y t => match t with
    | .bl true => bd fc fun z => h y z
    | .bl false => rt (.bl false)
    | _ => stk
  refine Compare_chain (thn (ha.run pins s σ H (fun v H1 => ∃ G1 x ρ1, Stt X.K B ρ1 σ G1 H1 ∧ At X.K G1 v x ∧ PostE X.K B σ G1 W Q (bd fb (fun y => bd (g x y) (gg y)) ρ1)) I (tD_bdE S q fun v G1 H1 x ρ1 e1 S1 A1 q1 => ⟨G1, x, ρ1, S1, A1, q1⟩)) fun v s1 ⟨vx, H1, I1, r1, G1, x, ρ1, S1, A1, q1⟩ => chain_link ?_) hm
  refine thn (hb.run pins s1 σ H1 (fun v H2 => ∃ G2 y ρ2, Same G1 G2 ∧ Stt X.K B ρ2 σ G2 H2 ∧ At X.K G2 v y ∧ PostE X.K B σ G2 W Q (bd (g x y) (gg y) ρ2)) I1 (tD_bdE S1 q1 fun v G2 H2 y ρ2 e2 S2 A2 q2 => ⟨G2, y, ρ2, e2, S2, A2, q2⟩)) fun u s2 ⟨vy, H2, I2, r2, G2, y, ρ2, e2, S2, A2, q2⟩ => ?_
  have q2' : PostE X.K B σ G2 W (fun v H3 => ∃ G3 t ρ3, Same G2 G3 ∧ Stt X.K B ρ3 σ G3 H3 ∧ At X.K G3 v t ∧ PostE X.K B σ G3 W Q (gg y t ρ3)) (g x y ρ2) := by
    unfold bd at q2
    revert q2
    cases g x y ρ2 with
    | ok t ρ3 => exact fun q v G3 H3 e3 S3 A3 => ⟨G3, t, ρ3, e3, S3, A3, q.to e3⟩
    | er t ρ3 => exact fun q => q
    | stuck => exact fun q => q
  refine thn (ho pins s2 σ B ρ2 G2 H2 vx vy v u x y _ I2 S2 r1 r2 (A1.mono e2) A2 q2') fun d s3 ⟨vt, H3, I3, r3, G3, t, ρ3, e3, S3, A3, q3⟩ => ?_
  cases A3 with
  | bl kk =>
    cases r3
    refine wpAny_truthy_bool ?_
    cases kk with
    | false => exact ite_ff ⟨.bl false, H3, I3, rfl, now S3 q3 (.bl false)⟩
    | true =>
      refine ite_tt (chain_last ?_)
      refine thn (hc.run pins s3 σ H3 (fun v H4 => ∃ G4 z ρ4, Same G3 G4 ∧ Stt X.K B ρ4 σ G4 H4 ∧ At X.K G4 v z ∧ PostE X.K B σ G4 W Q (h y z ρ4)) I3 (tD_bdE S3 q3 fun v G4 H4 z ρ4 e4 S4 A4 q4 => ⟨G4, z, ρ4, e4, S4, A4, q4⟩)) fun w s4 ⟨vz, H4, I4, r4, G4, z, ρ4, e4, S4, A4, q4⟩ => ?_
      exact ho' pins s4 σ B ρ4 G4 H4 vy vz u w y z Q I4 S4 r2 r4 (A2.mono (e3.trans e4)) A4 q4
  | _ => exact q3.elim
/-- a chain as a test -/
theorem dt_chain {op op' : CmpOp} {g h : OpF} (ho : OpD X W (compareOp op) g) (ho' : OpD X W (compareOp op') h) (ha : DE X W a fa) (hb : DE X W b fb) (hc : DE X W c fc) (hm : lastMarks [op, op'] [b, c] = false := by with_unfolding_all rfl) :
    DT X W (.Compare a [op, op'] [b, c] pos) (bd (chainM fa fb fc g h) boolM) := by
  refine ⟨fun pins s σ H Q' I q => ?_⟩
  have q := tTest_of (X := X) (W := W) (fun _ _ _ q => q) σ H Q' q
  obtain ⟨B, ρ, G, S, q⟩ := q
  generalize hQ : (fun (x : V) (H' : Hp) => ∃ k, x = .bl k ∧ Q' k H') = Q at q
  unfold chainM at q
  let gg : D → D → M D := fun y t => match t with
    | .bl true => bd fc fun z => h y z
    | .bl false => rt (.bl false)
    | _ => stk
  refine isTrue_chain (thn (ha.run pins s σ H (fun v H1 => ∃ G1 x ρ1, Stt X.K B ρ1 σ G1 H1 ∧ At X.K G1 v x ∧ PostE X.K B σ G1 W Q (bd fb (fun y => bd (g x y) (gg y)) ρ1)) I (tD_bdE S q fun v G1 H1 x ρ1 e1 S1 A1 q1 => ⟨G1, x, ρ1, S1, A1, q1⟩)) fun v s1 ⟨vx, H1, I1, r1, G1, x, ρ1, S1, A1, q1⟩ => test_link ?_) hm
  refine thn (hb.run pins s1 σ H1 (fun v H2 => ∃ G2 y ρ2, Same G1 G2 ∧ Stt X.K B ρ2 σ G2 H2 ∧ At X.K G2 v y ∧ PostE X.K B σ G2 W Q (bd (g x y) (gg y) ρ2)) I1 (tD_bdE S1 q1 fun v G2 H2 y ρ2 e2 S2 A2 q2 => ⟨G2, y, ρ2, e2, S2, A2, q2⟩)) fun u s2 ⟨vy, H2, I2, r2, G2, y, ρ2, e2, S2, A2, q2⟩ => ?_
  have q2' : PostE X.K B σ G2 W (fun v H3 => ∃ G3 t ρ3, Same G2 G3 ∧ Stt X.K B ρ3 σ G3 H3 ∧ At X.K G3 v t ∧ PostE X.K B σ G3 W Q (gg y t ρ3)) (g x y ρ2) := by
    unfold bd at q2
    revert q2
    cases g x y ρ2 with
    | ok t ρ3 => exact fun q v G3 H3 e3 S3 A3 => ⟨G3, t, ρ3, e3, S3, A3, q.to e3⟩
    | er t ρ3 => exact fun q => q
    | stuck => exact fun q => q
  refine thn (ho pins s2 σ B ρ2 G2 H2 vx vy v u x y _ I2 S2 r1 r2 (A1.mono e2) A2 q2') fun d s3 ⟨vt, H3, I3, r3, G3, t, ρ3, e3, S3, A3, q3⟩ => ?_
  cases A3 with
  | bl kk =>
    cases r3
    refine wpAny_truthy_bool ?_
    cases kk with
    | false =>
      have z := now S3 q3 (.bl false)
      rw [← hQ] at z
      obtain ⟨k', e', q'⟩ := z
      cases e'
      exact ite_ff ⟨H3, I3, q'⟩
    | true =>
      refine ite_tt (test_last ?_)
      refine thn (hc.run pins s3 σ H3 (fun v H4 => ∃ G4 z ρ4, Same G3 G4 ∧ Stt X.K B ρ4 σ G4 H4 ∧ At X.K G4 v z ∧ PostE X.K B σ G4 W Q (h y z ρ4)) I3 (tD_bdE S3 q3 fun v G4 H4 z ρ4 e4 S4 A4 q4 => ⟨G4, z, ρ4, e4, S4, A4, q4⟩)) fun w s4 ⟨vz, H4, I4, r4, G4, z, ρ4, e4, S4, A4, q4⟩ => ?_
      refine thn (ho' pins s4 σ B ρ4 G4 H4 vy vz u w y z Q I4 S4 r2 r4 (A2.mono (e3.trans e4)) A4 q4) fun d' s5 ⟨v5, H5, I5, r5, q5⟩ => ?_
      rw [← hQ] at q5
      obtain ⟨k', e', q'⟩ := q5
      subst e'
      cases r5
      exact wpAny_truthy_bool ⟨H5, I5, q'⟩
  | _ => exact q3.elim
end
end DL


set_option Elab.async false
set_option linter.all false
set_option maxRecDepth 100000
set_option maxHeartbeats 4000000
/-! DL12: exceptions. -/
namespace DL
open PySem PySem.Spec PyProof.Rows L2

/-! ### raise -/
def raiseS (c : Str) : FS := fun ρ => .er ⟨c, []⟩ ρ
section
variable {X : Cx} {W : WX} {k : Nat} {x : Str} {e : Expr} {f : M D}
theorem raises_of {K : PySem.W.Frag} {c : Str} (h : (He.Fa.exc c).ok X.K = true) : Raises X (.ref (He.ga X.K c)) := let ⟨_, _, h3, h4⟩ := He.exc_ok h; raises_own h3 h4
theorem ds_raise {m : Str} {j : Nat} {p p2 pos pos2 : Pos} (b : Bd X W k) (hE : (He.Fa.exc x).ok X.K = true) (hg : Gl X x) (hm : X.mg x = some (.ref (He.ga X.K x))) (hdb : (x == ("__debug__" : Str)) = false := by decide) :
    DS X W (.Raise (some (.Call (.Name x p) [.Constant (.str m) j p2] [] pos)) none pos2) (raiseS x) :=
  PS.imp (ps_raise b.calm b.tk (pmk_own PySem.F.excBase_ValueError (He.exc_ok hE).1 hm (He.exc_ok hE).2.1 (raises_of (K := X.K) hE) hg hdb)) fun D' σ H ⟨B, ρ, G, S, q⟩ =>
    q _ none σ G H (Same.refl _) S ⟨rfl, .inl ⟨rfl, rfl⟩⟩

/-! ### an __init__ of the form: Base.__init__(self, ..); self.f = p -/
/-- the slot of Base.__init__: ValueError's -/
structure VOk (K : PySem.W.Frag) (c : Str) : Prop where
  ga : PySem.W.specialIn K (.ref (He.ga K c)) "__getattribute__" = some (some (.builtin "type.__getattribute__"))
  rd : PySem.W.readsIn K (He.ga K c) (.type "type") = true
  at_ : PySem.W.findCls K (.ref (He.ga K c)) (.type "type") "__init__" = some (.val (.builtin "ValueError.__init__"))
def vokB (K : PySem.W.Frag) (c : Str) : Bool := He.eqO (PySem.W.specialIn K (.ref (He.ga K c)) "__getattribute__") (some (some (.builtin "type.__getattribute__"))) && PySem.W.readsIn K (He.ga K c) (.type "type") && (match PySem.W.findCls K (.ref (He.ga K c)) (.type "type") "__init__" with
  | some (.val (.builtin n)) => decide (n = "ValueError.__init__")
  | _ => false)
theorem vokB_ok {K : PySem.W.Frag} {c : Str} (h : vokB K c = true) : VOk K c := by
  obtain ⟨h, h3⟩ := Bool.and_eq_true_iff.mp h
  obtain ⟨h1, h2⟩ := Bool.and_eq_true_iff.mp h
  refine ⟨He.eqO_ok h1, h2, ?_⟩
  split at h3
  · rename_i n e
    rw [e, of_decide_eq_true h3]
  · cases h3
theorem pe_baseinit {es : List Expr} {ta : TA} {p1 p2 pos : Pos} {pl : Sem Bool} (V : VOk X.K x) (hg : Gl X x) (hm : X.mg x = some (.ref (He.ga X.K x))) (ha : PA X (e :: es) ta) (hdb : (x == ("__debug__" : Str)) = false := by decide)
    (hc : eval (.Call (.Attribute (.Name x p1) "__init__" p2) (e :: es) [] pos) X.env = (do
      let ov ← eval (.Name x p1) X.env
      standAt p2.atName
      let (f, first) ← holding [ov] (getMethod ov "__init__" pl)
      callWith pos f first (backTo pos (starEach (e :: es) X.env)) (backToKw pos (keywordEach [] X.env))) := by rfl)
    (he : starEach (e :: es) X.env = (false, eval e X.env) :: starEach es X.env := by rfl) (hpl : (backTo pos (starEach es X.env)).any (·.1) = false := by rfl) :
    PE X (.Call (.Attribute (.Name x p1) "__init__" p2) (e :: es) [] pos) (tVeI X.K ta) := by
  refine ⟨fun pins s σ H Q I h => ?_⟩
  refine PySem.W.methodCall_KW (ld_glob I hg hm ?_ hdb) hc
  refine PySem.W.method_cls I.kIn V.ga (PySem.W.cls_value I.kIn V.rd V.at_ (by decide +kernel) ?_)
  show wpAny _ _ (callWith pos (Value.builtin "ValueError.__init__") [] (backTo pos (starEach (e :: es) X.env)) []) _ _ _
  refine PyProof.Rows.callWith_method1 (thn (ha.run pos pins _ σ H _ (I.tok _) h) fun us s1 ⟨vs, H1, I1, r1, a, C, ws, ev, hl, T, ea, q⟩ => ?_) he hpl
  subst ev
  cases r1 with
  | @cons _ u0 _ ur ra rest =>
    cases ra
    exact oinit_ok T I1 ea (by rw [← Paired.length rest, sizeLine_eq]; omega) fun s' J => ⟨.non, H1, J, rfl, q⟩
/-- what such an __init__ promises -/
def spX (K : PySem.W.Frag) (c f : Str) : Sp := fun vs H Q _ => ∃ (a : Addr) (y : V), vs = [.ref a, y] ∧ H a = some (exo a (He.ga K c) none) ∧
  ∀ dx, H dx = none → dx ≠ a → Q .non (upd (upd H dx (exd dx [(f, y)])) a (exo a (He.ga K c) (some dx)))
structure XOk (K : PySem.W.Frag) (c f : Str) : Prop where
  oex : OexC K (He.ga K c)
  no : PySem.W.findIn K (.ref (He.ga K c)) f = some none
  fi : PySem.W.findIn K (.ref (He.ga K c)) "__init__" = some (some (.ref (He.ma K (He.ga K c) "__init__")))
  ti : PySem.W.typeIn K (.ref (He.ma K (He.ga K c) "__init__")) = some (.type "function")
def xokB (K : PySem.W.Frag) (c f : Str) : Bool := (match K.lookup (He.ga K c) with
  | some ⟨.type t, dd, .cls cd, sl⟩ => (match cd.mro, sl.toList with
    | .ref C :: bm, [k0, k1, k2, k3, some (.builtin n), k5] => decide (t = "type") && decide (C = He.ga K c) && cd.hasDict && !cd.hasDel && decide (n = "ValueError.__new__") && PySem.HandSPX.refsVE bm
    | _, _ => false)
  | _ => false) && (He.eqO (PySem.W.findIn K (.ref (He.ga K c)) "__setattr__") (some (some (.builtin "object.__setattr__"))) && decide (PySem.W.subIn K (.ref (He.ga K c)) (.type "BaseException") = some true) && decide (PySem.W.typeIn K (.ref (He.ga K c)) = some (.type "type")) && PySem.W.keepIn K (.ref (He.ga K c)) &&
    He.eqO (PySem.W.findIn K (.ref (He.ga K c)) f) (some none) && He.eqO (PySem.W.findIn K (.ref (He.ga K c)) "__init__") (some (some (.ref (He.ma K (He.ga K c) "__init__")))) && decide (PySem.W.typeIn K (.ref (He.ma K (He.ga K c) "__init__")) = some (.type "function")))
theorem xokB_ok {K : PySem.W.Frag} {c f : Str} (h : xokB K c f = true) : XOk K c f := by
  obtain ⟨h0, h⟩ := Bool.and_eq_true_iff.mp h
  simp only [Bool.and_eq_true] at h
  obtain ⟨⟨⟨⟨⟨⟨h1, h2⟩, h3⟩, h4⟩, h5⟩, h6⟩, h7⟩ := h
  refine ⟨⟨?_, He.eqO_ok h1, of_decide_eq_true h2, of_decide_eq_true h3, h4⟩, He.eqO_ok h5, He.eqO_ok h6, of_decide_eq_true h7⟩
  split at h0
  · rename_i t dd cd sl e
    split at h0
    · rename_i C bm k0 k1 k2 k3 n k5 hm hs
      simp only [Bool.and_eq_true, decide_eq_true_eq, Bool.not_eq_true'] at h0
      obtain ⟨⟨⟨⟨⟨rfl, rfl⟩, hd⟩, hdel⟩, rfl⟩, hr⟩ := h0
      obtain ⟨nm, bs, mro, ns, qn, hdict, sn, sub, ab, col, del⟩ := cd
      dsimp only at hm hd hdel
      subst hm hd hdel
      have hsl : sl = #[k0, k1, k2, k3, some (.builtin "ValueError.__new__"), k5] := by
        obtain ⟨l⟩ := sl
        simp only at hs
        rw [hs]
      subst hsl
      exact ⟨nm, qn, ns, bs, bm, sn, sub, ab, col, dd, k0, k1, k2, k3, k5, e, hr⟩
    · cases h0
  · cases h0
end
section
variable {P : Program} {w : World} {K : PySem.W.Frag} {mg : Str → Option Value} {base : Heap} {x qual : Str} {params : Arguments} {body : List Stmt} {scope : Scope} {dvs : List V} {kws : List (Str × V)} {fa : Addr} {fd : FuncData} {N ps : List Str} {k : Nat} {c f : Str} {t2 : TE}
/-- t2: the second argument of Base.__init__ -/
theorem fnX_ok (F0 : FunD K x qual params body scope dvs kws fa fd) (S : FnScope N ps scope) (hps : ps.length = 2) (hN : N.length = 2) (X0 : XOk K c f) (ht : ∀ (y : V) (a : Addr) (H : Hp) (Q : VK), (∀ z, Q z H) → t2 [some (.ref a), some y] H Q)
    (hb : ∀ (cdv : Value) (A : Around) (outer : List Env) (s : Shared) (H : Hp) (E : XK), PSs (cxOf (L2.CX P w) P w K mg base N qual scope fa cdv A outer s H E) body (tSeq (tDrop (tVeI K (tCons (tVar 0) (tCons t2 tNil)))) (tOst K f (tVar 0) (tVar 1)))) :
    FnOk P w K mg base (L2.CX P w) (k + 1) fa fd ps (spX K c f) := by
  refine F0.ok S (fun vs H Q E h => ?_) fun cdv A outer s H vs Q E hr h => ⟨_, hb cdv A outer s H E, ?_⟩
  · obtain ⟨a, y, rfl, _⟩ := h
    exact hps.symm
  · obtain ⟨a, y, rfl, ha, hq⟩ := h
    have es : L2.start N [V.ref a, y] = [some (.ref a), some y] := by
      unfold L2.start
      rw [hN]
      rfl
    rw [es]
    refine ⟨.ref a, rfl, ht y a H _ fun z => ⟨a, _, [z], rfl, (show 1 ≤ 1000 by decide), X0.oex, ha, ?_⟩⟩
    exact ⟨y, rfl, .ref a, rfl, a, _, rfl, X0.oex, X0.no, .inl ⟨ha, fun dx h1 h2 => hq dx h1 h2⟩⟩
/-- a class whose instances are raised with a field -/
structure HasX (P : Program) (w : World) (K : PySem.W.Frag) (mg : Str → Option Value) (base : Heap) (k : Nat) (c f : Str) : Prop where
  x : XOk K c f
  fn : ∃ (fd : FuncData) (ps : List Str), FnOk P w K mg base (L2.CX P w) k (He.ma K (He.ga K c) "__init__") fd ps (spX K c f) ∧ Binds K fd ps []
end
section
variable {X : Cx} {W : WX} {j k : Nat} {x f : Str} {e : Expr} {es : List Expr} {fs : M (List D)}
/-- raise C(e) -/
def raiseX (c f : Str) (fs : M (List D)) : FS := bdS fs fun xs ρ => match xs with
  | [y] => .er ⟨c, [(f, y)]⟩ ρ
  | _ => .stuck
theorem ds_raiseX {p pos pos2 : Pos} (b : Bd X W k) (hX : HasX X.prog X.w X.K X.mg X.base j x f) (hj : j + 1 ≤ k) (hg : Gl X x) (hm : X.mg x = some (.ref (He.ga X.K x))) (ha : DA X W (e :: es) fs) (hdb : (x == ("__debug__" : Str)) = false := by decide)
    (he : starEach (e :: es) X.env = (false, eval e X.env) :: starEach es X.env := by rfl) (hpl : (backTo pos (starEach es X.env)).any (·.1) = false := by rfl) :
    DS X W (.Raise (some (.Call (.Name x p) (e :: es) [] pos)) none pos2) (raiseX x f fs) := by
  obtain ⟨fd, ps, F, hb⟩ := hX.fn
  refine PS.imp (ps_raise b.calm b.tk (pmk_oex hX.x.oex hX.x.fi hX.x.ti F (b.hr.mono hj) hb .nil (fun _ _ _ _ _ _ _ z => by
    obtain ⟨_, _, _, _, _, _, _, _, _, _, _, _, h⟩ := z
    exact h.elim) hg hm ha hdb he hpl)) fun D' σ H ⟨B, ρ, G, S, q⟩ => tA_bdS S q fun vs G1 H1 xs ρ1 e1 S1 A1 q1 => ?_
  cases A1 with
  | nil => exact q1.elim
  | cons h1 t =>
    cases t with
    | cons h2 t => exact q1.elim
    | nil =>
      rename_i y dy
      refine ⟨by show 1 ≤ 1000; decide, fun a hn => ⟨a, y, rfl, upd_same, fun dx hdx hne => ⟨rfl, dx, [(f, y)], by rw [upd_same], ?_, ?_, ?_⟩⟩⟩
      · rw [upd_ne hne, upd_same]
      · rw [upd_ne hne] at hdx
        exact hdx
      · have hd1 : H1 dx = none := by rw [upd_ne hne] at hdx; exact hdx
        have e0 : upd (del (upd (upd (upd H1 a (exo a (He.ga X.K x) none)) dx (exd dx [(f, y)])) a (exo a (He.ga X.K x) (some dx))) a) dx (.xd [(f, y)]) = upd H1 dx (.xd [(f, y)]) := by
          funext b
          by_cases z : b = dx
          · rw [z, upd_same, upd_same]
          · rw [upd_ne z, upd_ne z]
            by_cases z2 : b = a
            · rw [z2, del_same, hn]
            · rw [del_ne z2, upd_ne z2, upd_ne z, upd_ne z2]
        rw [e0]
        have ex := Ext.newH (o := .xd [(f, y)]) S1.sub hd1
        exact q1 _ (some dx) σ G1 _ ex.g (S1.ext ex) ⟨rfl, .inr ⟨dx, [(f, y)], rfl, upd_same, .cons h1 .nil⟩⟩

/-! ### try -/
/-- what the clauses wish, one after the other; a clause may name the exception at a slot -/
def wMix (K : PySem.W.Frag) (Wout : WX) (D : Ends) : List (Value × Option Nat × (Addr → Value → Option Addr → TS)) → WX
  | [] => Wout
  | (c, none, ts) :: r => fun cls d σ H => ∃ b, PySem.W.exmOne K cls c = some b ∧ (b = true → ∀ a, H a = none → ts a cls d D σ H) ∧ (b = false → wMix K Wout D r cls d σ H)
  | (c, some i, ts) :: r => fun cls d σ H => ∃ b, PySem.W.exmOne K cls c = some b ∧ (b = true → ∀ a, H a = none → ts a cls d { nx := fun σ' H' => D.nx (σ'.set i none) H', rt := D.rt, bk := fun σ' H' => D.bk (σ'.set i none) H', ct := fun σ' H' => D.ct (σ'.set i none) H' } (σ.set i (some (.ref a))) H) ∧
    (b = false → wMix K Wout D r cls d σ H)
inductive MixOk (X : Cx) : List ExceptHandler → List (Value × Option Nat × (Addr → Value → Option Addr → TS)) → Prop
  | nil : MixOk X [] []
  | un {x : Str} {c : Value} {ts : Addr → Value → Option Addr → TS} {b₀ : Stmt} {suite : List Stmt} {np pos' : Pos} {hds : List ExceptHandler} {l : List (Value × Option Nat × (Addr → Value → Option Addr → TS))} (hc : Names X x c)
      (hsu : ∀ (a : Addr) (oe : Obj) (cls : Value) (d : Option Addr) (pn : List (Addr × Obj)), Zc cls d oe → (∃ vs, oe.data = .fields vs) → PSs (X.suite a ((a, oe) :: pn)) (b₀ :: suite) (ts a cls d)) (r : MixOk X hds l) :
      MixOk X (.ExceptHandler (some (.Name x np)) none (b₀ :: suite) pos' :: hds) ((c, none, ts) :: l)
  | nm {x n : Str} {i : Nat} {c : Value} {ts : Addr → Value → Option Addr → TS} {b₀ : Stmt} {suite : List Stmt} {np pos' : Pos} {hds : List ExceptHandler} {l : List (Value × Option Nat × (Addr → Value → Option Addr → TS))} (hc : Names X x c)
      (hi : X.N[i]? = some n) (hln : X.env.kindOf n = some .local)
      (hsu : ∀ (a : Addr) (oe : Obj) (cls : Value) (d : Option Addr) (pn : List (Addr × Obj)), Zc cls d oe → (∃ vs, oe.data = .fields vs) → PSs (X.suite a ((a, oe) :: pn)) (b₀ :: suite) (ts a cls d)) (r : MixOk X hds l) :
      MixOk X (.ExceptHandler (some (.Name x np)) (some n) (b₀ :: suite) pos' :: hds) ((c, some i, ts) :: l)
theorem ps_try_mix {body : List Stmt} {h0 : ExceptHandler} {hds : List ExceptHandler} {l : List (Value × Option Nat × (Addr → Value → Option Addr → TS))} {pos : Pos} {tb : WX → TS} {Wout : WX} (hs : X.stack = X.env :: X.outer) (hf : X.env.frame = some X.env.locals) (hN : X.N.Nodup) (tk : Takes X Wout)
    (hb : ∀ (W : WX) (pn : List (Addr × Obj)) (xe : Value → Shared → Prop), Takes (X.tr pn xe) W → PassesOwn (model X.prog X.w) X.A X.env xe → PSs (X.tr pn xe) body (tb W))
    (hh : MixOk X (h0 :: hds) l) : PS X (.Try body (h0 :: hds) [] [] pos) (fun D σ H => tb (wMix X.K Wout D l) D σ H) := by
  refine ⟨fun pins s σ H D I hyp => ?_⟩
  have okX := I.ok
  have frX : X.A.frames = some (X.env :: X.outer) := by rw [okX.frames, hs]
  refine wpAny_Try_except (wpAny_mono ((hb (wMix X.K Wout D l) (X.pn ++ pins) (fun e t1 => wpAny (model X.prog X.w) X.A (noteFrame e X.env) (fun _ t2 => wpAny (model X.prog X.w) X.A (setFlight e none) (fun _ t3 =>
    wpAny (model X.prog X.w) X.A (handleBy e X.env (h0 :: hds)) (SP X pins D) X.xe t3) X.xe t2) X.xe t1) (fun u s' xx => ?_) PassesOwn.looking).run [] s σ H D (I.toTry _) hyp) (fun f t1 hsp => ?_) (fun e t1 he => he))
  · -- it is caught
    obtain ⟨ae, Bg, sI, pins', σ', H', cls, d, rfl, J0, nb, up, sky, na, hos, ag, w⟩ := xx
    have J : Inv X pins σ' H' sI := J0.ofTry okX
    have sky1 : Sky Bg (X.env :: X.outer) ae (Zc cls d) X.env.locals s'.heap := by rw [← hs]; exact sky
    show wpAny (model X.prog X.w) X.A (noteFrame (.ref ae) X.env) _ _ _
    refine Sky.land Zc.steady frX hf sky1 fun h3 fl3 up3 => ?_
    have J3 : Inv X pins σ' H' { s' with heap := h3 } := J.landed nb fl3.1 (up.trans up3) hos ag
    obtain ⟨oe3, vs3, he3, hz3, hd3⟩ := fl3.there
    have nfr : ae ∉ frs (X.env :: X.outer) := fun hm => by
      obtain ⟨_, o1, e1, hnf⟩ := fl3.2.2.1.mem hm
      rw [he3] at e1
      cases e1
      exact hnf _ hd3
    have nL : ae ≠ X.env.locals := fun z => nfr (List.mem_filterMap.mpr ⟨X.env, List.mem_cons_self, by rw [hf, z]⟩)
    have nF : ae ∉ X.fs := fun hm => by
      obtain ⟨e1, m1, q1⟩ := List.mem_filterMap.mp hm
      exact nfr (List.mem_filterMap.mpr ⟨e1, List.mem_cons_of_mem _ m1, q1⟩)
    have S3 := J3.suite he3 hd3 na nL nF
    have test : ∀ {x : Str} {c : Value} {np : Pos}, Names X x c → ∀ {Q : Value → Shared → Prop} {E : Value → Shared → Prop}, Q c { s' with heap := h3 } → wpAny (model X.prog X.w) (X.A.mark (some (.ref ae))) (eval (.Name x np) X.env) Q E { s' with heap := h3 } := fun {x c np} hc {Q E} q => by
      obtain ⟨hg, hdbg, hm | ⟨hm, hv, hnn⟩⟩ := hc
      · exact ld_glob (X := X.suite ae ((ae, oe3) :: (X.pn ++ pins))) S3 hg hm q hdbg
      · exact ld_blt (X := X.suite ae ((ae, oe3) :: (X.pn ++ pins))) S3 hg hm hv q hnn hdbg
    have LT : PySem.W.Looks (model X.prog X.w) h3 (typeOf (.ref ae)) cls := fun A Q E t1 k q => wpAny_typeOf_ref (k _ _ he3) (by rw [hz3.1]; exact q)
    have go : ∀ {hds' : List ExceptHandler} {l' : List (Value × Option Nat × (Addr → Value → Option Addr → TS))}, MixOk X hds' l' → wMix X.K Wout D l' cls d σ' H' →
        wpAny (model X.prog X.w) X.A (handleBy (.ref ae) X.env hds') (SP X pins D) X.xe { s' with heap := h3 } := by
      intro hds' l' hk
      induction hk with
      | nil =>
        intro w
        refine wpAny_handleBy_nil ?_
        obtain ⟨k1, k2, k3, oe, vs, T, oT, ts', he, hz, hd, h1, hr⟩ := id fl3
        unfold PySem.passOn
        refine wpAny_bind (wpAny_field he hd h1 ?_)
        rw [if_neg (show ¬ ((Value.ref T == Value.none) = true) from by simp)]
        have fin : wpAny (model X.prog X.w) X.A (setFlight (.ref ae) X.env.frame) (fun _ t4 => wpAny (model X.prog X.w) X.A (throw (.ref ae) : Sem Flow) (SP X pins D) X.xe t4) X.xe { s' with heap := h3 } := by
          rw [hf]
          refine HandSPX.setFlight_upZ fl3 fun h4 hh4 up4 => wpAny_throw (tk _ _ ?_)
          exact ⟨ae, Bg, sI, pins, σ', H', cls, d, rfl, J, nb, (up.trans up3).trans up4, .inr (.inr (by rw [hs]; exact hh4)), na, hos, ag, w⟩
        first
          | exact wpAny_bind (wpAny_pure (wpAny_bind fin))
          | exact wpAny_bind fin
      | @un x c ts b₀ suite np pos' hds2 l2 hc hsu r ih =>
        intro w
        obtain ⟨b, hb1, hyes, hno⟩ := w
        refine wpAny_handleBy_cons (codeAny_handlers_test ?_) (by intro q; cases q)
        refine test hc ((PySem.W.exm_one (M := model X.prog X.w) (J3.kIn) LT hb1).here ?_)
        cases b with
        | false => exact ih (hno rfl)
        | true =>
          refine codeAny_handlers_suite ?_
          refine HandSPX.lands_againZ fl3 fun h4 fl4 up4 => ?_
          have J4 : Inv X pins σ' H' { s' with heap := h4 } := J.landed nb fl4.1 ((up.trans up3).trans up4) hos ag
          obtain ⟨oe4, vs4, he4, hz4, hd4⟩ := fl4.there
          refine wpAny_mono ((hsu ae oe4 cls d (X.pn ++ pins) hz4 ⟨_, hd4⟩).run [] _ _ H' _ (J4.suite he4 hd4 na nL nF) (hyes rfl ae na)) (fun f t6 hsp => ?_) (fun _ _ z => False.elim z)
          cases f with
          | next => obtain ⟨σ6, H6, S6, q6⟩ := hsp; exact ⟨_, _, S6.unsuite okX, q6⟩
          | brk => obtain ⟨σ6, H6, S6, q6⟩ := hsp; exact ⟨_, _, S6.unsuite okX, q6⟩
          | cont => obtain ⟨σ6, H6, S6, q6⟩ := hsp; exact ⟨_, _, S6.unsuite okX, q6⟩
          | ret u => obtain ⟨v6, σ6, H6, S6, r6, q6⟩ := hsp; exact ⟨_, _, _, S6.unsuite okX, r6, q6⟩
      | @nm x n i c ts b₀ suite np pos' hds2 l2 hc hi hln hsu r ih =>
        intro w
        obtain ⟨b, hb1, hyes, hno⟩ := w
        refine wpAny_handleBy_cons (codeAny_handlers_test ?_) (by intro q; cases q)
        refine test hc ((PySem.W.exm_one (M := model X.prog X.w) (J3.kIn) LT hb1).here ?_)
        cases b with
        | false => exact ih (hno rfl)
        | true =>
          refine codeAny_handlers_suite_as ?_
          refine HandSPX.lands_againZ fl3 fun h4 fl4 up4 => ?_
          have J4 : Inv X pins σ' H' { s' with heap := h4 } := J.landed nb fl4.1 ((up.trans up3).trans up4) hos ag
          obtain ⟨oe4, vs4, he4, hz4, hd4⟩ := fl4.there
          have hloc : Loc X.env.scope n := .inl hln
          refine store_ok (X := X.suite ae ((ae, oe4) :: (X.pn ++ pins))) (v := .ref ae) (J4.suite he4 hd4 na nL nF) hN hi hloc rfl (fun t5 S5 => ?_) (.inr hln)
          refine wpAny_mono ((hsu ae oe4 cls d (X.pn ++ pins) hz4 ⟨_, hd4⟩).run [] t5 _ H' _ S5 (hyes rfl ae na)) (fun f t6 hsp => ?_) (fun _ _ z => False.elim z)
          have end_ : ∀ {σ6 : L2.St} {H6 : Hp} {Q : Shared → Prop}, Inv (X.suite ae ((ae, oe4) :: (X.pn ++ pins))) [] σ6 H6 t6 → (∀ t7, Inv X pins (σ6.set i none) H6 t7 → Q t7) →
              wpAny (model X.prog X.w) X.A (do bindName X.env n .none; unbindBehindTheSuite X.env n pos') (fun _ t7 => Q t7) X.xe t6 := fun {σ6 H6 Q} S6 hq => gone_ok (S6.unsuite okX) hN hi hln hq
          cases f with
          | next => obtain ⟨σ6, H6, S6, q6⟩ := hsp; exact end_ S6 fun t7 J7 => ⟨_, _, J7, q6⟩
          | brk => obtain ⟨σ6, H6, S6, q6⟩ := hsp; exact end_ S6 fun t7 J7 => ⟨_, _, J7, q6⟩
          | cont => obtain ⟨σ6, H6, S6, q6⟩ := hsp; exact end_ S6 fun t7 J7 => ⟨_, _, J7, q6⟩
          | ret u => obtain ⟨v6, σ6, H6, S6, r6, q6⟩ := hsp; exact end_ S6 fun t7 J7 => ⟨_, _, _, J7, r6, q6⟩
    exact go hh w
  · cases f with
    | next => obtain ⟨σ1, H1, J1, q1⟩ := hsp; exact wpAny_execs_nil ⟨σ1, H1, J1.ofTry okX, q1⟩
    | brk => obtain ⟨σ1, H1, J1, q1⟩ := hsp; exact ⟨σ1, H1, J1.ofTry okX, q1⟩
    | cont => obtain ⟨σ1, H1, J1, q1⟩ := hsp; exact ⟨σ1, H1, J1.ofTry okX, q1⟩
    | ret u => obtain ⟨v, σ1, H1, J1, r1, q1⟩ := hsp; exact ⟨v, σ1, H1, J1.ofTry okX, r1, q1⟩

/-! ### try over data -/
/-- which classes catch which: by a table -/
abbrev ST := List (Str × Str × Bool)
def subT (T : ST) (a b : Str) : Option Bool := match T with
  | [] => none
  | (x, y, r) :: l => match (x == a) && (y == b) with
    | true => some r
    | false => subT l a b
def SOk (K : PySem.W.Frag) (T : ST) : Prop := ∀ p ∈ T, PySem.W.exmOne K (.ref (He.ga K p.1)) (.ref (He.ga K p.2.1)) = some p.2.2
theorem subT_ok {K : PySem.W.Frag} : ∀ {T : ST} {a b : Str} {r : Bool}, SOk K T → subT T a b = some r → PySem.W.exmOne K (.ref (He.ga K a)) (.ref (He.ga K b)) = some r
  | [], _, _, _, _, h => by cases h
  | (x, y, r0) :: l, a, b, r, H, h => by
    unfold subT at h
    cases e : (x == a) && (y == b) with
    | true =>
      rw [e] at h
      cases h
      obtain ⟨e1, e2⟩ := Bool.and_eq_true_iff.mp e
      rw [← eq_of_beq e1, ← eq_of_beq e2]
      exact H (x, y, r0) List.mem_cons_self
    | false =>
      rw [e] at h
      exact subT_ok (fun p hp => H p (List.mem_cons_of_mem _ hp)) h
def sokB (K : PySem.W.Frag) (T : ST) : Bool := T.all fun p => decide (PySem.W.exmOne K (.ref (He.ga K p.1)) (.ref (He.ga K p.2.1)) = some p.2.2)
theorem sokB_ok {K : PySem.W.Frag} {T : ST} (h : sokB K T = true) : SOk K T := fun p hp => of_decide_eq_true (List.all_eq_true.mp h p hp)
/-- a clause: its class, its slot, what its suite does of the exception -/
structure Hd where
  c : Str
  i : Option Nat
  F : Ex → FS
/-- a suite's end: nothing is raised, the name goes -/
def endX (o : Option Nat) : Out → Out
  | .er _ _ => .stuck
  | .nx ρ => .nx (match o with
    | some i => ρ.set i none
    | none => ρ)
  | .bk ρ => .bk (match o with
    | some i => ρ.set i none
    | none => ρ)
  | .ct ρ => .ct (match o with
    | some i => ρ.set i none
    | none => ρ)
  | r => r
def runX (h : Hd) (x : Ex) : FS := fun ρ => match h.i with
  | none => endX none (h.F x ρ)
  | some i => (match Nat.blt i ρ.length with
    | true => endX (some i) (h.F x (ρ.set i none))
    | false => .stuck)
def catchS (T : ST) : List Hd → Ex → FS
  | [], x => fun ρ => .er x ρ
  | h :: r, x => match subT T x.c h.c with
    | some true => runX h x
    | some false => catchS T r x
    | none => fun _ => .stuck
def tryS (T : ST) (F : FS) (hs : List Hd) : FS := fun ρ => match F ρ with
  | .er x ρ1 => catchS T hs x ρ1
  | o => o
/-- what a suite's reading is to be: at a caught exception -/
def SuOk (X : Cx) (h : Hd) (suite : List Stmt) : Prop := ∃ ts : Addr → Value → Option Addr → TS,
  (∀ (a : Addr) (oe : Obj) (cls : Value) (d : Option Addr) (pn : List (Addr × Obj)), Zc cls d oe → (∃ vs, oe.data = .fields vs) → PSs (X.suite a ((a, oe) :: pn)) suite (ts a cls d)) ∧
  ∀ (x : Ex) (B : Gd) (ρ : En) (σ : L2.St) (G H : Hp) (W : WX) (D' : Ends) (a : Addr) (cls : Value) (d : Option Addr), Stt X.K B ρ σ G H → ExAt X.K G H cls d x → H a = none → (∀ i, h.i = some i → σ[i]? = some (some (.ref a))) →
    PostS X.K B G WF D' (h.F x ρ) → ts a cls d D' σ H
/-- a suite that does not look at the exception -/
theorem su_plain {c : Str} {i : Option Nat} {F : FS} {suite : List Stmt} (h : ∀ (a : Addr) (oe : Obj) (pn : List (Addr × Obj)), DSs (X.suite a ((a, oe) :: pn)) WF suite F) : SuOk X ⟨c, i, fun _ => F⟩ suite :=
  ⟨fun _ _ _ => tS X.K WF F, fun a oe cls d pn _ _ => h a oe pn, fun x B ρ σ G H W D' a cls d S _ _ _ q => ⟨B, ρ, G, S, q⟩⟩
theorem Stt.forget {K : PySem.W.Frag} {B : Gd} {ρ : En} {σ : L2.St} {G H : Hp} (S : Stt K B ρ σ G H) (i : Nat) (z : Option V) : Stt K B (ρ.set i none) (σ.set i z) G H := by
  have nd : ∀ {j : Nat} {c : Cl}, (ρ.set i none)[j]? = some (some c) → ρ[j]? = some (some c) ∧ (σ.set i z)[j]? = σ[j]? := fun {j c} h => by
    rcases set_get h with ⟨_, e⟩ | ⟨h1, h2⟩
    · cases e
    · exact ⟨h2, List.getElem?_set_ne h1⟩
  refine ⟨S.sub, S.gg, S.hh, S.nw, S.nb, by rw [List.length_set, List.length_set]; exact S.len, fun j x hj => ?_, fun j t hj => ?_, fun j t hj => ?_, fun j l s t b hj hl h1 h2 => ?_, fun j l s t hj hl => ?_⟩
  · obtain ⟨h1, h2⟩ := nd hj
    rw [h2]
    exact S.dd j x h1
  · obtain ⟨h1, h2⟩ := nd hj
    rw [h2]
    exact S.oo j t h1
  · obtain ⟨h1, h2⟩ := nd hj
    rw [h2]
    exact S.bb j t h1
  · obtain ⟨j1, j2⟩ := nd hj
    obtain ⟨l1, l2⟩ := nd hl
    rw [j2] at h1
    rw [l2] at h2
    exact S.sp j l s t b j1 l1 h1 h2
  · exact S.s1 j l s t (nd hj).1 (nd hl).1
theorem Stt.unset {K : PySem.W.Frag} {B : Gd} {ρ : En} {σ : L2.St} {G H : Hp} {i : Nat} (S : Stt K B ρ σ G H) : Stt K B (ρ.set i none) (σ.set i none) G H := S.forget i none
/-- .. `return (tag, error.f)` -/
structure FxOk (K : PySem.W.Frag) (f : Str) (T : CT) : Prop where
  ok : ∀ c, T c = true → XfC K (He.ga K c) ∧ PySem.W.findIn K (.ref (He.ga K c)) f = some none
theorem fxok0 {K : PySem.W.Frag} {f : Str} : FxOk K f ct0 := ⟨fun _ h => nomatch h⟩
def fxB (K : PySem.W.Frag) (c f : Str) : Bool := xfB K (He.ga K c) && He.eqO (PySem.W.findIn K (.ref (He.ga K c)) f) (some none)
theorem fxok1 {K : PySem.W.Frag} {f c : Str} {T : CT} (h1 : fxB K c f = true) (h : FxOk K f T) : FxOk K f (ct1 c T) := ⟨fun x hx => by
  rcases Bool.or_eq_true_iff.mp hx with e | e
  · rw [eq_of_beq e]
    obtain ⟨k1, k2⟩ := Bool.and_eq_true_iff.mp h1
    exact ⟨xfB_ok k1, He.eqO_ok k2⟩
  · exact h.ok x e⟩
def fldX (T : CT) (f : Str) (x : Ex) : Option D := match T x.c with
  | true => x.fs.lookup f
  | false => none
def retX (tag : Str) (T : CT) (f : Str) (x : Ex) : FS := fun ρ => match fldX T f x with
  | some v => .rt (.tup [.str tag, v]) ρ
  | none => .stuck
theorem su_named {c : Str} {i : Nat} {n tag f : Str} {T : CT} {k1 j1 : Nat} {p1 p2 p3 p4 p5 : Pos} (F : FxOk X.K f T) (hN : X.N[i]? = some n := by rfl) (hv : Vis X.env.scope n := by first | exact Or.inl rfl | exact Or.inr (Or.inl rfl) | exact Or.inr (Or.inr rfl)) (hd : (n == ("__debug__" : Str)) = false := by decide) (hcd : (n == ("__classdict__" : Str)) = false := by decide)
    (hb : attributeBase (.Name n p3) f X.env (eval (.Name n p3) X.env) = eval (.Name n p3) X.env := by rfl)
    (hs1 : starEach [.Constant (.str tag) j1 p1, .Attribute (.Name n p3) f p4] X.env = (false, eval (.Constant (.str tag) j1 p1) X.env) :: starEach [.Attribute (.Name n p3) f p4] X.env := by rfl)
    (hs2 : starEach [.Attribute (.Name n p3) f p4] X.env = (false, eval (.Attribute (.Name n p3) f p4) X.env) :: starEach [] X.env := by rfl) :
    SuOk X ⟨c, some i, retX tag T f⟩ [.Return (some (.Tuple [.Constant (.str tag) j1 p1, .Attribute (.Name n p3) f p4] k1 p5)) p2] := by
  refine ⟨fun a cls d => fun D σ H => ∃ c0, T c0 = true ∧ tRet (tTup (tCons (tC (.str tag)) (tCons (tXf a cls d (He.ga X.K c0) f (tVar i)) tNil))) D σ H, fun a oe cls d pn hz hf => ⟨fun pins s σ H D I h => ?_⟩, fun x B ρ σ G H W D' a cls d S ex na hi q => ?_⟩
  · obtain ⟨c0, hT, h⟩ := h
    obtain ⟨h1, h2⟩ := F.ok c0 hT
    exact (pss_one (ps_ret (pe_tup (pa_cons pe_str (pa_cons (pe_xf h1 h2 hz hf (pe_var hN hv hd hcd) hb) pa_nil hs2) hs1)))).run pins s σ H D I h
  · have q' : PostS X.K B G WF D' (match fldX T f x with
      | some v => .rt (.tup [.str tag, v]) ρ
      | none => .stuck) := q
    cases e : fldX T f x with
    | none => rw [e] at q'; exact q'.elim
    | some y =>
      rw [e] at q'
      unfold fldX at e
      cases eT : T x.c with
      | false => rw [eT] at e; cases e
      | true =>
        rw [eT] at e
        obtain ⟨ec, hx⟩ := ex
        rcases hx with ⟨e0, _⟩ | ⟨dd, fs, ed, hdd, af⟩
        · rw [e0] at e; cases e
        · obtain ⟨v, l, av⟩ := af.look e
          refine ⟨x.c, eT, .ref a, hi i rfl, rfl, ec, dd, fs, v, ed, hdd, l, by show 2 ≤ sizeLine; decide, fun p hp => ?_⟩
          have e2 : L2.Same G (upd G p (.tup [.str tag, v])) ∧ _ := ⟨(Ext.new (o := .tup [.str tag, v]) S.sub hp).g, trivial⟩
          have S2 := S.ext (Ext.new (o := .tup [.str tag, v]) S.sub hp)
          exact q' _ σ _ _ e2.1 S2 (.tup (SqT.of upd_same) (.cons (.str tag) (.cons (av.mono e2.1) .nil)))
theorem endX_n {K : PySem.W.Frag} {B : Gd} {G : Hp} {W : WX} {D' : Ends} {o : Out} (q : PostS K B G W D' (endX none o)) : PostS K B G WF D' o := by
  cases o with
  | er x ρ => exact q.elim
  | nx ρ => exact q
  | bk ρ => exact q
  | ct ρ => exact q
  | rt x ρ => exact q
  | ro x ρ => exact q
  | stuck => exact q
theorem endX_s {K : PySem.W.Frag} {B : Gd} {G : Hp} {W : WX} {D' : Ends} {o : Out} {i : Nat} (q : PostS K B G W D' (endX (some i) o)) :
    PostS K B G WF { nx := fun σ' H' => D'.nx (σ'.set i none) H', rt := D'.rt, bk := fun σ' H' => D'.bk (σ'.set i none) H', ct := fun σ' H' => D'.ct (σ'.set i none) H' } o := by
  cases o with
  | er x ρ => exact q.elim
  | nx ρ => exact fun σ' G' H' e S => q _ G' H' e S.unset
  | bk ρ => exact fun σ' G' H' e S => q _ G' H' e S.unset
  | ct ρ => exact fun σ' G' H' e S => q _ G' H' e S.unset
  | rt x ρ => exact q
  | ro x ρ => exact q
  | stuck => exact q
/-- the clauses over data -/
inductive HdsD (X : Cx) : List ExceptHandler → List Hd → Prop
  | nil : HdsD X [] []
  | un {x : Str} {F : Ex → FS} {b0 : Stmt} {suite : List Stmt} {np pos' : Pos} {hds : List ExceptHandler} {l : List Hd} (hc : Names X x (.ref (He.ga X.K x))) (hsu : SuOk X ⟨x, none, F⟩ (b0 :: suite)) (r : HdsD X hds l) :
      HdsD X (.ExceptHandler (some (.Name x np)) none (b0 :: suite) pos' :: hds) (⟨x, none, F⟩ :: l)
  | nm {x n : Str} {i : Nat} {F : Ex → FS} {b0 : Stmt} {suite : List Stmt} {np pos' : Pos} {hds : List ExceptHandler} {l : List Hd} (hc : Names X x (.ref (He.ga X.K x))) (hi : X.N[i]? = some n) (hln : X.env.kindOf n = some .local) (hsu : SuOk X ⟨x, some i, F⟩ (b0 :: suite)) (r : HdsD X hds l) :
      HdsD X (.ExceptHandler (some (.Name x np)) (some n) (b0 :: suite) pos' :: hds) (⟨x, some i, F⟩ :: l)
theorem mix_of {T : ST} (hT : SOk X.K T) {hds : List ExceptHandler} {l : List Hd} (h : HdsD X hds l) : ∃ L, MixOk X hds L ∧ ∀ (x : Ex) (B : Gd) (ρ : En) (σ : L2.St) (G H : Hp) (D' : Ends) (cls : Value) (d : Option Addr), Stt X.K B ρ σ G H → ExAt X.K G H cls d x →
    PostS X.K B G W D' (catchS T l x ρ) → wMix X.K W D' L cls d σ H := by
  induction h with
  | nil => exact ⟨[], .nil, fun x B ρ σ G H D' cls d S ex q => q cls d σ G H (Same.refl _) S ex⟩
  | @un x F b0 suite np pos' hds l hc hsu r ih =>
    obtain ⟨ts, h1, h2⟩ := hsu
    obtain ⟨L, m, ih⟩ := ih
    refine ⟨(_, none, ts) :: L, .un hc h1 m, fun y B ρ σ G H D' cls d S ex q => ?_⟩
    have q' : PostS X.K B G W D' ((match subT T y.c x with
      | some true => runX ⟨x, none, F⟩ y
      | some false => catchS T l y
      | none => fun _ => .stuck) ρ) := q
    cases e : subT T y.c x with
    | none => rw [e] at q'; exact q'.elim
    | some b =>
      rw [e] at q'
      refine ⟨b, by rw [ex.1]; exact subT_ok hT e, fun hb a na => ?_, fun hb => ?_⟩
      · subst hb
        exact h2 y B ρ σ G H W D' a cls d S ex na (fun i z => nomatch z) (endX_n q')
      · subst hb
        exact ih y B ρ σ G H D' cls d S ex q'
  | @nm x n i F b0 suite np pos' hds l hc hi hln hsu r ih =>
    obtain ⟨ts, h1, h2⟩ := hsu
    obtain ⟨L, m, ih⟩ := ih
    refine ⟨(_, some i, ts) :: L, .nm hc hi hln h1 m, fun y B ρ σ G H D' cls d S ex q => ?_⟩
    have q' : PostS X.K B G W D' ((match subT T y.c x with
      | some true => runX ⟨x, some i, F⟩ y
      | some false => catchS T l y
      | none => fun _ => .stuck) ρ) := q
    cases e : subT T y.c x with
    | none => rw [e] at q'; exact q'.elim
    | some b =>
      rw [e] at q'
      refine ⟨b, by rw [ex.1]; exact subT_ok hT e, fun hb a na => ?_, fun hb => ?_⟩
      · subst hb
        have q2 : PostS X.K B G W D' (match Nat.blt i ρ.length with
          | true => endX (some i) (F y (ρ.set i none))
          | false => .stuck) := q'
        cases el : Nat.blt i ρ.length with
        | false => rw [el] at q2; exact q2.elim
        | true =>
          rw [el] at q2
          have hl : i < σ.length := by rw [S.len]; exact Nat.le_of_ble_eq_true el
          exact h2 y B (ρ.set i none) (σ.set i (some (.ref a))) G H W _ a cls d (S.forget i _) ex na (fun j z => by cases z; exact List.getElem?_set_self hl) (endX_s q2)
      · subst hb
        exact ih y B ρ σ G H D' cls d S ex q'
theorem Bd.tr (b : Bd X W k) {pn : List (Addr × Obj)} {xe : Value → Shared → Prop} {W' : WX} (t : Takes (X.tr pn xe) W') : Bd (X.tr pn xe) W' k := ⟨t, b.hr, b.calm⟩
theorem ds_try {T : ST} {body : List Stmt} {h0 : ExceptHandler} {hds : List ExceptHandler} {l : List Hd} {F : FS} {pos : Pos} (hT : SOk X.K T) (b : Bd X W k) (hN : X.N.Nodup)
    (hb : ∀ (W' : WX) (pn : List (Addr × Obj)) (xe : Value → Shared → Prop), Bd (X.tr pn xe) W' k → PassesOwn (model X.prog X.w) X.A X.env xe → DSs (X.tr pn xe) W' body F)
    (hh : HdsD X (h0 :: hds) l) (hs : X.stack = X.env :: X.outer := by rfl) (hf : X.env.frame = some X.env.locals := by rfl) : DS X W (.Try body (h0 :: hds) [] [] pos) (tryS T F l) := by
  obtain ⟨L, m, cat⟩ := mix_of (W := W) hT hh
  refine PS.imp (ps_try_mix (tb := fun W' => tS X.K W' F) hs hf hN b.tk (fun W' pn xe t po => hb W' pn xe (b.tr t) po) m) fun D' σ H ⟨B, ρ, G, S, q⟩ => ⟨B, ρ, G, S, ?_⟩
  unfold tryS at q
  revert q
  cases F ρ with
  | er x ρ1 => exact fun q cls d σ' G' H' e S' ex => cat x B ρ1 σ' G' H' D' cls d S' ex (PostS.to e q)
  | nx ρ1 => exact fun q => q
  | bk ρ1 => exact fun q => q
  | ct ρ1 => exact fun q => q
  | rt x ρ1 => exact fun q => q
  | ro x ρ1 => exact fun q => q
  | stuck => exact fun q => q
end
end DL


set_option Elab.async false
set_option linter.all false
set_option maxRecDepth 100000
set_option maxHeartbeats 4000000
/-! DL13: str of one's own, methods of texts, f-strings, calls of held defs. -/
namespace DL
open PySem PySem.Spec PyProof.Rows L2

/-! ### str(x), x of one's own class -/
theorem str_meets {prog : Program} {w : World} {v : Value} : MeetsIn prog w (Builtin.«str.__new__» ⟨[.type "str", v], []⟩) (fun A R s => wpAny (model prog w) A.in1 (Builtin.Str.strOf v) (fun r s' => R (.ok (.ret r)) s') (fun e s' => R (.error e) s') s) := fun A R s h => by
  rw [str_new_tree v]
  refine wpAny_bind (wpAny_pure (wpAny_bind (wpAny_of_eq isSubtype_str_str ?_)))
  exact wpAny_bind (wpAny_mono h (fun r s' h' => wpAny_pure h') fun _ _ e => e)
theorem str_K {prog : Program} {w : World} {A : Around} {E : Value → Shared → Prop} {s : Shared} {K : PySem.W.Frag} {x C f : Addr} {ox : Obj} {od : Option Obj} {Q : Value → Shared → Prop} (hu : A.units + 3 < cLine) (Y : K.In s.heap) (J : PySem.W.InstAt s.heap x ox C od)
    (hs : PySem.W.findIn K (.ref C) "__str__" = some (some (.ref f))) (hf : PySem.W.isFn K (.ref f) = true) (h : wpAny (model prog w) A.in1.in1 (call (.ref f) [.ref x]) (fun v s' => ∃ z t, v = .str z t ∧ Q (.str z t) s') E s) :
    wpAny (model prog w) A (call (.type "str") [.ref x]) Q E s := by
  refine callType_newIn F.called_str (by decide) (F.typeCall_str_1 _) (F.newCall_str_1 _) (fun obj => F.args_object_init_2 obj _) F.entry_str_new str_meets ?_
  unfold Builtin.Str.strOf
  show wpAny _ _ (do
    cRoomFor "str" [Value.ref x]
    let some r ← callSpecial? (.ref x) "__str__" | unsupported "internal:no-__str__"
    if (← PySem.asStr? r).isNone then
      rule "str-of.not-a-str"; raiseError "TypeError" s!"__str__ returned non-string (type {← typeNameOf r})"
    pure r) _ _ s
  refine wpAny_bind (wpAny_cRoomFor (show A.units + 1 + 1 < cLine by omega) ?_)
  refine wpAny_bind (PySem.W.special_fn Y J hs (beq_iff_eq.mp hf) (wpAny_mono h (fun v s' z => ?_) fun _ _ z => z))
  obtain ⟨z, t, rfl, q⟩ := z
  exact wpAny_bind (wpAny_pure (wpAny_pure ⟨typeIs_str _ _ _, q⟩))
section
variable {X : Cx} {W : WX} {a b c e o : Expr} {es : List Expr} {fa fb fc f : M D} {fo fs : M (List D)} {pos p p2 apos cpos : Pos} {x : Str} {j k : Nat} {T : MT}
def strO (T : MT) (u : List D → M D) : List D → M D
  | [x] => (match mlook "__str__" T x with
    | some p => bd (callM p.1 p.2 [x]) fun z => match z with
      | .str y => rt (.str y)
      | _ => stk
    | none => u [x])
  | ds => u ds
theorem strO_of {K : PySem.W.Frag} {B : Gd} {σ : L2.St} {G : Hp} {ρ : En} {Q : VK} {f : M D} (q : PostE K B σ G W Q (bd f (fun z => match z with
      | .str y => rt (.str y)
      | _ => stk) ρ)) : PostE K B σ G W (fun v H' => ∃ y, v = .str y ∧ Q (.str y) H') (f ρ) := by
  unfold bd at q
  revert q
  cases f ρ with
  | ok x ρ' =>
    intro q v G' H' e S a
    cases a with
    | str y => exact ⟨y, rfl, q (.str y) G' H' e S (.str _)⟩
    | _ => exact q.elim
  | er x ρ' => exact fun q => q
  | stuck => exact fun q => q
theorem cd_strO {u : List D → M D} (hT : MOk X.prog X.w X.K X.mg X.base j "__str__" T) (b : Bd X W k) (hj : j + 2 ≤ k) (hu : CallD X W (.type "str") u) : CallD X W (.type "str") (strO T u) := by
  intro pins s σ B ρ G H vs us ds Q I S rv av q
  unfold strO at q
  split at q
  · rename_i x
    cases em : mlook "__str__" T x with
    | none => rw [em] at q; exact hu pins s σ B ρ G H vs us [x] Q I S rv av q
    | some mp =>
      obtain ⟨m, dvs⟩ := mp
      rw [em] at q
      cases av with
      | cons ax t =>
        cases t
        obtain ⟨u1, rfl, ru⟩ := vals1 rv
        obtain ⟨c, a, dx, vs, rfl, ha2, hl, hTc⟩ := mlook_at S.sub ax em
        obtain ⟨hC, hM, hF⟩ := hT.ok c m dvs hTc
        cases ru
        obtain ⟨mA, J, _⟩ := ins_get I.hok ha2
        obtain ⟨od, J, _⟩ := J.look
        refine str_K (by have := b.hr.units; omega) I.kIn J hM.at_ hM.fn ?_
        refine wpAny_mono (run_hasA (us := [.ref a]) (vs := [.ref a]) hF b.tk ((b.hr.mono hj).in1.in1) rfl I S (.cons rfl .nil) (.cons ax .nil) (strO_of q)) (fun v s' z => ?_) fun _ _ z => z
        obtain ⟨z, H', I', r, y, rfl, q'⟩ := z
        obtain ⟨t, rfl⟩ := r
        exact ⟨y, t, rfl, .str y, H', I', ⟨t, rfl⟩, q'⟩
  · exact hu pins s σ B ρ G H vs us ds Q I S rv av q

/-! ### methods of texts -/
/-- x.name(y): two texts in, a value out -/
def tx1 (g : Str → Str → Option D) (fs : M (List D)) (x : D) : M D := match x with
  | .str a => bd fs fun ds => match ds with
    | [.str b] => optM (g a b)
    | _ => stk
  | _ => stk
theorem tx_imp {K : PySem.W.Frag} {r : V → List V → Hp → VK → Prop} {g : Str → Str → Option D}
    (h : ∀ {B : Gd} {ρ : En} {σ : L2.St} {G H : Hp} {a b : Str} {z : D} {Q : VK}, Stt K B ρ σ G H → g a b = some z → PostE K B σ G W Q (rt z ρ) → r (.str a) [.str b] H Q) :
    ∀ σ H Q, tD K W (bd f (tx1 g fs)) σ H Q → tBM K "str" r (tD K W f) (tA K W fs) σ H Q := fun σ H Q ⟨B, ρ, G, S, q⟩ =>
  tD_bdE S q fun v G1 H1 x ρ1 e1 S1 A1 q1 => by
    cases A1 with
    | str a =>
      refine ⟨rfl, tA_bdE S1 q1 fun vs G2 H2 xs ρ2 e2 S2 A2 q2 => ?_⟩
      cases A2 with
      | nil => exact q2.elim
      | cons h1 t =>
        cases t with
        | cons h2 t => cases h1 <;> exact q2.elim
        | nil =>
          cases h1 with
          | str b =>
            have q3 : PostE K B σ G2 W Q (optM (g a b) ρ2) := q2
            cases eg : g a b with
            | none => rw [eg] at q3; exact q3.elim
            | some z => rw [eg] at q3; exact h S2 eg q3
          | _ => exact q2.elim
    | _ => exact q1.elim
/-- what every such call asks of the text -/
abbrev Few (X : Cx) (es : List Expr) (cpos : Pos) : Prop := ((backTo cpos (starEach es X.env)).all (fun x => !x.1) && (backToKw cpos (keywordEach [] X.env)).all (fun x => x.1.isSome)
      && decide (es.length + ([] : List Keyword).length + (if ([] : List Keyword).isEmpty then 0 else 1) < 30)) = true
def gSw (a b : Str) : Option D := some (.bl (Txt.startswith a b))
theorem de_startswith (ho : DE X W o f) (ha : DA X W [e] fs) (hbase : attributeBase o "startswith" X.env (eval o X.env) = eval o X.env := by rfl) (hfew : Few X [e] cpos := by rfl) (hline : (apos.endLine == cpos.line) = true := by rfl) (hs : starEach [e] X.env = (false, eval e X.env) :: starEach [] X.env := by rfl) (hplain : (backTo cpos (starEach [] X.env)).any (·.1) = false := by rfl) :
    DE X W (.Call (.Attribute o "startswith" apos) [e] [] cpos) (bd f (tx1 gSw fs)) :=
  PE.imp (pe_bm PySem.F.plainAttrs_str PySem.F.slot_str_startswith PySem.F.type_str_startswith mt_startswith ho ha hbase hfew hline hs hplain) (tx_imp fun S e q => by cases e; exact ⟨_, _, rfl, rfl, now S q (.bl _)⟩)
def gRp (a b : Str) : Option D := match szOk a.length with
  | true => some (.str (Txt.removeprefix a b))
  | false => none
theorem de_removeprefix (ho : DE X W o f) (ha : DA X W [e] fs) (hbase : attributeBase o "removeprefix" X.env (eval o X.env) = eval o X.env := by rfl) (hfew : Few X [e] cpos := by rfl) (hline : (apos.endLine == cpos.line) = true := by rfl) (hs : starEach [e] X.env = (false, eval e X.env) :: starEach [] X.env := by rfl) (hplain : (backTo cpos (starEach [] X.env)).any (·.1) = false := by rfl) :
    DE X W (.Call (.Attribute o "removeprefix" apos) [e] [] cpos) (bd f (tx1 gRp fs)) :=
  PE.imp (pe_bm PySem.F.plainAttrs_str PySem.F.slot_str_removeprefix PySem.F.type_str_removeprefix mt_removeprefix ho ha hbase hfew hline hs hplain) (tx_imp fun {B ρ σ G H a b z Q} S e q => by
    unfold gRp at e
    cases ec : szOk a.length with
    | false => rw [ec] at e; cases e
    | true => rw [ec] at e; cases e; exact ⟨_, _, rfl, rfl, szOk_le ec, now S q (.str _)⟩)
def gPt (a b : Str) : Option D := match szOk a.length && !(b.length == 0) with
  | true => some (.tup [.str (Txt.partition a b).1, .str (Txt.partition a b).2.1, .str (Txt.partition a b).2.2])
  | false => none
theorem de_partition (ho : DE X W o f) (ha : DA X W [e] fs) (hbase : attributeBase o "partition" X.env (eval o X.env) = eval o X.env := by rfl) (hfew : Few X [e] cpos := by rfl) (hline : (apos.endLine == cpos.line) = true := by rfl) (hs : starEach [e] X.env = (false, eval e X.env) :: starEach [] X.env := by rfl) (hplain : (backTo cpos (starEach [] X.env)).any (·.1) = false := by rfl) :
    DE X W (.Call (.Attribute o "partition" apos) [e] [] cpos) (bd f (tx1 gPt fs)) :=
  PE.imp (pe_bm PySem.F.plainAttrs_str PySem.F.slot_str_partition PySem.F.type_str_partition mt_partition ho ha hbase hfew hline hs hplain) (tx_imp fun {B ρ σ G H a b z Q} S e q => by
    unfold gPt at e
    cases ec : szOk a.length && !(b.length == 0) with
    | false => rw [ec] at e; cases e
    | true =>
      rw [ec] at e
      cases e
      obtain ⟨k1, k2⟩ := Bool.and_eq_true_iff.mp ec
      exact ⟨_, _, rfl, rfl, by simpa using k2, szOk_le k1, fun pp hp => PostE.tup S q (.cons (.str _) (.cons (.str _) (.cons (.str _) .nil))) hp⟩)
theorem Ats.strs {K : PySem.W.Frag} {G : Hp} : ∀ l : List Str, Ats K G (l.map V.str) (l.map D.str)
  | [] => .nil
  | x :: l => .cons (.str x) (Ats.strs l)
def gSp (a b : Str) : Option D := match szOk (a.length + 2) && !(b.length == 0) with
  | true => some (.lst ((Txt.split a b).map D.str))
  | false => none
theorem de_split (ho : DE X W o f) (ha : DA X W [e] fs) (hbase : attributeBase o "split" X.env (eval o X.env) = eval o X.env := by rfl) (hfew : Few X [e] cpos := by rfl) (hline : (apos.endLine == cpos.line) = true := by rfl) (hs : starEach [e] X.env = (false, eval e X.env) :: starEach [] X.env := by rfl) (hplain : (backTo cpos (starEach [] X.env)).any (·.1) = false := by rfl) :
    DE X W (.Call (.Attribute o "split" apos) [e] [] cpos) (bd f (tx1 gSp fs)) :=
  PE.imp (pe_bm PySem.F.plainAttrs_str PySem.F.slot_str_split PySem.F.type_str_split mt_split ho ha hbase hfew hline hs hplain) (tx_imp fun {B ρ σ G H a b z Q} S e q => by
    unfold gSp at e
    cases ec : szOk (a.length + 2) && !(b.length == 0) with
    | false => rw [ec] at e; cases e
    | true =>
      rw [ec] at e
      cases e
      obtain ⟨k1, k2⟩ := Bool.and_eq_true_iff.mp ec
      exact ⟨_, _, rfl, rfl, by simpa using k2, szOk_le k1, fun pp hp => PostE.lst S q (Ats.strs _) hp⟩)
/-- the texts of a list, a tuple -/
def strsD : List D → Option (List Str)
  | [] => some []
  | .str x :: r => (match strsD r with
    | some l => some (x :: l)
    | none => none)
  | _ => none
theorem strs_at {K : PySem.W.Frag} {G : Hp} : ∀ {vs : List V} {ds : List D} {l : List Str}, Ats K G vs ds → strsD ds = some l → vs = l.map V.str
  | _, _, _, .nil, e => by cases e; rfl
  | _, _, _, .cons (d := d) (ds := ds) h t, e => by
    cases d with
    | str x =>
      have e' : (match strsD ds with
        | some l => some (x :: l)
        | none => none) = some _ := e
      cases e2 : strsD ds with
      | none => rw [e2] at e'; cases e'
      | some l =>
        rw [e2] at e'
        cases e'
        cases h
        rw [strs_at t e2]
        rfl
    | _ => cases e
def joinO (a : Str) (y : D) : Option D := match seqD y with
  | some ds => (match strsD ds with
    | some l => (match Nat.ble ((l.map (·.length)).sum + l.length * a.length) 16777216 with
      | true => some (.str (Txt.join a l))
      | false => none)
    | none => none)
  | none => none
def joinM (fs : M (List D)) (x : D) : M D := match x with
  | .str a => bd fs fun ds => match ds with
    | [y] => optM (joinO a y)
    | _ => stk
  | _ => stk
theorem de_join (ho : DE X W o f) (ha : DA X W [e] fs) (hbase : attributeBase o "join" X.env (eval o X.env) = eval o X.env := by rfl) (hfew : Few X [e] cpos := by rfl) (hline : (apos.endLine == cpos.line) = true := by rfl) (hs : starEach [e] X.env = (false, eval e X.env) :: starEach [] X.env := by rfl) (hplain : (backTo cpos (starEach [] X.env)).any (·.1) = false := by rfl) :
    DE X W (.Call (.Attribute o "join" apos) [e] [] cpos) (bd f (joinM fs)) :=
  PE.imp (pe_bm PySem.F.plainAttrs_str PySem.F.slot_str_join PySem.F.type_str_join mt_join ho ha hbase hfew hline hs hplain) fun σ H Q ⟨B, ρ, G, S, q⟩ => tD_bdE S q fun v G1 H1 x ρ1 e1 S1 A1 q1 => by
    cases A1 with
    | str a =>
      refine ⟨rfl, tA_bdE S1 q1 fun vs G2 H2 xs ρ2 e2 S2 A2 q2 => ?_⟩
      cases A2 with
      | nil => exact q2.elim
      | cons h1 t =>
        cases t with
        | cons h2 t => exact q2.elim
        | nil =>
          rename_i v y
          have q3 : PostE X.K B σ G2 W Q (optM (joinO a y) ρ2) := q2
          cases eg : joinO a y with
          | none => rw [eg] at q3; exact q3.elim
          | some z =>
            rw [eg] at q3
            unfold joinO at eg
            cases es : seqD y with
            | none => rw [es] at eg; cases eg
            | some ds =>
              rw [es] at eg
              dsimp only at eg
              cases el : strsD ds with
              | none => rw [el] at eg; cases eg
              | some l =>
                rw [el] at eg
                dsimp only at eg
                cases en : Nat.ble ((l.map (·.length)).sum + l.length * a.length) 16777216 with
                | false => rw [en] at eg; cases eg
                | true =>
                  rw [en] at eg
                  cases eg
                  obtain ⟨pp, ws, rfl, hq, t⟩ := seqD_at S2.sub h1 es
                  rw [strs_at t el] at hq
                  exact ⟨a, pp, l, rfl, rfl, hq, Nat.le_of_ble_eq_true en, now S2 q3 (.str _)⟩
    | _ => exact q1.elim

/-! ### f-strings -/
def fmtD : D → M D
  | .str y => chk (szOk y.length) (rt (.str y))
  | .int i => chk (Nat.blt i.natAbs.log2 1920) (rt (.str (toString i)))
  | _ => stk
theorem de_fmt (h : DE X W e f) : DE X W (.FormattedValue e (-1) none pos) (bd f fmtD) := PE.imp (pe_fmt h) fun σ H Q ⟨B, ρ, G, S, q⟩ => tD_bdE S q fun v G1 H1 x ρ1 e1 S1 A1 q1 => by
  cases A1 with
  | str y =>
    obtain ⟨hc, q1⟩ := PostE.chk q1
    exact .inl ⟨y, rfl, szOk_le hc, now S1 q1 (.str _)⟩
  | int i =>
    obtain ⟨hc, q1⟩ := PostE.chk q1
    exact .inr ⟨i, rfl, Nat.le_of_ble_eq_true hc, now S1 q1 (.str _)⟩
  | _ => exact q1.elim
inductive DJ (X : Cx) (W : WX) : List Expr → List (M D) → Prop where
  | nil : DJ X W [] []
  | cons {e : Expr} {f : M D} {es : List Expr} {fs : List (M D)} (h : DE X W e f) (r : DJ X W es fs) : DJ X W (e :: es) (f :: fs)
def jsM : List (M D) → Str → M D
  | [], acc => rt (.str acc)
  | f :: fs, acc => bd f fun x => match x with
    | .str y => chk (szOk (acc ++ y).length) (jsM fs (acc ++ y))
    | _ => stk
theorem dj_pj {es : List Expr} {fs : List (M D)} (h : DJ X W es fs) : PJ X es (fs.map (tD X.K W)) := by
  induction h with
  | nil => exact .nil
  | cons h r ih => exact .cons h ih
theorem js_of {K : PySem.W.Frag} : ∀ (fs : List (M D)) (acc : Str) (σ : L2.St) (H : Hp) (Q : VK), tD K W (jsM fs acc) σ H Q → tJs (fs.map (tD K W)) acc σ H fun out H1 => Q (.str out) H1
  | [], acc, σ, H, Q, ⟨B, ρ, G, S, q⟩ => now S q (.str _)
  | f :: fs, acc, σ, H, Q, ⟨B, ρ, G, S, q⟩ => tD_bdE S q fun v G1 H1 x ρ1 e1 S1 A1 q1 => by
    cases A1 with
    | str y =>
      obtain ⟨hc, q1⟩ := PostE.chk q1
      exact ⟨y, rfl, szOk_le hc, js_of fs (acc ++ y) σ H1 Q ⟨B, ρ1, G1, S1, q1⟩⟩
    | _ => exact q1.elim
theorem de_joined {v1 v2 : Expr} {rest : List Expr} {fs : List (M D)} (h : DJ X W (v1 :: v2 :: rest) fs) : DE X W (.JoinedStr (v1 :: v2 :: rest) pos) (jsM fs Str.empty) := PE.imp (pe_joined (dj_pj h)) fun σ H Q q => js_of fs Str.empty σ H Q q
theorem de_joined1 (h : DE X W e f) : DE X W (.JoinedStr [e] pos) f := pe_joined1 h

/-! ### a local name that holds a def -/
structure GOk (P : Program) (w : World) (K : PySem.W.Frag) (mg : Str → Option Value) (base : Heap) (k : Nat) (T : MT) : Prop where
  ok : ∀ c m dvs, T c = some (m, dvs) → HasF P w K mg base k (He.ga K c) dvs m
theorem gok0 {P : Program} {w : World} {K : PySem.W.Frag} {mg : Str → Option Value} {base : Heap} : GOk P w K mg base k mt0 := ⟨fun _ _ _ h => nomatch h⟩
theorem gok1 {P : Program} {w : World} {K : PySem.W.Frag} {mg : Str → Option Value} {base : Heap} {c : Str} {m : Fm} {dvs : List D} (h3 : HasF P w K mg base j (He.ga K c) dvs m) (hj : j ≤ k) (hT : GOk P w K mg base k T) : GOk P w K mg base k (mt1 c m dvs T) := ⟨fun c' m' dvs' h => by
  unfold mt1 at h
  cases e : c' == c with
  | true => rw [e] at h; cases h; rw [eq_of_beq e]; exact h3.mono hj
  | false => rw [e] at h; exact hT.ok c' m' dvs' h⟩
def heldM (T : MT) (i : Nat) (fs : M (List D)) : M D := fun ρ => match ρ[i]? with
  | some (some (.d (.glo g))) => (match T g with
    | some p => bd fs (callM p.1 p.2) ρ
    | none => .stuck)
  | _ => .stuck
theorem held_at {K : PySem.W.Frag} {B : Gd} {ρ : En} {σ : L2.St} {G H : Hp} {Q : VK} {i : Nat} (S : Stt K B ρ σ G H) (q : PostE K B σ G W Q (heldM T i fs ρ)) :
    ∃ g m dvs, σ[i]? = some (some (.ref (He.ga K g))) ∧ T g = some (m, dvs) ∧ PostE K B σ G W Q (bd fs (callM m dvs) ρ) := by
  unfold heldM at q
  split at q
  · rename_i g hi
    obtain ⟨v, h1, h2⟩ := S.dd i _ hi
    cases h2
    cases eT : T g with
    | none => rw [eT] at q; exact q.elim
    | some p =>
      obtain ⟨m, dvs⟩ := p
      rw [eT] at q
      exact ⟨g, m, dvs, h1, eT, q⟩
  · exact q.elim
theorem de_held (i : Nat) (hT : GOk X.prog X.w X.K X.mg X.base j T) (b : Bd X W k) (hj : j ≤ k) (ha : DA X W (e :: es) fs) (hN : X.N[i]? = some x := by rfl) (hv : Vis X.env.scope x := by first | exact Or.inl rfl | exact Or.inr (Or.inl rfl) | exact Or.inr (Or.inr rfl)) (hd : (x == ("__debug__" : Str)) = false := by decide) (hcd : (x == ("__classdict__" : Str)) = false := by decide)
    (he : starEach (e :: es) X.env = (false, eval e X.env) :: starEach es X.env := by rfl) (hpl : (backTo pos (starEach es X.env)).any (·.1) = false := by rfl) : DE X W (.Call (.Name x p) (e :: es) [] pos) (heldM T i fs) := by
  refine ⟨fun pins s σ H Q I q => ?_⟩
  obtain ⟨B, ρ, G, S, q⟩ := q
  obtain ⟨g, m, dvs, hs, hTg, q⟩ := held_at S q
  have hF := hT.ok g m dvs hTg
  have kp : PySem.W.keepIn X.K (.ref (He.ga X.K g)) = true := let ⟨_, _, _, _, _, h, _⟩ := hF.ex; h
  refine wpAny_Call_Name_kw (thn ((pe_var (pos := p) hN hv hd hcd).run pins s σ H (fun v H1 => v = .ref (He.ga X.K g) ∧ H1 = H) I ⟨_, hs, rfl, rfl⟩) fun u s1 ⟨v, H1, I1, r1, q1⟩ => ?_)
  obtain ⟨rfl, rfl⟩ := q1
  cases r1
  refine PySem.W.callWith_K (h₀ := X.base) I.ok.mod.kin kp (thn (ha.run pos pins s1 σ _ _ I1 (tA_bdE S q (Q := fun vs H1 => ∃ G1 xs ρ1, Stt X.K B ρ1 σ G1 H1 ∧ Ats X.K G1 vs xs ∧ PostE X.K B σ G1 W Q (callM m dvs xs ρ1)) fun vs G1 H1 xs ρ1 e1 S1 A1 q1 => ⟨G1, xs, ρ1, S1, A1, q1⟩))
    fun us s2 ⟨vs, H2, I2, r2, G1, xs, ρ1, S1, A1, q1⟩ => ⟨I2.kIn, run_hasF hF b.tk (b.hr.mono hj) I2 S1 r2 A1 q1⟩) he hpl
theorem de_held0 (i : Nat) (hT : GOk X.prog X.w X.K X.mg X.base j T) (b : Bd X W k) (hj : j ≤ k) (hN : X.N[i]? = some x := by rfl) (hv : Vis X.env.scope x := by first | exact Or.inl rfl | exact Or.inr (Or.inl rfl) | exact Or.inr (Or.inr rfl)) (hd : (x == ("__debug__" : Str)) = false := by decide) (hcd : (x == ("__classdict__" : Str)) = false := by decide) :
    DE X W (.Call (.Name x p) [] [] pos) (heldM T i (rt [])) := by
  refine ⟨fun pins s σ H Q I q => ?_⟩
  obtain ⟨B, ρ, G, S, q⟩ := q
  obtain ⟨g, m, dvs, hs, hTg, q⟩ := held_at S q
  have hF := hT.ok g m dvs hTg
  have kp : PySem.W.keepIn X.K (.ref (He.ga X.K g)) = true := let ⟨_, _, _, _, _, h, _⟩ := hF.ex; h
  refine wpAny_Call_Name_kw (thn ((pe_var (pos := p) hN hv hd hcd).run pins s σ H (fun v H1 => v = .ref (He.ga X.K g) ∧ H1 = H) I ⟨_, hs, rfl, rfl⟩) fun u s1 ⟨v, H1, I1, r1, q1⟩ => ?_)
  obtain ⟨rfl, rfl⟩ := q1
  cases r1
  exact PySem.W.callWith_K0 I1.kIn kp (run_hasF (us := []) (vs := []) hF b.tk (b.hr.mono hj) I1 S .nil .nil q)
end
end DL


set_option Elab.async false
set_option linter.all false
set_option maxRecDepth 100000
set_option maxHeartbeats 4000000
/-! DL14: is None as a test; the head: facts; the law's end. -/
namespace DL
open PySem PySem.Spec PyProof.Rows L2
section
variable {X : Cx} {W : WX} {a : Expr} {fa : M D} {pos : Pos}
theorem dt_isN {j pos'} (ha : DE X W a fa) : DT X W (.Compare a [.Is] [.Constant .none j pos'] pos) (bd (isNV fa false) boolM) :=
  PT.imp (pt_cmp (pc_isN ha) rfl) (tTest_of fun σ H Q ⟨B, ρ, G, S, q⟩ => tD_bdE S q fun v G1 H1 x ρ1 e1 S1 A1 q1 => by
    cases A1 <;> exact now S1 q1 (.bl _))
theorem dt_isNotN {j pos'} (ha : DE X W a fa) : DT X W (.Compare a [.IsNot] [.Constant .none j pos'] pos) (bd (isNV fa true) boolM) :=
  PT.imp (pt_cmp (pc_notN ha) rfl) (tTest_of fun σ H Q ⟨B, ρ, G, S, q⟩ => tD_bdE S q fun v G1 H1 x ρ1 e1 S1 A1 q1 => by
    cases A1 <;> exact now S1 q1 (.bl _))
end
/-! ### the head's facts: names, defs, and checks of one's own -/
def obsX (ck : List (PySem.W.Frag → Bool)) (fn : List He.DefD) (K : PySem.W.Frag) : He.AlD := ((ck.all fun f => f K) && fn.all fun d => d.ok K, fn.map fun d => He.fnW K d.at_)
def SaysX (ck : List (PySem.W.Frag → Bool)) (fn : List He.DefD) (K : PySem.W.Frag) : Prop := obsX ck fn K = He.valD fn
def hookX (n : Nat) (ck : List (PySem.W.Frag → Bool)) (fn : List He.DefD) : PySem.W.Hook where
  α := He.AlD
  obs := fun s => obsX ck fn (He.frG s.heap.get? (He.asD s.heap.get? n ++ [cStatics]))
  val := fun _ => He.valD fn
  says := fun _ h => ∃ K : PySem.W.Frag, K.In h ∧ SaysX ck fn K
  of := fun _ _ e => ⟨_, He.frG_in, e⟩
  keeps := fun _ _ _ ⟨K, hK, c⟩ k => ⟨K, PySem.W.Frag.In.keeps hK k, c⟩
def obX (n : Nat) (ck : List (PySem.W.Frag → Bool)) (fn : List He.DefD) (s : PySem.W.SharedT) : He.AlD := obsX ck fn (He.frG (HandSHeadRun.getT s) (He.asD (HandSHeadRun.getT s) n ++ [cStatics]))
theorem obX_eq (n : Nat) (ck : List (PySem.W.Frag → Bool)) (fn : List He.DefD) (s : PySem.W.SharedT) : obX n ck fn s = (hookX n ck fn).obs s.abs := by
  have e : HandSHeadRun.getT s = s.abs.heap.get? := funext fun a => HandSHeadRun.getT_eq s a
  show obsX ck fn (He.frG (HandSHeadRun.getT s) (He.asD (HandSHeadRun.getT s) n ++ [cStatics])) = obsX ck fn (He.frG s.abs.heap.get? (He.asD s.abs.heap.get? n ++ [cStatics]))
  rw [e]
section
variable {ck : List (PySem.W.Frag → Bool)} {fn : List He.DefD} {K : PySem.W.Frag}
theorem SaysX.fact (c : SaysX ck fn K) (i : Nat) {f : PySem.W.Frag → Bool} (h : ck[i]? = some f := by rfl) : f K = true := by
  have c1 := (Bool.and_eq_true_iff.mp (show ((ck.all fun f => f K) && fn.all fun d => d.ok K) = true from congrArg (fun z : He.AlD => z.1) c)).1
  exact List.all_eq_true.mp c1 f (List.mem_of_getElem? h)
theorem SaysX.def_ (c : SaysX ck fn K) (i : Nat) {d : He.DefD} (h : fn[i]? = some d := by rfl) : ∃ fd, FunD K d.name d.qual d.params d.body d.scope (d.dvs K) (d.kws K) (He.fAd K d.at_) fd := by
  have c2 := (Bool.and_eq_true_iff.mp (show ((ck.all fun f => f K) && fn.all fun d => d.ok K) = true from congrArg (fun z : He.AlD => z.1) c)).2
  have e : fn.map (fun d => He.fnW K d.at_) = fn.map He.DefD.val := congrArg (fun z : He.AlD => z.2) c
  have e2 : (fn.map fun d => He.fnW K d.at_)[i]? = (fn.map He.DefD.val)[i]? := by rw [e]
  rw [List.getElem?_map, List.getElem?_map, h] at e2
  exact He.DefD.funD (Option.some.inj e2) (List.all_eq_true.mp c2 d (List.mem_of_getElem? h))
end
/-- what all walks lean on -/
structure Ev (ck : List (PySem.W.Frag → Bool)) (fn : List He.DefD) (K : PySem.W.Frag) (mg : Str → Option Value) (base : Heap) : Prop where
  kin : K.In base
  ns : base.Ns mainGlobals mg
  c : SaysX ck fn K
abbrev fa (f : He.Fa) : PySem.W.Frag → Bool := fun K => f.ok K
section
variable {P : Program} {w : World} {K : PySem.W.Frag} {mg : Str → Option Value} {base : Heap} {x qual : Str} {params : Arguments} {body : List Stmt} {scope : Scope} {kws : List (Str × V)} {f : Addr} {nN : Nat} {ps : List Str} {k : Nat} {F : FS} {dfl : List V}
/-- a def with all its arguments -/
theorem hasF_of (h : ∃ fd, FunD K x qual params body scope [] kws f fd ∧ FnOk P w K mg base (L2.CX P w) k f fd ps (spD K ps.length (fmOf ps.length nN F)))
    (hb : ∀ (kV doc pm : Value) (an : Option Addr) (cdv ct : Value) (us : List Value), us.length = ps.length → bindArgs (PySem.W.fnOf x qual params body scope .none kV doc pm an cdv ct) ⟨us, []⟩ = pure (ps.zip us)) :
    HasF P w K mg base k f [] (fmOf ps.length nN F) :=
  let ⟨fd, F0, hF⟩ := h
  ⟨fd, ps, [], [], hF, F0.kp, F0.bindsN hb, .nil, fun _ => .nil, fun _ z => fmOf_len z⟩
theorem hasB_of (h : ∃ fd, FunD K x qual params body scope [] kws f fd ∧ FnOk P w K mg base (L2.CX P w) k f fd ps (spB K ps.length (fmB ps.length nN F)))
    (hb : ∀ (kV doc pm : Value) (an : Option Addr) (cdv ct : Value) (us : List Value), us.length = ps.length → bindArgs (PySem.W.fnOf x qual params body scope .none kV doc pm an cdv ct) ⟨us, []⟩ = pure (ps.zip us)) :
    HasB P w K mg base k f [] (fmB ps.length nN F) :=
  let ⟨fd, F0, hF⟩ := h
  ⟨fd, ps, [], [], hF, F0.kp, F0.bindsN hb, .nil, fun _ => .nil, fun _ _ z => fmB_len z⟩
/-- .. of defaults: n are written, those behind the first j fill up -/
theorem hasF_dfl {dds : List D} (n j : Nat) (h : ∃ fd, FunD K x qual params body scope dfl kws f fd ∧ FnOk P w K mg base (L2.CX P w) k f fd ps (spD K ps.length (fmOf ps.length nN F))) (hd : dfl ≠ []) (hn : n + (dfl.length - j) = ps.length)
    (hb : ∀ (T : Addr) (kV doc pm : Value) (an : Option Addr) (cdv ct : Value) (us its : List Value), us.length = n → its.length = dfl.length →
      ∃ k, bindArgs (PySem.W.fnOf x qual params body scope (.ref T) kV doc pm an cdv ct) ⟨us, []⟩ = seqItems? (.ref T) >>= k ∧ k (some its.toArray) = pure (ps.zip (us ++ its.drop j))) (hv : ∀ G, Ats K G (dfl.drop j) dds) :
    HasF P w K mg base k f dds (fmOf ps.length nN F) :=
  let ⟨fd, F0, hF⟩ := h
  let ⟨ds, hds, hB⟩ := F0.binds1 n j hd hn hb
  ⟨fd, ps, ds, _, hF, F0.kp, hB, hds, hv, fun _ z => fmOf_len z⟩
theorem hasB_dfl {dds : List D} (n j : Nat) (h : ∃ fd, FunD K x qual params body scope dfl kws f fd ∧ FnOk P w K mg base (L2.CX P w) k f fd ps (spB K ps.length (fmB ps.length nN F))) (hd : dfl ≠ []) (hn : n + (dfl.length - j) = ps.length)
    (hb : ∀ (T : Addr) (kV doc pm : Value) (an : Option Addr) (cdv ct : Value) (us its : List Value), us.length = n → its.length = dfl.length →
      ∃ k, bindArgs (PySem.W.fnOf x qual params body scope (.ref T) kV doc pm an cdv ct) ⟨us, []⟩ = seqItems? (.ref T) >>= k ∧ k (some its.toArray) = pure (ps.zip (us ++ its.drop j))) (hv : ∀ G, Ats K G (dfl.drop j) dds) :
    HasB P w K mg base k f dds (fmB ps.length nN F) :=
  let ⟨fd, F0, hF⟩ := h
  let ⟨ds, hds, hB⟩ := F0.binds1 n j hd hn hb
  ⟨fd, ps, ds, _, hF, F0.kp, hB, hds, hv, fun _ _ z => fmB_len z⟩
end
/-- the law's promise, from its mirror -/
theorem law_sp {K : PySem.W.Frag} {m : Fm} {H : Hp} {a : Addr} {ns : List Int} (hS : SqL K H a (ns.map V.int)) (h : m [.scr (ns.map D.int)] = .ok (.bl true)) : spD K 1 m [.ref a] H (fun v _ => v = .bl true) fun _ _ _ => False := by
  refine ⟨rfl, H, [.scr (ns.map D.int)], Same.refl _, .cons (.scr hS ?_) .nil, ?_⟩
  · clear h hS
    induction ns with
    | nil => exact .nil
    | cons n ns ih => exact .cons (.int n) ih
  · rw [h]
    intro v G' H' e av
    cases av
    rfl
theorem funD_det {K : PySem.W.Frag} {x x' qual qual' : Str} {params params' : Arguments} {body body' : List Stmt} {scope scope' : Scope} {dvs dvs' : List V} {kws kws' : List (Str × V)} {f : Addr} {fd fd2 : FuncData}
    (F : FunD K x qual params body scope dvs kws f fd) (F2 : FunD K x' qual' params' body' scope' dvs' kws' f fd2) : fd = fd2 := by
  obtain ⟨_, _, _, _, _, _, _, _, _, _, _, l1, _⟩ := F.ex
  obtain ⟨_, _, _, _, _, _, _, _, _, _, _, l2, _⟩ := F2.ex
  rw [l1] at l2
  cases l2
  rfl
/-- the law's end, where what may come out hangs on the world -/
theorem walk_w {l : PySem.W.OpenLaw} {n k : Nat} {q : Program} {loose : List Str} {XP : (Str → Option Value) → Heap → Prop} {YP : World → Heap → Prop} {d : DefRec} {CW : World → CXT} {x : Str} (h1 : l.most = some n) (h2 : n ≤ sizeLine) (h3 : d.params.defaults = []) (h4 : Room k callerA)
    (h5 : ∀ (w : World) (mg : Str → Option Value) (fa : Addr) (h : Heap), YP w h → h.Ns mainGlobals mg → mg d.name = some (.ref fa) →
      ∃ (K : PySem.W.Frag) (fd : FuncData) (sp : Sp), K.In h ∧ (∀ (s : Shared) (u : Value), BindsTo s fd ⟨[u], []⟩ [(x, u)]) ∧ (∀ (H : Hp) (a : Addr) (ns : List Int), ns.length ≤ n → SqL K H a (ns.map V.int) → sp [.ref a] H (fun v _ => v = .bl true) fun _ _ _ => False) ∧
        ∀ base : Heap, K.In base → base.Ns mainGlobals mg → FnOk l.prog w K mg base (CW w) k fa fd [x] sp)
    (h6 : ∀ (w : World) (H : Hp) (s : Shared) (e : Value) (s' : Shared), CW w [] H s (fun _ _ _ => False) e s' → False) : PySem.W.WalkO q loose XP YP l.row.toRowW d [] (fun f vs => PySem.call f vs) := by
  refine Att.attach_call h1 h3 fun w _ z mg _ fa _ _ _ _ a _ ns g y _ _ _ m1 m2 m3 m4 m5 => ?_
  obtain ⟨K, fd, sp, k1, k2, k3, k4⟩ := h5 w mg fa _ y g.T.g m1
  refine law_call k1 g.T.g g.T.b g.T.builtins g.T.nolimit m5 m2 m3 (Nat.le_trans m4 h2) h4 k4 k2 (fun H _ hS => k3 H a ns m4 hS) ?_
  exact fun H e s' => h6 w H z e s'
end DL


set_option Elab.async false
set_option linter.all false
set_option maxRecDepth 100000
set_option maxHeartbeats 4000000
/-! DL15: zip, enumerate, fuel, a def of which nothing is promised. -/
namespace DL
open PySem PySem.Spec PyProof.Rows L2
/-- a bound of a loop's turns, by what stands in the slots -/
def wtD : D → Nat
  | .int i => i.natAbs + 1
  | .str x => x.length + 1
  | .tup xs => xs.length + 1
  | .lst xs => xs.length + 1
  | .scr xs => xs.length + 1
  | _ => 1
def wtC : Option Cl → Nat
  | some (.d x) => wtD x
  | some (.own t) => wtD t.dat
  | some (.bor t) => wtD t.dat
  | none => 0
def fuelE : En → Nat
  | [] => 8
  | c :: r => wtC c + fuelE r
section
variable {P : Program} {w : World} {K : PySem.W.Frag} {mg : Str → Option Value} {base : Heap} {x qual : Str} {params : Arguments} {body : List Stmt} {scope : Scope} {kws : List (Str × V)} {f : Addr} {fd : FuncData} {ps : List Str} {k : Nat}
theorem hasF_stuck (F0 : FunD K x qual params body scope [] kws f fd) (hb : ∀ (kV doc pm : Value) (an : Option Addr) (cdv ct : Value) (us : List Value), us.length = ps.length → bindArgs (PySem.W.fnOf x qual params body scope .none kV doc pm an cdv ct) ⟨us, []⟩ = pure (ps.zip us)) :
    HasF P w K mg base k f [] (fun _ => .stuck) :=
  ⟨fd, ps, [], [], ⟨fun vs H Q E h => h.1, fun A outer s H args us vs Q E _ _ _ _ h => let ⟨_, _, _, _, _, q⟩ := h; q.elim⟩, F0.kp, F0.bindsN hb, .nil, fun _ => .nil, fun _ z => absurd rfl z⟩
end
def pairs : List D → List D → List D
  | x :: xs, y :: ys => .tup [x, y] :: pairs xs ys
  | _, _ => []
theorem pairs_some : ∀ {xs ys : List D} {i : Nat} {d : D}, (pairs xs ys)[i]? = some d → ∃ x y, xs[i]? = some x ∧ ys[i]? = some y ∧ d = .tup [x, y]
  | [], _, _, _, h => by cases h
  | _ :: _, [], _, _, h => by cases h
  | x :: xs, y :: ys, 0, d, h => by cases h; exact ⟨x, y, rfl, rfl, rfl⟩
  | x :: xs, y :: ys, i + 1, d, h => pairs_some (xs := xs) (ys := ys) (i := i) h
theorem pairs_none : ∀ {xs ys : List D} {i : Nat}, (pairs xs ys)[i]? = none → xs.length ≤ i ∨ ys.length ≤ i
  | [], _, _, _ => .inl (Nat.zero_le _)
  | _ :: _, [], _, _ => .inr (Nat.zero_le _)
  | x :: xs, y :: ys, 0, h => by cases h
  | x :: xs, y :: ys, i + 1, h => by
    rcases pairs_none (xs := xs) (ys := ys) (i := i) h with h | h
    · exact .inl (Nat.succ_le_succ h)
    · exact .inr (Nat.succ_le_succ h)
def zipF : List D → M (List D)
  | [.lst xs, .lst ys] => rt (pairs xs ys)
  | [.tup xs, .tup ys] => rt (pairs xs ys)
  | _ => stk
section
variable {X : Cx} {W : WX} {e e2 : Expr} {fo : M (List D)} {p pos tpos : Pos} {elts : List Expr} {kk : Nat}
theorem yields_zip {K : PySem.W.Frag} {G : Hp} {a b : Addr} {vs ws : List V} {xs ys : List D} (ha : G a = some (.lst vs)) (hb : G b = some (.lst ws)) (A : Ats K G vs xs) (B : Ats K G ws ys) : Yields K (Itz K a b) (pairs xs ys) G := fun i G1 H1 e s => by
  have ha1 := SqL.of (K := K) (s _ _ (e _ _ ha))
  have hb1 := SqL.of (K := K) (s _ _ (e _ _ hb))
  refine ⟨fun d hd => ?_, fun hn => ?_⟩
  · obtain ⟨x, y, hx, hy, rfl⟩ := pairs_some hd
    obtain ⟨v, hv, av⟩ := A.get hx
    obtain ⟨w, hw, aw⟩ := B.get hy
    refine ⟨⟨vs, ws, v, w, ha1, hb1, hv, hw⟩, fun z H' q => ?_⟩
    obtain ⟨T, v', w', rfl, hT, rfl, q1, q2⟩ := q
    have e1 := q1 vs ha1
    have e2 := q2 ws hb1
    rw [hv] at e1
    rw [hw] at e2
    cases e1
    cases e2
    have ex := Ext.new (o := .tup [v, w]) s hT
    exact ⟨_, ex, .tup (SqT.of upd_same) (.cons (av.mono (e.trans ex.g)) (.cons (aw.mono (e.trans ex.g)) .nil))⟩
  · refine ⟨vs, ws, ha1, hb1, ?_⟩
    rw [A.length, B.length]
    exact pairs_none hn
theorem yields_zipT {K : PySem.W.Frag} {G : Hp} {a b : Addr} {vs ws : List V} {xs ys : List D} (ha : SqT K G a vs) (hb : SqT K G b ws) (A : Ats K G vs xs) (B : Ats K G ws ys) : Yields K (RZ.ItzT K a b) (pairs xs ys) G := fun i G1 H1 e s => by
  have ha1 := same_seqT s (same_seqT e ha)
  have hb1 := same_seqT s (same_seqT e hb)
  refine ⟨fun d hd => ?_, fun hn => ?_⟩
  · obtain ⟨x, y, hx, hy, rfl⟩ := pairs_some hd
    obtain ⟨v, hv, av⟩ := A.get hx
    obtain ⟨w, hw, aw⟩ := B.get hy
    refine ⟨⟨vs, ws, v, w, ha1, hb1, hv, hw⟩, fun z H' q => ?_⟩
    obtain ⟨T, v', w', rfl, hT, rfl, q1, q2⟩ := q
    have e1 := q1 vs ha1
    have e2 := q2 ws hb1
    rw [hv] at e1
    rw [hw] at e2
    cases e1
    cases e2
    have ex := Ext.new (o := .tup [v, w]) s hT
    exact ⟨_, ex, .tup (SqT.of upd_same) (.cons (av.mono (e.trans ex.g)) (.cons (aw.mono (e.trans ex.g)) .nil))⟩
  · refine ⟨vs, ws, ha1, hb1, ?_⟩
    rw [A.length, B.length]
    exact pairs_none hn
theorem di_zip (hg : Gl X "zip") (hm : X.mg "zip" = none) (ha : DA X W [e, e2] fo) (hs : starEach [e, e2] X.env = (false, eval e X.env) :: starEach [e2] X.env := by rfl) (hpl : (backTo pos (starEach [e2] X.env)).any (·.1) = false := by rfl) :
    DI X W (.Tuple elts kk tpos) (.Call (.Name "zip" p) [e, e2] [] pos) (bd fo zipF) :=
  PI.imp (RZ.pi_zipA hg hm ha hs hpl) fun σ H R ⟨B, ρ, G, S, q⟩ => tA_bdI S q fun vs G1 H1 xs ρ1 e1 S1 A1 q1 => by
    unfold zipF at q1
    split at q1
    · cases A1 with
      | cons h1 t =>
        cases t with
        | cons h2 t =>
          cases t
          cases h1 with
          | lst k1 t1 =>
            cases h2 with
            | lst k2 t2 => exact ⟨_, _, _, _, rfl, .inl ⟨SqL.of (S1.sub _ _ k1), SqL.of (S1.sub _ _ k2), q1 _ G1 H1 (Same.refl _) S1 (yields_zip k1 k2 t1 t2)⟩⟩
    · cases A1 with
      | cons h1 t =>
        cases t with
        | cons h2 t =>
          cases t
          cases h1 with
          | tup k1 t1 =>
            cases h2 with
            | tup k2 t2 => exact ⟨_, _, _, _, rfl, .inr ⟨same_seqT S1.sub k1, same_seqT S1.sub k2, q1 _ G1 H1 (Same.refl _) S1 (yields_zipT k1 k2 t1 t2)⟩⟩
    · exact q1.elim
/-! enumerate -/
def enumD : List D → Nat → List D
  | [], _ => []
  | x :: xs, n => .tup [.int (n : Nat), x] :: enumD xs (n + 1)
theorem enumD_get : ∀ (xs : List D) (n i : Nat), (enumD xs n)[i]? = (xs[i]?).map fun x => .tup [.int ((n + i : Nat) : Int), x]
  | [], _, _ => rfl
  | x :: xs, n, 0 => rfl
  | x :: xs, n, i + 1 => by
    show (enumD xs (n + 1))[i]? = _
    rw [enumD_get xs (n + 1) i, show n + 1 + i = n + (i + 1) by omega]
    rfl
def enuF : List D → M (List D)
  | [.lst xs] => rt (enumD xs 0)
  | _ => stk
theorem di_enum (hg : Gl X "enumerate") (hm : X.mg "enumerate" = none) (ha : DA X W [e] fo) (hs : starEach [e] X.env = [(false, eval e X.env)] := by rfl) : DI X W (.Tuple elts kk tpos) (.Call (.Name "enumerate" p) [e] [] pos) (bd fo enuF) :=
  PI.imp (pi_enum hg hm ha hs) fun σ H R ⟨B, ρ, G, S, q⟩ => tA_bdI S q fun vs G1 H1 xs ρ1 e1 S1 A1 q1 => by
    unfold enuF at q1
    split at q1
    · cases A1 with
      | cons h1 t =>
        cases t
        cases h1 with
        | lst k1 t1 =>
          rename_i ys a vs
          refine ⟨a, vs, rfl, SqL.of (S1.sub _ _ k1), q1 _ G1 H1 (Same.refl _) S1 fun i G2 H2 e2 s2 => ?_⟩
          have ha1 := SqL.of (K := X.K) (s2 _ _ (e2 _ _ k1))
          rw [enumD_get]
          refine ⟨fun d hd => ?_, fun hn => ?_⟩
          · cases ex : ys[i]? with
            | none => rw [ex] at hd; cases hd
            | some x =>
              rw [ex] at hd
              cases hd
              obtain ⟨v, hv, av⟩ := t1.get ex
              refine ⟨⟨vs, v, ha1, hv⟩, fun z H' q => ?_⟩
              obtain ⟨T, v', rfl, hT, rfl, q1⟩ := q
              have e1 := q1 vs ha1
              rw [hv] at e1
              cases e1
              have ex := Ext.new (o := .tup [.int ((i : Nat) : Int), v]) s2 hT
              refine ⟨_, ex, .tup (SqT.of upd_same) (.cons ?_ (.cons (av.mono (e2.trans ex.g)) .nil))⟩
              rw [show (((0 + i : Nat)) : Int) = ((i : Nat) : Int) by omega]
              exact .int _
          · refine ⟨vs, ha1, ?_⟩
            rw [t1.length]
            cases ex : ys[i]? with
            | none => exact List.getElem?_eq_none_iff.mp ex
            | some x => rw [ex] at hn; cases hn
    · exact q1.elim
end
end DL


set_option Elab.async false
set_option linter.all false
set_option maxRecDepth 100000
set_option maxHeartbeats 4000000
/-! DL16: == and != of tuples that hold objects of one's own classes. -/
namespace DL
open PySem PySem.Spec PyProof.Rows L2
open PySem.SeqAt AutoSeq1 MeetsSeq MeetsSeq2 MeetsSeq3 SeqRoads2 GQ

section
variable {prog : Program} {w : World} {A : Around} {R : Result → Shared → Prop}
/-- how far the pairs go that are equal, and what the first other one is -/
def PairsI (prog : Program) (w : World) (A : Around) (E : Value → Shared → Prop) (items items2 : Array Value) (I : Nat → Shared → Prop) (J : Shared → Prop) : Prop :=
  ∀ i (h1 : i < items.size) (h2 : i < items2.size) s, I i s → wpAny (model prog w) A.in1 (eqBool items[i] items2[i]) (fun r s' => (r = true ∧ I (i + 1) s') ∨ (r = false ∧ J s')) E s
theorem tuple_eq2 (l b : Addr) (items items2 : Array Value) (n n2 : Nat) (dd dd2 : Option Addr) (sl sl2 : Array (Option Value)) (I : Nat → Shared → Prop) (J : Shared → Prop)
    (turn : PairsI prog w A (fun e s' => R (.error e) s') items items2 I J)
    (fin : ∀ s, I (min items.size items2.size) s → R (.ok (.ret (.bool (items.size == items2.size)))) s) (fj : ∀ s, J s → R (.ok (.ret (.bool false))) s)
    {s : Shared} (hl1 : s.heap.get? l = some { cls := .type "tuple", dict := dd, data := .seq items n, slots := sl }) (hb1 : s.heap.get? b = some { cls := .type "tuple", dict := dd2, data := .seq items2 n2, slots := sl2 }) (h : I 0 s) :
    wpAny (model prog w) A.in1 (Builtin.«tuple.__eq__» ⟨[.ref l, .ref b], []⟩) (FinOf prog w A R) (fun e s' => R (.error e) s') s := by
  have f2 := AutoSeq1.sub_tuple_tuple
  have hZ : (items.toList.zip items2.toList).length = min items.size items2.size := by simp
  have h0 := h
  obtain ⟨hp, g, d, tk, os⟩ := s
  wp_walk using wpAny_loadPart' hl1, wpAny_loadPart' hb1, wpAny_forIn_list _ (fun rest b s' => b.1 = none ∧ ∃ i, rest = (items.toList.zip items2.toList).drop i ∧ i ≤ min items.size items2.size ∧ I i s') _
  case turn =>
    rintro ⟨y, x⟩ rest b s' ⟨hb', i, hz, hi, hI⟩
    have hlt : i < (items.toList.zip items2.toList).length := by
      rcases Nat.lt_or_ge i (items.toList.zip items2.toList).length with h' | h'
      · exact h'
      · rw [List.drop_of_length_le h'] at hz; cases hz
    have hm : i < min items.size items2.size := hZ ▸ hlt
    have h1 : i < items.size := Nat.lt_of_lt_of_le hm (Nat.min_le_left _ _)
    have h2 : i < items2.size := Nat.lt_of_lt_of_le hm (Nat.min_le_right _ _)
    rw [List.drop_eq_getElem_cons hlt] at hz
    injection hz with hyx hrest
    have hy : y = items[i] := by have := congrArg Prod.fst hyx; simpa using this
    have hx : x = items2[i] := by have := congrArg Prod.snd hyx; simpa using this
    subst hy hx
    refine wpAny_bind (wpAny_mono (turn i h1 h2 s' hI) (fun r s2 q2 => ?_) fun _ _ x => x)
    rcases q2 with ⟨hr, q2⟩ | ⟨hr, q2⟩
    · subst hr
      wp_walk
      exact ⟨rfl, i + 1, hrest, hm, q2⟩
    · subst hr
      have q3 := fj _ q2
      wp_walk
      exact q3
  case fin =>
    rintro ⟨b1, b2⟩ s' ⟨hb', i, hz, hi, hI⟩
    simp only at hb'
    subst hb'
    have hge : min items.size items2.size ≤ i := by
      rcases Nat.lt_or_ge i (items.toList.zip items2.toList).length with h' | h'
      · rw [List.drop_eq_getElem_cons h'] at hz; cases hz
      · exact hZ ▸ h'
    have hi' : i = min items.size items2.size := by omega
    have hR := fin s' (hi' ▸ hI)
    wp_walk
    simpa [Builtin.Tuple.tupleCompareSizes] using hR
  case h =>
    exact ⟨rfl, 0, rfl, Nat.zero_le _, h0⟩
theorem tuple_ne2 (l b : Addr) (items items2 : Array Value) (n n2 : Nat) (dd dd2 : Option Addr) (sl sl2 : Array (Option Value)) (I : Nat → Shared → Prop) (J : Shared → Prop)
    (turn : PairsI prog w A (fun e s' => R (.error e) s') items items2 I J)
    (fin : ∀ s, I (min items.size items2.size) s → R (.ok (.ret (.bool (!(items.size == items2.size))))) s) (fj : ∀ s, J s → R (.ok (.ret (.bool true))) s)
    {s : Shared} (hl1 : s.heap.get? l = some { cls := .type "tuple", dict := dd, data := .seq items n, slots := sl }) (hb1 : s.heap.get? b = some { cls := .type "tuple", dict := dd2, data := .seq items2 n2, slots := sl2 }) (h : I 0 s) :
    wpAny (model prog w) A.in1 (Builtin.«tuple.__ne__» ⟨[.ref l, .ref b], []⟩) (FinOf prog w A R) (fun e s' => R (.error e) s') s := by
  have f2 := AutoSeq1.sub_tuple_tuple
  have hZ : (items.toList.zip items2.toList).length = min items.size items2.size := by simp
  have h0 := h
  obtain ⟨hp, g, d, tk, os⟩ := s
  wp_walk using wpAny_loadPart' hl1, wpAny_loadPart' hb1, wpAny_forIn_list _ (fun rest b s' => b.1 = none ∧ ∃ i, rest = (items.toList.zip items2.toList).drop i ∧ i ≤ min items.size items2.size ∧ I i s') _
  case turn =>
    rintro ⟨y, x⟩ rest b s' ⟨hb', i, hz, hi, hI⟩
    have hlt : i < (items.toList.zip items2.toList).length := by
      rcases Nat.lt_or_ge i (items.toList.zip items2.toList).length with h' | h'
      · exact h'
      · rw [List.drop_of_length_le h'] at hz; cases hz
    have hm : i < min items.size items2.size := hZ ▸ hlt
    have h1 : i < items.size := Nat.lt_of_lt_of_le hm (Nat.min_le_left _ _)
    have h2 : i < items2.size := Nat.lt_of_lt_of_le hm (Nat.min_le_right _ _)
    rw [List.drop_eq_getElem_cons hlt] at hz
    injection hz with hyx hrest
    have hy : y = items[i] := by have := congrArg Prod.fst hyx; simpa using this
    have hx : x = items2[i] := by have := congrArg Prod.snd hyx; simpa using this
    subst hy hx
    refine wpAny_bind (wpAny_mono (turn i h1 h2 s' hI) (fun r s2 q2 => ?_) fun _ _ x => x)
    rcases q2 with ⟨hr, q2⟩ | ⟨hr, q2⟩
    · subst hr
      wp_walk
      exact ⟨rfl, i + 1, hrest, hm, q2⟩
    · subst hr
      have q3 := fj _ q2
      wp_walk
      exact q3
  case fin =>
    rintro ⟨b1, b2⟩ s' ⟨hb', i, hz, hi, hI⟩
    simp only at hb'
    subst hb'
    have hge : min items.size items2.size ≤ i := by
      rcases Nat.lt_or_ge i (items.toList.zip items2.toList).length with h' | h'
      · rw [List.drop_eq_getElem_cons h'] at hz; cases hz
      · exact hZ ▸ h'
    have hi' : i = min items.size items2.size := by omega
    have hR := fin s' (hi' ▸ hI)
    wp_walk
    simpa [Builtin.Tuple.tupleCompareSizes, bne] using hR
  case h =>
    exact ⟨rfl, 0, rfl, Nat.zero_le _, h0⟩
end

/-! what may be one and the same object -/
def rkD : D → Nat
  | .non => 0
  | .bl _ => 1
  | .int _ => 2
  | .str _ => 3
  | .ty _ => 4
  | _ => 5
mutual
def sameD : D → D → Bool
  | .bl a, .bl b => a == b
  | .int a, .int b => a == b
  | .str a, .str b => a == b
  | .tup xs, .tup ys => sames xs ys
  | .obj _ fs, .obj _ gs => samef fs gs
  | x, y => rkD x == rkD y
def sames : List D → List D → Bool
  | [], [] => true
  | x :: xs, y :: ys => sameD x y && sames xs ys
  | _, _ => false
def samef : List (Str × D) → List (Str × D) → Bool
  | [], [] => true
  | (_, x) :: xs, (_, y) :: ys => sameD x y && samef xs ys
  | _, _ => false
end
section
variable {X : Cx} {pins : List (Addr × Obj)} {σ : L2.St} {H G : Hp} {s : Shared}
mutual
theorem at_same (I : Inv X pins σ H s) (S : Same G H) : ∀ {v : V} {x y : D}, At X.K G v x → At X.K G v y → sameD x y = true
  | _, _, _, .non, h => by cases h; rfl
  | _, _, _, .bl b, h => by cases h; unfold sameD; exact beq_self_eq_true _
  | _, _, _, .int b, h => by cases h; unfold sameD; exact beq_self_eq_true _
  | _, _, _, .str b, h => by cases h; unfold sameD; exact beq_self_eq_true _
  | _, _, _, .ty b, h => by cases h; rfl
  | _, _, _, .glo b, h => by
    generalize e : V.ref (He.ga X.K b) = v at h
    cases h with
    | glo x => rfl
    | tup h t => rfl
    | lst h t => rfl
    | scr h t => rfl
    | obj h t => rfl
    | _ => cases e
  | _, _, _, .tup h t, h2 => by
    cases h2 with
    | tup k u =>
      have e := I.tuple_inj (same_seqT S h) (same_seqT S k)
      subst e
      unfold sameD
      exact ats_same I S t u
    | glo x => rfl
    | lst h t => rfl
    | scr h t => rfl
    | obj h t => rfl
  | _, _, _, .lst h t, h2 => by
    cases h2 with
    | tup k u => rfl
    | glo x => rfl
    | lst h t => rfl
    | scr h t => rfl
    | obj h t => rfl
  | _, _, _, .scr h t, h2 => by
    cases h2 with
    | tup k u => rfl
    | glo x => rfl
    | lst h t => rfl
    | scr h t => rfl
    | obj h t => rfl
  | _, _, _, .obj h t, h2 => by
    cases h2 with
    | tup k u => rfl
    | glo x => rfl
    | lst h t => rfl
    | scr h t => rfl
    | obj k u =>
      have e := h.symm.trans k
      injection e with e
      injection e with _ _ e
      subst e
      unfold sameD
      exact atf_same I S t u
theorem ats_same (I : Inv X pins σ H s) (S : Same G H) : ∀ {vs : List V} {xs ys : List D}, Ats X.K G vs xs → Ats X.K G vs ys → sames xs ys = true
  | _, _, _, .nil, h => by cases h; rfl
  | _, _, _, .cons h t, h2 => by
    cases h2 with
    | cons k u =>
      unfold sames
      rw [at_same I S h k, ats_same I S t u]
      rfl
theorem atf_same (I : Inv X pins σ H s) (S : Same G H) : ∀ {vs : List (Str × V)} {xs ys : List (Str × D)}, AtF X.K G vs xs → AtF X.K G vs ys → samef xs ys = true
  | _, _, _, .nil, h => by cases h; rfl
  | _, _, _, .cons h t, h2 => by
    cases h2 with
    | cons k u =>
      unfold samef
      rw [at_same I S h k, atf_same I S t u]
      rfl
end
end

/-! the answer of ==, as deep as n tuples -/
def eqzs (f : D → D → Option Bool) : List D → List D → Option Bool
  | [], [] => some true
  | x :: xs, y :: ys => (match f x y with
    | some true => eqzs f xs ys
    | r => r)
  | _, _ => some false
/-- False only where the two can't be the same object -/
def sureB (x y : D) (b : Bool) : Option Bool := match b || !sameD x y with
  | true => some b
  | false => none
def blR : Rs → Option Bool
  | .ok (.bl b) => some b
  | _ => none
def eqz (T : MT) : Nat → D → D → Option Bool
  | n, x, y => match two_py x y with
    | some (p, q) => (match SeqAt.shaped p && SeqAt.shaped q with
      | true => some (PyData.eqv p q)
      | false => none)
    | none => match ownE T x y with
      | some (m, dvs) => (blR (m ([x, y] ++ dvs))).bind (sureB x y)
      | none => match n, x, y with
        | n + 1, .tup xs, .tup ys => (eqzs (eqz T n) xs ys).bind (sureB x y)
        | _, _, _ => none

theorem blR_of {r : Rs} {b : Bool} (h : blR r = some b) : r = .ok (.bl b) := by
  cases r with
  | ok x =>
    cases x with
    | bl c => cases h; rfl
    | _ => cases h
  | _ => cases h
theorem sureB_of {x y : D} {b c : Bool} (h : sureB x y b = some c) : c = b ∧ (sameD x y = true → b = true) := by
  unfold sureB at h
  cases hb : b with
  | true => rw [hb] at h; cases h; exact ⟨rfl, fun _ => rfl⟩
  | false =>
    rw [hb] at h
    cases hs : sameD x y with
    | true => rw [hs] at h; cases h
    | false => rw [hs] at h; cases h; exact ⟨rfl, fun z => nomatch z⟩
theorem eqzs_fin (f : D → D → Option Bool) : ∀ xs ys : List D, eqzs f (xs.drop (min xs.length ys.length)) (ys.drop (min xs.length ys.length)) = some (xs.length == ys.length)
  | [], [] => rfl
  | [], y :: ys => by simp [eqzs]
  | x :: xs, [] => by simp [eqzs]
  | x :: xs, y :: ys => by
    have h := eqzs_fin f xs ys
    simp only [List.length_cons, Nat.succ_eq_add_one, Nat.add_min_add_right, List.drop_succ_cons, h]
    simp
section
variable {X : Cx} {W : WX} {j k n : Nat} {T : MT}
/-- behind a comparison -/
def LoopS (X : Cx) (pins : List (Addr × Obj)) (σ : L2.St) (B : Gd) (ρ : En) (G : Hp) (s' : Shared) : Prop := ∃ G' H', Inv X pins σ H' s' ∧ Same G G' ∧ Stt X.K B ρ σ G' H'
def EqzAt (X : Cx) (T : MT) (n j : Nat) : Prop :=
  ∀ (A : Around) (pins : List (Addr × Obj)) (s : Shared) (σ : L2.St) (B : Gd) (ρ : En) (G H : Hp) (x y : V) (u v : Value) (dx dy : D) (b : Bool), Sub X j A → Inv X pins σ H s → Stt X.K B ρ σ G H → RelV x u → RelV y v →
    At X.K G x dx → At X.K G y dy → eqz T n dx dy = some b → wpAny (model X.prog X.w) A (eqBool u v) (fun r s' => r = b ∧ LoopS X pins σ B ρ G s') X.xe s
section
variable {A : Around} {pins : List (Addr × Obj)} {s : Shared} {σ : L2.St} {B : Gd} {ρ : En} {G H : Hp}
theorem pairs_run {xs ys : List V} {its its2 : List Value} {dxs dys : List D} {b : Bool} (h : EqzAt X T n j) (sb : Sub X (j + 1) A) (r : Vals xs its) (r2 : Vals ys its2) (a1 : Ats X.K G xs dxs) (a2 : Ats X.K G ys dys) :
    PairsI X.prog X.w A X.xe its.toArray its2.toArray (fun i s => LoopS X pins σ B ρ G s ∧ eqzs (eqz T n) (dxs.drop i) (dys.drop i) = some b) (fun s => LoopS X pins σ B ρ G s ∧ b = false) := by
  intro i h1 h2 s' ⟨⟨G1, H1, I1, e1, S1⟩, hz⟩
  have g1 : its[i]? = some its.toArray[i] := by
    have h1' : i < its.length := by simpa using h1
    rw [List.getElem?_eq_getElem h1'] <;> simp
  have g2 : its2[i]? = some its2.toArray[i] := by
    have h2' : i < its2.length := by simpa using h2
    rw [List.getElem?_eq_getElem h2'] <;> simp
  have k1 : i < xs.length := by rw [r.length]; simpa using h1
  have k2 : i < ys.length := by rw [r2.length]; simpa using h2
  have l1 : i < dxs.length := by rw [← a1.length]; exact k1
  have l2 : i < dys.length := by rw [← a2.length]; exact k2
  obtain ⟨u, hu, ru⟩ := r.get (List.getElem?_eq_getElem k1)
  obtain ⟨v, hv, rv⟩ := r2.get (List.getElem?_eq_getElem k2)
  rw [g1] at hu
  rw [g2] at hv
  rw [Option.some.inj hu, Option.some.inj hv]
  obtain ⟨x', hx, ax⟩ := a1.get (List.getElem?_eq_getElem l1)
  obtain ⟨y', hy, ay⟩ := a2.get (List.getElem?_eq_getElem l2)
  rw [List.getElem?_eq_getElem k1] at hx
  rw [List.getElem?_eq_getElem k2] at hy
  rw [Option.some.inj hx] at ru
  rw [Option.some.inj hy] at rv
  rw [List.drop_eq_getElem_cons l1, List.drop_eq_getElem_cons l2] at hz
  unfold eqzs at hz
  cases ef : eqz T n dxs[i] dys[i] with
  | none => rw [ef] at hz; cases hz
  | some c =>
    rw [ef] at hz
    refine wpAny_mono (h A.in1 pins s' σ B ρ G1 H1 _ _ u v _ _ c sb.in1 I1 S1 ru rv (ax.mono e1) (ay.mono e1) ef) (fun r s2 q => ?_) fun _ _ x => x
    obtain ⟨rfl, G2, H2, I2, e2, S2⟩ := q
    cases r with
    | true => exact .inl ⟨rfl, ⟨G2, H2, I2, e1.trans e2, S2⟩, hz⟩
    | false => cases hz; exact .inr ⟨rfl, ⟨G2, H2, I2, e1.trans e2, S2⟩, rfl⟩
theorem rc_tup2 {a a' : Addr} {xs ys : List V} {dxs dys : List D} {b : Bool} (neg : Bool) (h : EqzAt X T n j) (sb : Sub X (j + 1) A) (I : Inv X pins σ H s) (S : Stt X.K B ρ σ G H) (ha : SqT X.K G a xs) (hb : SqT X.K G a' ys) (a1 : Ats X.K G xs dxs) (a2 : Ats X.K G ys dys)
    (e : eqzs (eqz T n) dxs dys = some b) : wpAny (model X.prog X.w) A (richCompare (bif neg then .NotEq else .Eq) (.ref a) (.ref a')) (fun r s' => r = .bool (xor neg b) ∧ LoopS X pins σ B ρ G s') X.xe s := by
  obtain ⟨its, r, e1, z⟩ := I.tuple (same_seqT S.sub ha)
  obtain ⟨its2, r2, e2, z2⟩ := I.tuple (same_seqT S.sub hb)
  obtain ⟨⟨cls, dd, data, sl⟩, ho, hc, m, hd⟩ := id e1
  obtain ⟨⟨cls2, dd2, data2, sl2⟩, ho2, hc2, m2, hd2⟩ := id e2
  simp only at hc hd hc2 hd2
  subst hc hd hc2 hd2
  have l1 : its.toArray.size = dxs.length := by rw [List.size_toArray, ← r.length, a1.length]
  have l2 : its2.toArray.size = dys.length := by rw [List.size_toArray, ← r2.length, a2.length]
  have st : LoopS X pins σ B ρ G s ∧ eqzs (eqz T n) (dxs.drop 0) (dys.drop 0) = some b := ⟨⟨G, H, I, Same.refl _, S⟩, e⟩
  have fb : ∀ s', (LoopS X pins σ B ρ G s' ∧ eqzs (eqz T n) (dxs.drop (min its.toArray.size its2.toArray.size)) (dys.drop (min its.toArray.size its2.toArray.size)) = some b) → (its.toArray.size == its2.toArray.size) = b ∧ LoopS X pins σ B ρ G s' := fun s' ⟨q, hz⟩ => by
    rw [l1, l2, eqzs_fin] at hz
    rw [l1, l2]
    exact ⟨Option.some.inj hz, q⟩
  cases neg with
  | false =>
    refine wpAny_richCompare_same_room (op := .Eq) ⟨_, ho, rfl⟩ ⟨_, ho2, rfl⟩ F.slot_tuple_eq (call_here F.slot_tuple_eq ⟨_, ho, rfl⟩ F.entry_tuple_eq (F.args_tuple_eq_2 _ _) ?_) sb.room.units0
    exact tuple_eq2 (R := wants (fun v s' => v ≠ .notImplemented ∧ (v = .bool (xor false b) ∧ LoopS X pins σ B ρ G s')) X.xe) a a' _ _ m m2 dd dd2 sl sl2 _ _ (pairs_run (b := b) h sb r r2 a1 a2)
      (fun s' q => ⟨(fun z => nomatch z), by rw [(fb s' q).1, Bool.false_xor], (fb s' q).2⟩) (fun s' q => ⟨(fun z => nomatch z), by rw [q.2]; rfl, q.1⟩) ho ho2 st
  | true =>
    refine wpAny_richCompare_same_room (op := .NotEq) ⟨_, ho, rfl⟩ ⟨_, ho2, rfl⟩ F.slot_tuple_ne (call_here F.slot_tuple_ne ⟨_, ho, rfl⟩ F.entry_tuple_ne (F.args_tuple_ne_2 _ _) ?_) sb.room.units0
    exact tuple_ne2 (R := wants (fun v s' => v ≠ .notImplemented ∧ (v = .bool (xor true b) ∧ LoopS X pins σ B ρ G s')) X.xe) a a' _ _ m m2 dd dd2 sl sl2 _ _ (pairs_run (b := b) h sb r r2 a1 a2)
      (fun s' q => ⟨(fun z => nomatch z), by rw [(fb s' q).1, Bool.true_xor], (fb s' q).2⟩) (fun s' q => ⟨(fun z => nomatch z), by rw [q.2]; rfl, q.1⟩) ho ho2 st
theorem rc_own {x y : V} {u v : Value} {dx dy : D} {m : Fm} {dvs : List D} {b : Bool} (hT : EOk X.prog X.w X.K X.mg X.base k T) (tk : Takes X W) (sb : Sub X k A) (I : Inv X pins σ H s) (S : Stt X.K B ρ σ G H) (rx : RelV x u) (ry : RelV y v) (ax : At X.K G x dx) (ay : At X.K G y dy)
    (e : ownE T dx dy = some (m, dvs)) (hm : blR (m ([dx, dy] ++ dvs)) = some b) : ∃ a, u = .ref a ∧ x = .ref a ∧ wpAny (model X.prog X.w) A (richCompare .Eq u v) (fun r s' => r = .bool b ∧ LoopS X pins σ B ρ G s') X.xe s := by
  obtain ⟨c, a1, d1, fs, tb, rfl, rfl, ha, hTc, hb, hn⟩ := ownE_at hT I S.sub rx ry ax ay e
  obtain ⟨k1, k2, _⟩ := hT.ok c m dvs hTc
  obtain ⟨mA, J, _⟩ := ins_get I.hok ha
  obtain ⟨od, J, _⟩ := J.look
  obtain ⟨mL, hF⟩ := I.fr
  refine ⟨a1, rfl, rfl, PySem.W.cmp_K (op := .Eq) sb.room.units0 hF I.ok.mod.kin J hb hn k1.at_ k1.fn ?_⟩
  have q : PostE X.K B σ G W (fun v H' => v = .bl b ∧ ∃ G', Same G G' ∧ Stt X.K B ρ σ G' H') (callM m dvs [dx, dy] ρ) := by
    unfold callM
    rw [blR_of hm]
    intro v G' H' e S' av
    cases av
    exact ⟨rfl, G', e, S'⟩
  refine wpAny_mono (run_hasA (us := [.ref a1, v]) (vs := [.ref a1, y]) k2 tk sb.room sb.fr I S (.cons rfl (.cons ry .nil)) (.cons ax (.cons ay .nil)) q) (fun _ s' z => ?_) fun _ _ z => z
  obtain ⟨z, H', I', r, rfl, G', e', S'⟩ := z
  cases r
  exact ⟨rfl, G', H', I', e', S'⟩
end
theorem eqBool_ne {prog : Program} {w : World} {A : Around} {E : Value → Shared → Prop} {s : Shared} {a : Addr} {v : Value} {Q : Bool → Shared → Prop} (hne : Value.ref a ≠ v) (h : wpAny (model prog w) A (richCompare .Eq (.ref a) v) (fun v s' => ∃ r, v = .bool r ∧ Q r s') E s) : wpAny (model prog w) A (eqBool (.ref a) v) Q E s := by
  unfold eqBool
  refine wpAny_holding ?_
  refine wpAny_ite_split (fun hab => absurd (eq_of_beq hab) hne) (fun _ => ?_)
  refine wpAny_bind (wpAny_mono h (fun v s' hv => ?_) fun _ _ x => x)
  obtain ⟨r, rfl, q⟩ := hv
  exact wpAny_truthy_bool q
theorem rel_ref {x : V} {a : Addr} (r : RelV x (.ref a)) : x = .ref a := by
  cases x with
  | ref b => cases r; rfl
  | int i => obtain ⟨t, e⟩ := r; cases e
  | str i => obtain ⟨t, e⟩ := r; cases e
  | byt i => obtain ⟨t, e⟩ := r; cases e
  | flt i => obtain ⟨t, e⟩ := r; cases e
  | _ => cases r
section
variable {A : Around} {pins : List (Addr × Obj)} {s : Shared} {σ : L2.St} {B : Gd} {ρ : En} {G H : Hp} {x y : V} {u v : Value} {dx dy : D} {b : Bool}
/-- the same object, or a rich comparison -/
theorem eqB_of {a : Addr} (I : Inv X pins σ H s) (S : Stt X.K B ρ σ G H) (rx : RelV x (.ref a)) (ry : RelV y v) (ax : At X.K G x dx) (ay : At X.K G y dy) (hs : sameD dx dy = true → b = true)
    (h : wpAny (model X.prog X.w) A (richCompare .Eq (.ref a) v) (fun r s' => r = .bool b ∧ LoopS X pins σ B ρ G s') X.xe s) : wpAny (model X.prog X.w) A (eqBool (.ref a) v) (fun r s' => r = b ∧ LoopS X pins σ B ρ G s') X.xe s := by
  by_cases e : Value.ref a = v
  · subst e
    have e2 := rel_ref rx
    have e4 := rel_ref ry
    subst e2
    subst e4
    have e3 := hs (at_same I S.sub ax ay)
    exact SeqAt.EqAt.same (A := A) (s := s) (.ref a) X.prog X.w X.xe _ ⟨e3.symm, G, H, I, Same.refl _, S⟩
  · exact eqBool_ne e (wpAny_mono h (fun r s' q => ⟨b, q.1, rfl, q.2⟩) fun _ _ z => z)
theorem eqz_plain {p q : PyData} {c : Bool} (hr : A.units + 64 < cLine) (I : Inv X pins σ H s) (S : Stt X.K B ρ σ G H) (rx : RelV x u) (ry : RelV y v) (ax : At X.K G x dx) (ay : At X.K G y dy) (e : two_py dx dy = some (p, q))
    (h : (match SeqAt.shaped p && SeqAt.shaped q with
      | true => some (PyData.eqv p q)
      | false => none) = some b) : wpAny (model X.prog X.w) A (eqBool u v) (fun r s' => r = b ∧ LoopS X pins σ B ρ G s') X.xe s := by
  obtain ⟨t1, t2⟩ := two_of e
  cases ec : SeqAt.shaped p && SeqAt.shaped q with
  | false => rw [ec] at h; cases h
  | true =>
    rw [ec] at h
    cases h
    obtain ⟨c1, c2⟩ := Bool.and_eq_true_iff.mp ec
    obtain ⟨as, r1⟩ := Dp.reads I p x u (py_at S.sub ax t1) rx
    obtain ⟨bs, r2⟩ := Dp.reads I q y v (py_at S.sub ay t2) ry
    exact SeqAt.eqAt_reads p q A s u v as bs r1 r2 (SeqAt.canLay_of_shaped c1) (SeqAt.canLay_of_shaped c2) (SeqAt.room_of_shaped c1 hr) X.prog X.w X.xe _ ⟨rfl, G, H, I, Same.refl _, S⟩
theorem eqz_own {m : Fm} {dvs : List D} (hT : EOk X.prog X.w X.K X.mg X.base k T) (tk : Takes X W) (sb : Sub X k A) (I : Inv X pins σ H s) (S : Stt X.K B ρ σ G H) (rx : RelV x u) (ry : RelV y v) (ax : At X.K G x dx) (ay : At X.K G y dy)
    (e : ownE T dx dy = some (m, dvs)) (h : (blR (m ([dx, dy] ++ dvs))).bind (sureB dx dy) = some b) : wpAny (model X.prog X.w) A (eqBool u v) (fun r s' => r = b ∧ LoopS X pins σ B ρ G s') X.xe s := by
  cases hm : blR (m ([dx, dy] ++ dvs)) with
  | none => rw [hm] at h; cases h
  | some c =>
    rw [hm] at h
    obtain ⟨rfl, hs⟩ := sureB_of h
    obtain ⟨a, rfl, rfl, hw⟩ := rc_own hT tk sb I S rx ry ax ay e hm
    exact eqB_of I S rx ry ax ay hs hw
end
theorem eqz_run (hT : EOk X.prog X.w X.K X.mg X.base k T) (tk : Takes X W) : ∀ n, EqzAt X T n (k + n) := by
  intro n
  induction n with
  | zero =>
    intro A pins s σ B ρ G H x y u v dx dy b sb I S rx ry ax ay e
    unfold eqz at e
    cases e2 : two_py dx dy with
    | some z => rw [e2] at e; exact eqz_plain (c := b) sb.room.units I S rx ry ax ay e2 e
    | none =>
      rw [e2] at e
      cases eo : ownE T dx dy with
      | none => rw [eo] at e; cases e
      | some p => rw [eo] at e; exact eqz_own hT tk sb I S rx ry ax ay eo e
  | succ n ih =>
    intro A pins s σ B ρ G H x y u v dx dy b sb I S rx ry ax ay e
    unfold eqz at e
    cases e2 : two_py dx dy with
    | some z => rw [e2] at e; exact eqz_plain (c := b) sb.room.units I S rx ry ax ay e2 e
    | none =>
      rw [e2] at e
      cases eo : ownE T dx dy with
      | some p => rw [eo] at e; exact eqz_own hT tk (sb.mono (by omega)) I S rx ry ax ay eo e
      | none =>
        rw [eo] at e
        cases ax with
        | tup h t =>
          cases ay with
          | tup h2 t2 =>
            rename_i a1 vs1 ds1 a2 vs2 ds2
            have e' : (eqzs (eqz T n) ds1 ds2).bind (sureB (.tup ds1) (.tup ds2)) = some b := e
            cases ez : eqzs (eqz T n) ds1 ds2 with
            | none => rw [ez] at e'; cases e'
            | some c =>
              rw [ez] at e'
              obtain ⟨rfl, hs⟩ := sureB_of e'
              cases rx
              have hw := rc_tup2 (T := T) false ih sb I S h h2 t t2 ez
              cases ry
              exact eqB_of (x := .ref a1) (y := .ref a2) I S rfl rfl (.tup h t) (.tup h2 t2) hs (wpAny_mono hw (fun r s' q => ⟨by rw [q.1, Bool.false_xor], q.2⟩) fun _ _ z => z)
          | _ => cases e
        | _ => cases dy <;> cases e
/-- tuples by their items, of which some are objects -/
def eqT (T : MT) (n : Nat) (neg : Bool) (u : OpF) : OpF := fun x y => match x, y with
  | .tup xs, .tup ys => (match eqzs (eqz T n) xs ys with
    | some b => rt (.bl (xor neg b))
    | none => u x y)
  | _, _ => u x y
theorem opd_eqT {u : OpF} (n : Nat) (neg : Bool) (hT : EOk X.prog X.w X.K X.mg X.base j T) (tk : Takes X W) (hr : Room k X.A) (hj : j + n + 1 ≤ k) (hu : OpD X W (compareOp (bif neg then .NotEq else .Eq)) u) :
    OpD X W (compareOp (bif neg then .NotEq else .Eq)) (eqT T n neg u) := by
  intro pins s σ B ρ G H x y v w dx dy Q I S rx ry ax ay q
  unfold eqT at q
  split at q
  · rename_i xs ys
    cases ez : eqzs (eqz T n) xs ys with
    | none => rw [ez] at q; exact hu pins s σ B ρ G H x y v w _ _ Q I S rx ry ax ay q
    | some b =>
      rw [ez] at q
      cases ax with
      | tup h t =>
        cases ay with
        | tup h2 t2 =>
          cases rx
          cases ry
          have hw := rc_tup2 (A := X.A) (T := T) neg (eqz_run hT tk n) ⟨hr.mono hj, rfl⟩ I S h h2 t t2 ez
          have key : ∀ r s', (r = Value.bool (xor neg b) ∧ LoopS X pins σ B ρ G s') → EP X pins σ Q r s' := fun r s' z => by
            obtain ⟨rfl, G', H', I', e', S'⟩ := z
            exact ⟨.bl _, H', I', rfl, q (.bl _) G' H' e' S' (.bl _)⟩
          cases neg with
          | false => exact wpAny_mono hw key fun _ _ z => z
          | true => exact wpAny_mono hw key fun _ _ z => z
  · exact hu pins s σ B ρ G H x y v w _ _ Q I S rx ry ax ay q
theorem opd_eqT0 {u : OpF} (n : Nat) (hT : EOk X.prog X.w X.K X.mg X.base j T) (tk : Takes X W) (hr : Room k X.A) (hj : j + n + 1 ≤ k) (hu : OpD X W (compareOp .Eq) u) : OpD X W (compareOp .Eq) (eqT T n false u) := opd_eqT n false hT tk hr hj hu
theorem opd_neT {u : OpF} (n : Nat) (hT : EOk X.prog X.w X.K X.mg X.base j T) (tk : Takes X W) (hr : Room k X.A) (hj : j + n + 1 ≤ k) (hu : OpD X W (compareOp .NotEq) u) : OpD X W (compareOp .NotEq) (eqT T n true u) := opd_eqT n true hT tk hr hj hu
end
end DL


set_option Elab.async false
set_option linter.all false
set_option maxRecDepth 100000
set_option maxHeartbeats 4000000
/-! DL17: comprehensions of two for. -/
namespace DL
open PySem PySem.Spec PyProof.Rows L2
def lcF2 (vs vs1 : List Nat) (g : Tgm) (ft : M Bool) (fi1 : M (List D)) (g1 : Tgm) (ft1 : M Bool) (fe : M D) : List D → List D → En → Res (List D)
  | [], acc, ρ => .ok acc ρ
  | d :: ds, acc, ρ => match g d ρ with
    | none => .stuck
    | some ρ1 => (match ft ρ1 with
      | .ok true ρ2 => (match fi1 ρ2 with
        | .ok es ρ3 => (match lcF vs1 g1 ft1 fe es acc (wipeE ρ3 vs1) with
          | .ok l ρ4 => lcF2 vs vs1 g ft fi1 g1 ft1 fe ds l (wipeE ρ4 vs)
          | _ => .stuck)
        | _ => .stuck)
      | .ok false ρ2 => lcF2 vs vs1 g ft fi1 g1 ft1 fe ds acc (wipeE ρ2 vs)
      | _ => .stuck)
def lcM2 (vs vs1 : List Nat) (fi : M (List D)) (g : Tgm) (ft : M Bool) (fi1 : M (List D)) (g1 : Tgm) (ft1 : M Bool) (fe : M D) : M (List D) := fun ρ => match fi ρ with
  | .ok ds ρ1 => (match lcF2 vs vs1 g ft fi1 g1 ft1 fe ds [] (wipeE ρ1 vs) with
    | .ok l ρ2 => .ok l (mergeE ρ1 ρ2 vs)
    | _ => .stuck)
  | .er x ρ1 => .er x ρ1
  | .stuck => .stuck
theorem lc2_of {K : PySem.W.Frag} {W : WX} {vs vs1 is is1 : List Nat} {fi fi1 : M (List D)} {g g1 : Tgm} {ft ft1 : M Bool} {fe : M D} (hm : ∀ i ∈ is, i ∈ vs) (hm1 : ∀ i ∈ is1, i ∈ vs1) (hv : ∀ i ∈ vs1, i ∈ vs) {σ : L2.St} {H : Hp} {Q : VK}
    (h : tO K W (lcM2 vs vs1 fi g ft fi1 g1 ft1 fe) σ H Q) : tLc2 (tI K W fi) (tG K is g) (tT K WF ft) (tI K WF fi1) (tG K is1 g1) (tT K WF ft1) (tD K WF fe) vs vs1 σ H Q := by
  obtain ⟨B, ρ, G, S, q⟩ := h
  refine ⟨B, ρ, G, S, ?_⟩
  unfold lcM2 at q
  revert q
  cases fi ρ with
  | er x ρ1 => exact fun q c d G' H' e S' a => q c d G' H' e S' a
  | stuck => exact fun q => q
  | ok ds ρ1 =>
    intro q J G1 H1 e1 S1 Y aD hD
    dsimp only at q
    obtain ⟨f1, S2⟩ := S1.begin hD
    have S3 : Stt K (B.bld aD []) (wipeE ρ1 vs) (wipe σ vs) G1 (upd H1 aD (.lst [])) := S2.wiped wipe_idem
    let fin : Res (List D) → Res (List D) := fun r => match r with
      | .ok l ρ2 => .ok l (mergeE ρ1 ρ2 vs)
      | _ => .stuck
    let Pv : Nat → Hp → Prop := fun i H => ∃ (ρ : En) (G : Hp) (ws : List V) (acc : List D), Same G1 G ∧ Fresh B G aD ∧ Stt K (B.bld aD ws) ρ (wipe σ vs) G H ∧ Ats K G ws acc ∧ PostO K B σ G W Q (fin (lcF2 vs vs1 g ft fi1 g1 ft1 fe (ds.drop i) acc ρ))
    refine ⟨fun i m H => m = ds.length - i ∧ Pv i H, ⟨_, rfl, wipeE ρ1 vs, G1, [], [], Same.refl _, f1, S3, .nil, PostO.to e1 q⟩, ?_⟩
    rintro i m H' ⟨rfl, ρ, G2, ws, acc, e2, f2, S4, A4, q4⟩
    obtain ⟨y1, y2⟩ := Y i G2 H' e2 S4.sub
    cases ed : ds[i]? with
    | none =>
      have hl := List.getElem?_eq_none_iff.mp ed
      rw [List.drop_eq_nil_of_le hl] at q4
      have q5 : PostO K B σ G2 W Q (.ok acc (mergeE ρ1 ρ vs)) := q4
      obtain ⟨S5, h5, o5⟩ := S4.ended f2
      refine .inl ⟨y2 ed, q5 aD ws G2 H' (Same.refl _) (Stt.merged S1 S5 e2 wipe_idem) h5 f2.g f2.b f2.bb (fun j ys hj hs => ?_) A4⟩
      rcases mergeE_get hj with ⟨x, z, _⟩ | ⟨k1, k2⟩
      · cases z
      · refine o5 j ys k1 ?_
        rw [wipe_get, if_neg k2]
        exact hs
    | some d =>
      obtain ⟨hl, hd⟩ := List.getElem?_eq_some_iff.mp ed
      rw [List.drop_eq_getElem_cons hl, hd] at q4
      obtain ⟨go, yl⟩ := y1 d ed
      refine .inr ⟨go, Pv (i + 1), fun H'' z => ⟨ds.length - (i + 1), by omega, rfl, z⟩, fun x H'' hy => ?_⟩
      obtain ⟨G3, ex, ax⟩ := yl x H'' hy
      have S5 := S4.ext ex
      unfold lcF2 at q4
      cases eg : g d ρ with
      | none => rw [eg] at q4; exact q4.elim
      | some ρ5 =>
        rw [eg] at q4
        dsimp only at q4
        refine ⟨B.bld aD ws, ρ, G3, d, ρ5, S5, ax, eg, fun σ6 G6 H6 e6 S6 w6 => ⟨(wipe_sub w6 hm).trans wipe_idem, ?_⟩⟩
        have w6' : wipe σ6 vs = wipe σ vs := (wipe_sub w6 hm).trans wipe_idem
        have w6'' : wipe (wipe σ vs) vs = wipe σ6 vs := wipe_idem.trans w6'.symm
        refine ⟨B.bld aD ws, ρ5, G6, S6, ?_⟩
        revert q4
        cases ft ρ5 with
        | er x ρ7 => exact fun q => q.elim
        | stuck => exact fun q => q.elim
        | ok b ρ7 =>
          cases b with
          | false =>
            intro q7 G7 H7 e7 S7
            rw [if_neg Bool.false_ne_true]
            have eA := ((e2.trans ex.g).trans e6).trans e7
            exact ⟨wipeE ρ7 vs, G7, ws, acc, eA, f2.mono S7, S7.wiped w6'', A4.mono ((ex.g.trans e6).trans e7), PostO.to ((ex.g.trans e6).trans e7) q7⟩
          | true =>
            intro q7 G7 H7 e7 S7
            rw [if_pos rfl]
            refine ⟨B.bld aD ws, ρ7, G7, S7, ?_⟩
            dsimp only at q7
            revert q7
            cases fi1 ρ7 with
            | er x ρ8 => exact fun q => q.elim
            | stuck => exact fun q => q.elim
            | ok es ρ8 =>
              intro q8 J1 G8 H8 e8 S8 Y1
              dsimp only at q8
              have eB := ((ex.g.trans e6).trans e7).trans e8
              have S9 : Stt K (B.bld aD ws) (wipeE ρ8 vs1) (wipe σ6 vs1) G8 H8 := S8.wiped wipe_idem
              have wv : wipe (wipe σ6 vs1) vs = wipe σ6 vs := wipe_sub wipe_idem hv
              let out : Res (List D) → Res (List D) := fun r => match r with
                | .ok l ρ4 => fin (lcF2 vs vs1 g ft fi1 g1 ft1 fe (ds.drop (i + 1)) l (wipeE ρ4 vs))
                | _ => .stuck
              let Pw : Nat → Hp → Prop := fun j H => ∃ (ρ : En) (G : Hp) (ws : List V) (acc : List D), Same G8 G ∧ Fresh B G aD ∧ Stt K (B.bld aD ws) ρ (wipe σ6 vs1) G H ∧ Ats K G ws acc ∧ PostO K B σ G W Q (out (lcF vs1 g1 ft1 fe (es.drop j) acc ρ))
              have q9 : PostO K B σ G8 W Q (out (lcF vs1 g1 ft1 fe es acc (wipeE ρ8 vs1))) := by
                refine PostO.to eB ?_
                revert q8
                cases lcF vs1 g1 ft1 fe es acc (wipeE ρ8 vs1) with
                | ok l ρ9 => exact fun q => q
                | er x ρ9 => exact fun q => q
                | stuck => exact fun q => q
              refine ⟨fun j m H => m = es.length - j ∧ Pw j H, ⟨_, rfl, wipeE ρ8 vs1, G8, ws, acc, Same.refl _, f2.mono S8, S9, A4.mono eB, q9⟩, ?_⟩
              rintro j m HA ⟨rfl, ρA, GA, wsA, accA, eA2, fA, SA, AA, qA⟩
              obtain ⟨yA1, yA2⟩ := Y1 j GA HA eA2 SA.sub
              cases eed : es[j]? with
              | none =>
                have hl2 := List.getElem?_eq_none_iff.mp eed
                rw [List.drop_eq_nil_of_le hl2] at qA
                refine .inl ⟨yA2 eed, wipeE ρA vs, GA, wsA, accA, (e2.trans eB).trans eA2, fA, SA.wiped ?_, AA, qA⟩
                rw [wv]
                exact w6''
              | some d2 =>
                obtain ⟨hl2, hd2⟩ := List.getElem?_eq_some_iff.mp eed
                rw [List.drop_eq_getElem_cons hl2, hd2] at qA
                obtain ⟨go2, yl2⟩ := yA1 d2 eed
                refine .inr ⟨go2, Pw (j + 1), fun H'' z => ⟨es.length - (j + 1), by omega, rfl, z⟩, fun x HB hy => ?_⟩
                obtain ⟨GB, exB, axB⟩ := yl2 x HB hy
                have SB := SA.ext exB
                unfold lcF at qA
                cases eg1 : g1 d2 ρA with
                | none => rw [eg1] at qA; exact qA.elim
                | some ρB =>
                  rw [eg1] at qA
                  dsimp only at qA
                  refine ⟨B.bld aD wsA, ρA, GB, d2, ρB, SB, axB, eg1, fun σC GC HC eC SC wC => ⟨(wipe_sub wC hm1).trans wipe_idem, ?_⟩⟩
                  have wC' : wipe σC vs1 = wipe σ6 vs1 := (wipe_sub wC hm1).trans wipe_idem
                  have wC'' : wipe (wipe σ6 vs1) vs1 = wipe σC vs1 := wipe_idem.trans wC'.symm
                  refine ⟨B.bld aD wsA, ρB, GC, SC, ?_⟩
                  revert qA
                  cases ft1 ρB with
                  | er x ρ7 => exact fun q => q.elim
                  | stuck => exact fun q => q.elim
                  | ok b ρC =>
                    cases b with
                    | false =>
                      intro qC GD HD eD SD
                      rw [if_neg Bool.false_ne_true]
                      have eE := ((eA2.trans exB.g).trans eC).trans eD
                      exact ⟨wipeE ρC vs1, GD, wsA, accA, eE, fA.mono SD, SD.wiped wC'', AA.mono ((exB.g.trans eC).trans eD), PostO.to ((exB.g.trans eC).trans eD) qC⟩
                    | true =>
                      intro qC GD HD eD SD
                      rw [if_pos rfl]
                      refine ⟨B.bld aD wsA, ρC, GD, SD, ?_⟩
                      dsimp only at qC
                      revert qC
                      cases fe ρC with
                      | er x ρ8 => exact fun q => q.elim
                      | stuck => exact fun q => q.elim
                      | ok x ρD =>
                        intro qD v GE HE eE SE aE
                        dsimp only at qD
                        have eF := ((exB.g.trans eC).trans eD).trans eE
                        have AE := AA.mono eF
                        cases ec : Nat.blt accA.length 16777216 with
                        | false => rw [ec] at qD; exact qD.elim
                        | true =>
                          rw [ec] at qD
                          have fE := fA.mono SE
                          refine ⟨wsA, (SE.ended fE).2.1, ?_, wipeE ρD vs1, GE, wsA ++ [v], accA ++ [x], eA2.trans eF, fE, (Stt.grown fE SE).wiped wC'', AE.snoc aE, PostO.to eF qD⟩
                          rw [AE.length, sizeLine_eq]
                          exact Nat.le_of_ble_eq_true ec
section
variable {X : Cx} {W : WX} {k : Nat} {pos spos : Pos} {x : Str} {elt tg iter tg1 iter1 : Expr} {ifs ifs1 : List Expr} {scope : Scope} {is is1 vs1 : List Nat} {g g1 : Tgm} {fi fi1 : M (List D)} {ft ft1 : M Bool} {fe : M D}
theorem do_lc2 (b : Bd X W k) (hN : X.N.Nodup) (own : List (Str × Nat)) (vs1 : List Nat) (hi : DI X W tg iter fi) (ok : BlkOk X.N X.env.scope scope own)
    (hg : ∀ (s : Shared) (H : Hp) (C : Addr) (cl : List (Str × Addr)) (fp : List Addr), Bd (X.blk s H scope (compEnvC scope cl C X.env) fp) WF k → DG (X.blk s H scope (compEnvC scope cl C X.env) fp) tg is g)
    (ht : ∀ (s : Shared) (H : Hp) (C : Addr) (cl : List (Str × Addr)) (fp : List Addr), Bd (X.blk s H scope (compEnvC scope cl C X.env) fp) WF k → DTs (X.blk s H scope (compEnvC scope cl C X.env) fp) WF ifs ft)
    (hi1 : ∀ (s : Shared) (H : Hp) (C : Addr) (cl : List (Str × Addr)) (fp : List Addr), Bd (X.blk s H scope (compEnvC scope cl C X.env) fp) WF k → DI (X.blk s H scope (compEnvC scope cl C X.env) fp) WF tg1 iter1 fi1)
    (hg1 : ∀ (s : Shared) (H : Hp) (C : Addr) (cl : List (Str × Addr)) (fp : List Addr), Bd (X.blk s H scope (compEnvC scope cl C X.env) fp) WF k → DG (X.blk s H scope (compEnvC scope cl C X.env) fp) tg1 is1 g1)
    (ht1 : ∀ (s : Shared) (H : Hp) (C : Addr) (cl : List (Str × Addr)) (fp : List Addr), Bd (X.blk s H scope (compEnvC scope cl C X.env) fp) WF k → DTs (X.blk s H scope (compEnvC scope cl C X.env) fp) WF ifs1 ft1)
    (he : ∀ (s : Shared) (H : Hp) (C : Addr) (cl : List (Str × Addr)) (fp : List Addr), Bd (X.blk s H scope (compEnvC scope cl C X.env) fp) WF k → DE (X.blk s H scope (compEnvC scope cl C X.env) fp) WF elt fe)
    (hm : ∀ i ∈ is, i ∈ own.map (·.2) := by decide) (hm1 : ∀ i ∈ is1, i ∈ vs1 := by decide) (hv : ∀ i ∈ vs1, i ∈ own.map (·.2) := by decide) (hs : ∀ x, foldedSetIterable iter X.env x = pure x := by intro _; rfl) (hs1 : ∀ env x, foldedSetIterable iter1 env x = pure x := by intro _ _; rfl) :
    DO X W (.ListComp elt [⟨tg, iter, ifs, 0⟩, ⟨tg1, iter1, ifs1, 0⟩] scope pos) (lcM2 (own.map (·.2)) vs1 fi g ft fi1 g1 ft1 fe) :=
  PE.imp (pe_lc2 b.calm hN hi ok hv (fun s H C cl fp => hg s H C cl fp b.blk) (fun s H C cl fp => ht s H C cl fp b.blk) (fun s H C cl fp => hi1 s H C cl fp b.blk) (fun s H C cl fp => hg1 s H C cl fp b.blk) (fun s H C cl fp => ht1 s H C cl fp b.blk) (fun s H C cl fp => he s H C cl fp b.blk) hs hs1) fun σ H Q q => lc2_of hm hm1 hv q
theorem ds_lcO2 (i : Nat) {py : Pos} (b : Bd X W k) (hN : X.N.Nodup) (own : List (Str × Nat)) (vs1 : List Nat) (hi : DI X W tg iter fi) (ok : BlkOk X.N X.env.scope scope own)
    (hg : ∀ (s : Shared) (H : Hp) (C : Addr) (cl : List (Str × Addr)) (fp : List Addr), Bd (X.blk s H scope (compEnvC scope cl C X.env) fp) WF k → DG (X.blk s H scope (compEnvC scope cl C X.env) fp) tg is g)
    (ht : ∀ (s : Shared) (H : Hp) (C : Addr) (cl : List (Str × Addr)) (fp : List Addr), Bd (X.blk s H scope (compEnvC scope cl C X.env) fp) WF k → DTs (X.blk s H scope (compEnvC scope cl C X.env) fp) WF ifs ft)
    (hi1 : ∀ (s : Shared) (H : Hp) (C : Addr) (cl : List (Str × Addr)) (fp : List Addr), Bd (X.blk s H scope (compEnvC scope cl C X.env) fp) WF k → DI (X.blk s H scope (compEnvC scope cl C X.env) fp) WF tg1 iter1 fi1)
    (hg1 : ∀ (s : Shared) (H : Hp) (C : Addr) (cl : List (Str × Addr)) (fp : List Addr), Bd (X.blk s H scope (compEnvC scope cl C X.env) fp) WF k → DG (X.blk s H scope (compEnvC scope cl C X.env) fp) tg1 is1 g1)
    (ht1 : ∀ (s : Shared) (H : Hp) (C : Addr) (cl : List (Str × Addr)) (fp : List Addr), Bd (X.blk s H scope (compEnvC scope cl C X.env) fp) WF k → DTs (X.blk s H scope (compEnvC scope cl C X.env) fp) WF ifs1 ft1)
    (he : ∀ (s : Shared) (H : Hp) (C : Addr) (cl : List (Str × Addr)) (fp : List Addr), Bd (X.blk s H scope (compEnvC scope cl C X.env) fp) WF k → DE (X.blk s H scope (compEnvC scope cl C X.env) fp) WF elt fe)
    (hy : X.N[i]? = some x := by rfl) (hyl : X.env.scope.names.lookup x = some .local := by rfl) (hsw : swapsWith (.ListComp elt [⟨tg, iter, ifs, 0⟩, ⟨tg1, iter1, ifs1, 0⟩] scope pos) (some (.Name x py)) spos.line X.env = pure true := by rfl)
    (hm : ∀ i ∈ is, i ∈ own.map (·.2) := by decide) (hm1 : ∀ i ∈ is1, i ∈ vs1 := by decide) (hv : ∀ i ∈ vs1, i ∈ own.map (·.2) := by decide) (hs : ∀ x, foldedSetIterable iter X.env x = pure x := by intro _; rfl) (hs1 : ∀ env x, foldedSetIterable iter1 env x = pure x := by intro _ _; rfl) :
    DS X W (.Assign [.Name x py] (.ListComp elt [⟨tg, iter, ifs, 0⟩, ⟨tg1, iter1, ifs1, 0⟩] scope pos) spos) (setO i (lcM2 (own.map (·.2)) vs1 fi g ft fi1 g1 ft1 fe)) :=
  PS.imp (ps_setLc2 b.calm hN hy hyl hsw hi ok hv (fun s H C cl fp => hg s H C cl fp b.blk) (fun s H C cl fp => ht s H C cl fp b.blk) (fun s H C cl fp => hi1 s H C cl fp b.blk) (fun s H C cl fp => hg1 s H C cl fp b.blk) (fun s H C cl fp => ht1 s H C cl fp b.blk) (fun s H C cl fp => he s H C cl fp b.blk) hs hs1) fun D' σ H ⟨B, ρ, G, S, q⟩ =>
    lc2_of (Q := fun x H1 => gName i x σ H1 D'.nx) hm hm1 hv (tO_bdS S q fun a vs G1 H1 x ρ1 e1 S1 n q1 => q1 _ G1 H1 (Same.refl _) (S1.putO n))
end
end DL


set_option Elab.async false
set_option linter.all false
set_option maxRecDepth 100000
set_option maxHeartbeats 4000000
/-! DL18: isinstance with a tuple of classes; reversed lists and tuples. -/
namespace DL
open PySem PySem.Spec PyProof.Rows HT L2
/-! ### isinstance(x, (c1, c2, ..)) -/
def rIsiX (K : PySem.W.Frag) : List V → Hp → VK → Prop := fun xs H Q => ∃ (x : V) (tp : Addr) (cs : List V) (t : Value) (us : List Value) (b : Bool), xs = [x, .ref tp] ∧ SqT K H tp cs ∧ Paired ClsV cs us ∧ TyX K H x t ∧ PySem.W.kitAny K t us = some b ∧ Q (.bl b) H
theorem call_isiX {X : Cx} : CallR X (.builtin "isinstance") (rIsiX X.K) := by
  intro pins s σ H xs us Q I r h
  obtain ⟨x, tp, cs, t, ws, b, rfl, hT, k, ty, e, q⟩ := h
  obtain ⟨u1, u2, rfl, r1, r2⟩ := vals2 r
  cases (show u2 = Value.ref tp from r2)
  obtain ⟨P, Z, p, hx⟩ := kit_of I r1 ty
  obtain ⟨its, rv, ⟨o, h1, h2, n, h3⟩, _⟩ := I.tuple hT
  have e3 := ClsV.all k rv
  subst e3
  obtain ⟨oc, od, dt, sl⟩ := o
  simp only at h2 h3
  subst h2 h3
  exact PySem.W.kia_tup Z I.kIn p h1 e hx fun tk => ⟨.bl b, H, I.tok tk, rfl, q⟩
/-- any of the classes -/
def isiA (cl : List Str) (x : D) : List D → Option Bool
  | [] => some false
  | c :: cs => match isi cl x c with
    | some true => some true
    | some false => isiA cl x cs
    | none => none
/-- all of them are classes that the layer knows -/
def isiK (cl : List Str) (x : D) : List D → Bool
  | [] => true
  | c :: cs => (isi cl x c).isSome && isiK cl x cs
def tyK (x : D) : Bool := match x with
  | .glo _ => false
  | .ty _ => false
  | _ => true
def isiFT (cl : List Str) : List D → M D
  | [x, .tup cs] => match isiK cl x cs && !cs.isEmpty with
    | true => bd (optM (isiA cl x cs)) fun b => rt (.bl b)
    | false => stk
  | _ => stk
theorem isiA_run {K : PySem.W.Frag} {cl : List Str} {G H : Hp} {v : V} {x : D} {t : Value} (J : IOk K cl) (s : Same G H) (h : At K G v x) (ht : ∀ (cv : V) (c : D) (b : Bool), At K G cv c → isi cl x c = some b → ∃ u, ClsV cv u ∧ PySem.W.kitOne K t u = some b) :
    ∀ {cvs : List V} {cs : List D}, Ats K G cvs cs → isiK cl x cs = true → ∀ b, isiA cl x cs = some b → ∃ us, Paired ClsV cvs us ∧ PySem.W.kitAny K t us = some b
  | _, _, .nil, _, b, e => by cases e; exact ⟨[], .nil, kitAny_nil⟩
  | _, _, .cons (v := cv) (d := c) (vs := cvs) (ds := cs) a as, hk, b, e => by
    unfold isiK at hk
    obtain ⟨hk1, hk2⟩ := Bool.and_eq_true_iff.mp hk
    cases ec : isi cl x c with
    | none => rw [ec] at hk1; cases hk1
    | some b1 =>
      obtain ⟨u, k1, k2⟩ := ht cv c b1 a ec
      cases b1 with
      | true =>
        unfold isiA at e
        rw [ec] at e
        cases e
        -- the rest are classes too
        have rest : ∀ {cvs : List V} {cs : List D}, Ats K G cvs cs → isiK cl x cs = true → ∃ us, Paired ClsV cvs us := by
          intro cvs cs as
          induction cs generalizing cvs with
          | nil => intro _; cases as; exact ⟨[], .nil⟩
          | cons c cs ih =>
            intro hk
            cases as with
            | cons a as =>
              unfold isiK at hk
              obtain ⟨hk1, hk2⟩ := Bool.and_eq_true_iff.mp hk
              cases ec : isi cl x c with
              | none => rw [ec] at hk1; cases hk1
              | some b1 =>
                obtain ⟨u, k1, _⟩ := ht _ c b1 a ec
                obtain ⟨us, p⟩ := ih as hk2
                exact ⟨u :: us, .cons k1 p⟩
        obtain ⟨us, p⟩ := rest as hk2
        exact ⟨u :: us, .cons k1 p, kitAny_cons k2 (fun z => nomatch z) fun _ => rfl⟩
      | false =>
        unfold isiA at e
        rw [ec] at e
        obtain ⟨us, p, q⟩ := isiA_run J s h ht as hk2 b e
        exact ⟨u :: us, .cons k1 p, kitAny_cons k2 (fun _ => q) fun z => nomatch z⟩
/-- one type for all questions -/
theorem isi_ty {K : PySem.W.Frag} {cl : List Str} {G H : Hp} {v : V} {x : D} (J : IOk K cl) (s : Same G H) (h : At K G v x) {cv : V} {c : D} {b : Bool} (hc : At K G cv c) (e : isi cl x c = some b) :
    ∃ t, TyX K H v t ∧ ∀ (cv : V) (c : D) (b : Bool), At K G cv c → isi cl x c = some b → ∃ u, ClsV cv u ∧ PySem.W.kitOne K t u = some b := by
  cases x with
  | obj c0 fs =>
    have m : c0 ∈ cl := by
      cases c with
      | ty n =>
        have e' : (match cl.contains c0 && okN.contains n with
          | true => some false
          | false => none) = some b := e
        cases ec : cl.contains c0 && okN.contains n with
        | false => rw [ec] at e'; cases e'
        | true => exact contains_mem (Bool.and_eq_true_iff.mp ec).1
      | glo C =>
        have e' : (match cl.contains c0 && cl.contains C with
          | true => some (c0 == C)
          | false => none) = some b := e
        cases ec : cl.contains c0 && cl.contains C with
        | false => rw [ec] at e'; cases e'
        | true => exact contains_mem (Bool.and_eq_true_iff.mp ec).1
      | _ => cases e
    have own : TyX K H v (.ref (He.ga K c0)) := by
      cases h with
      | obj h1 h2 => exact .base (.ins (s _ _ h1) (J.cs _ m) (J.t1 _ m) J.t3 J.t4 (J.t2 _ m))
    refine ⟨_, own, fun cv c b hc e => ?_⟩
    cases hc with
    | ty n =>
      have e' : (match cl.contains c0 && okN.contains n with
        | true => some false
        | false => none) = some b := e
      cases ec : cl.contains c0 && okN.contains n with
      | false => rw [ec] at e'; cases e'
      | true =>
        rw [ec] at e'
        cases e'
        exact ⟨_, .ty n, J.ob _ m _ (containsS_mem (Bool.and_eq_true_iff.mp ec).2)⟩
    | glo C =>
      have e' : (match cl.contains c0 && cl.contains C with
        | true => some (c0 == C)
        | false => none) = some b := e
      cases ec : cl.contains c0 && cl.contains C with
      | false => rw [ec] at e'; cases e'
      | true =>
        rw [ec] at e'
        cases e'
        exact ⟨_, .own _, J.oo _ m _ (contains_mem (Bool.and_eq_true_iff.mp ec).2)⟩
    | _ => cases e
  | glo C => cases c <;> cases e
  | ty C => cases c <;> cases e
  | _ =>
    have key : ∀ {y : D} {a : String}, At K G v y → tnD y = some a → (∀ n, isi cl y (.ty n) = match tnD y, okN.contains n with | some a, true => some (isBB a n) | _, _ => none) → (∀ C, isi cl y (.glo C) = match tnD y, cl.contains C with | some _, true => some false | _, _ => none) →
        (∀ c, (∀ n, c ≠ .ty n) → (∀ C, c ≠ .glo C) → isi cl y c = none) →
        ∃ t, TyX K H v t ∧ ∀ (cv : V) (c : D) (b : Bool), At K G cv c → isi cl y c = some b → ∃ u, ClsV cv u ∧ PySem.W.kitOne K t u = some b := by
      intro y a h et h1 h2 h3
      obtain ⟨t1, t2⟩ := tn_at s h et
      refine ⟨_, t1, fun cv c b hc e => ?_⟩
      cases hc with
      | ty n =>
        rw [h1, et] at e
        cases eo : okN.contains n with
        | false => rw [eo] at e; cases e
        | true => rw [eo] at e; cases e; exact ⟨_, .ty n, kit_ty (by rw [isBB_ok a t2 n (containsS_mem eo)])⟩
      | glo C =>
        rw [h2, et] at e
        cases eo : cl.contains C with
        | false => rw [eo] at e; cases e
        | true => rw [eo] at e; cases e; exact ⟨_, .own _, J.bo a t2 C (contains_mem eo)⟩
      | _ => rw [h3 _ (by intro n z; cases z) (by intro n z; cases z)] at e; cases e
    exact key h rfl (fun n => rfl) (fun n => rfl) (fun c n1 n2 => by cases c <;> first | rfl | exact (n1 _ rfl).elim | exact (n2 _ rfl).elim)
theorem cd_isiT {X : Cx} {W : WX} {cl : List Str} (J : IOk X.K cl) : CallD X W (.builtin "isinstance") (isiFT cl) := CallD.of call_isiX fun B ρ σ G H vs ds Q S a q => by
  unfold isiFT at q
  split at q
  · rename_i x cs
    cases a with
    | cons h t =>
      cases t with
      | cons h2 t =>
        cases t
        cases ek : isiK cl x cs && !cs.isEmpty with
        | false => rw [ek] at q; exact q.elim
        | true =>
          rw [ek] at q
          obtain ⟨ek1, ek2⟩ := Bool.and_eq_true_iff.mp ek
          cases e : isiA cl x cs with
          | none => dsimp only at q; rw [e] at q; exact q.elim
          | some b =>
            dsimp only at q
            rw [e] at q
            cases h2 with
            | tup g1 g2 =>
              cases g2 with
              | nil => cases ek2
              | cons a1 as =>
                have ek1' := ek1
                unfold isiK at ek1'
                obtain ⟨hk1, _⟩ := Bool.and_eq_true_iff.mp ek1'
                obtain ⟨b1, e1⟩ := Option.isSome_iff_exists.mp hk1
                obtain ⟨t, ty, ht⟩ := isi_ty J S.sub h a1 e1
                obtain ⟨us, p, k⟩ := isiA_run J S.sub h ht (.cons a1 as) ek1 b e
                exact ⟨_, _, _, t, us, b, rfl, same_seqT S.sub g1, p, ty, k, now S q (.bl b)⟩
  · exact q.elim
/-! ### x[::-1] -/
section
variable {prog : Program} {w : World} {A : Around} {E : Value → Shared → Prop} {s : Shared}
theorem adjust_rev (n : Nat) : Builtin.Slice.sliceAdjust none none (-1) (n : Int) = ((n : Int) - 1, -1) := rfl
theorem places_rev (n : Nat) : Builtin.Slice.slicePlaces ((n : Int) - 1) (-1) (-1) = n := by
  unfold Builtin.Slice.slicePlaces
  have h1 : ¬ ((-1 : Int) > 0) := by omega
  simp only [h1, if_false]
  split
  · have e : ((n : Int) - 1 - -1 - 1) / (- -1) = (n : Int) - 1 := by
      rw [show (- -1 : Int) = 1 by decide, Int.ediv_one]; omega
    rw [e]; omega
  · omega
theorem sliceApplied_rev {sl : Addr} {vl vu vs : Value} {n : Nat} {Q : Int × Int × Nat → Shared → Prop} (hs : s.heap.IsSliceOf sl vl vu vs) (pl : IsPart vl none) (pu : IsPart vu none) (ps : IsPart vs (some (-1)))
    (h : Q ((n : Int) - 1, -1, n) s) : wpAny (model prog w) A (Builtin.Slice.sliceApplied (.ref sl) (pure (n : Int))) Q E s := by
  obtain ⟨os, hos, hcs, hds⟩ := id hs
  unfold Builtin.Slice.sliceApplied Builtin.Slice.sliceFields
  refine wpAny_bind (wpAny_bind (wpAny_field hos hds (x := vl) rfl (wpAny_bind (wpAny_field hos hds (x := vu) rfl (wpAny_bind (wpAny_field hos hds (x := vs) rfl (wpAny_pure ?_)))))))
  refine wpAny_bind (slicePart_ ps ?_)
  show wpAny _ _ (if ((-1 : Int) == 0) = true then _ else _) _ _ s
  rw [if_neg (by decide)]
  refine wpAny_bind (slicePart_ pl (wpAny_bind (slicePart_ pu (wpAny_bind (wpAny_pure ?_)))))
  show wpAny _ _ (pure ((n : Int) - 1, (-1 : Int), Builtin.Slice.slicePlaces ((n : Int) - 1) (-1) (-1))) _ _ s
  rw [places_rev]
  exact wpAny_pure h
theorem filterMap_same {α β : Type} {f g : α → Option β} : ∀ (l : List α), (∀ a ∈ l, f a = g a) → l.filterMap f = l.filterMap g
  | [], _ => rfl
  | a :: l, h => by rw [List.filterMap_cons, List.filterMap_cons, h a (by simp), filterMap_same l fun b hb => h b (List.mem_cons_of_mem _ hb)]
theorem pick_rev (xs : Array Value) : ((List.range xs.size).filterMap fun (m : Nat) => xs[(((xs.size : Int) - 1) + (m : Int) * (-1)).toNat]?).toArray = xs.toList.reverse.toArray := by
  rw [← PySem.W.krv_all xs, ← List.filterMap_reverse, ← PySem.W.krv_range, List.filterMap_map]
  refine congrArg List.toArray (filterMap_same _ fun k hk => ?_)
  have := List.mem_range.mp hk
  have e : (((xs.size : Int) - 1) + (k : Int) * (-1)).toNat = xs.size - 1 - k := by omega
  rw [e]; rfl
theorem getItem_tuple_rev {t sl : Addr} {items : Array Value} {vl vu vs : Value} {Q : Value → Shared → Prop} (ht : IsTup s.heap t items) (hs : s.heap.IsSliceOf sl vl vu vs) (pl : IsPart vl none) (pu : IsPart vu none) (ps : IsPart vs (some (-1)))
    (h : Q (.ref s.heap.objs.size) { s with heap := s.heap.push { cls := .type "tuple", data := .seq items.toList.reverse.toArray } }) (hsz : items.size ≤ sizeLine) : wpAny (model prog w) A (getItem (.ref t) (.ref sl)) Q E s := by
  have htake : sizeOk (.seq items.toList.reverse.toArray) := by
    show items.toList.reverse.toArray.size ≤ sizeLine
    rw [List.size_toArray, List.length_reverse, Array.length_toList]; exact hsz
  obtain ⟨os, hos, hcs, hds⟩ := id hs
  have hTs : s.TypeIs (.ref sl) "slice" := ⟨os, hos, hcs⟩
  unfold getItem
  try with_reducible refine wpAny_holding ?_
  first | refine wpAny_bind (wpAny_pure ?_) | skip
  refine wpAny_bind (wpAny_sequenceKey ht.typeIs (by decide) ?_)
  refine wpAny_bind (wpAny_callSpecial?_slot (name := Str.ofString "__getitem__") ht.typeIs PyProof.Rows.slot_tuple_getitem
    (wpAny_call_entry PyProof.Rows.slot_tuple_getitem ht.typeIs entry_tuple_getitem ?_ (args_tuple_getitem _ _)))
  show wpAny _ _ (Builtin.Tuple.tupleItemsOf (.ref t) >>= _) _ _ s
  refine wpAny_bind (tupleItemsOf_ ht ?_)
  refine wpAny_bind (wpAny_typeOf hTs ?_)
  rw [if_pos (by decide)]
  refine wpAny_bind (sliceApplied_rev hs pl pu ps ?_)
  have hno : ¬ (((items.size : Int) - 1 == 0 && (-1 : Int) == 1 && items.size == items.size) = true) := by simp
  show wpAny _ _ (if (((items.size : Int) - 1) == 0 && (-1 : Int) == 1 && items.size == items.size) = true then _ else _) _ _ s
  rw [if_neg hno, pick_rev]
  first
    | exact wpAny_bind (m := Builtin.Tuple.tupleExact _) (wpAny_newObj_type (wpAny_pure ⟨_, rfl, wpAny_pure h⟩) htake)
    | exact wpAny_bind (m := Builtin.Tuple.tupleExact _) (wpAny_newObj_type (wpAny_bind (wpAny_pure (wpAny_pure ⟨_, rfl, wpAny_pure h⟩))) htake)
    | exact wpAny_bind (wpAny_bind (m := Builtin.Tuple.tupleExact _) (wpAny_newObj_type (wpAny_pure (wpAny_pure ⟨_, rfl, wpAny_pure h⟩)) htake))
    | exact wpAny_bind (wpAny_bind (m := Builtin.Tuple.tupleExact _) (wpAny_newObj_type (wpAny_pure ⟨_, rfl, wpAny_pure h⟩) htake))
end
section
variable {X : Cx} {W : WX}
def tRevA (K : PySem.W.Frag) (te : TE) : TE := fun σ H Q => te σ H fun x H1 => (∃ a xs, x = .ref a ∧ SqL K H1 a xs ∧ ∀ p, H1 p = none → Q (.ref p) (upd H1 p (.lst xs.reverse))) ∨
  (∃ a xs, x = .ref a ∧ SqT K H1 a xs ∧ ∀ p, H1 p = none → Q (.ref p) (upd H1 p (.tup xs.reverse)))
theorem pe_revA {e : Expr} {te : TE} {k : Nat} {p1 p2 p3 pos : Pos} (he : PE X e te) : PE X (.Subscript e (.Slice none none (some (.UnaryOp .USub (.Constant (.int 1) k p1) p2)) p3) pos) (tRevA X.K te) := by
  refine ⟨fun pins s σ H Q I h => ?_⟩
  refine Subscript_ (thn (he.run pins s σ H _ I h) fun v s1 ⟨x, H1, I1, r1, q1⟩ => ?_)
  have hst : PO X (some (.UnaryOp .USub (.Constant (.int 1) k p1) p2)) (tPart (tUn (rU fun i => .int (-i)) (tC (.int 1)))) := po_some (pe_un un_neg pe_int)
  refine wpAny_Slice (thn (po_none.run pins s1 σ H1 (fun o H2 => o = none ∧ H2 = H1) I1 ⟨rfl, rfl⟩) fun vl s2 ⟨l, H2, I2, pl, el, e2⟩ => ?_)
  subst el e2
  refine thn (po_none.run pins s2 σ H2 (fun o H3 => o = none ∧ H3 = H2) I2 ⟨rfl, rfl⟩) fun vu s3 ⟨u, H3, I3, pu, eu, e3⟩ => ?_
  subst eu e3
  refine thn (hst.run pins s3 σ H3 (fun o H4 => o = some (-1) ∧ H4 = H3) I3 ⟨1, rfl, -1, rfl, rfl, rfl⟩) fun vs s4 ⟨o, H4, I4, ps, eo, e4⟩ => ?_
  subst eo e4
  have I5 : Inv X pins σ H4 { s4 with heap := s4.heap.push { cls := .type "slice", data := .fields #[vl, vu, vs] } } := I4.kept (t' := s4.toks) fun b ob q => Heap.get?_push_of_some _ q
  rcases q1 with ⟨a, xs, ex, hx, q⟩ | ⟨a, xs, ex, hx, q⟩
  · subst ex
    cases r1
    obtain ⟨its, r, ht, hz⟩ := I5.list hx
    have hlen := r.length
    show wpAny (model X.prog X.w) X.A (subscriptTail e (.Slice none none (some (.UnaryOp .USub (.Constant (.int 1) k p1) p2)) p3) (.ref a) (.ref s4.heap.objs.size)) (EP X pins σ Q) X.xe { s4 with heap := s4.heap.push { cls := .type "slice", data := .fields #[vl, vu, vs] } }
    refine tail_any (ops := [.ref a, .ref s4.heap.objs.size]) ht.isList.typeIs (PySem.slot_list_getitem.lookup) ?_ (by with_unfolding_all rfl)
    refine wpAny_getItem_list_slice ht.isList (Heap.IsSliceOf.new _ vl vu vs) pl pu ps (by decide) ?_ (by rw [List.size_toArray]; omega)
    rw [PySem.W.krv_pick]
    refine ⟨.ref _, _, I5.laid (t' := s4.toks) (o := .lst xs.reverse) (fun b ob q => Heap.get?_push_of_some _ q) (Nat.le_refl _) ?_, rfl, q _ (I5.hok.fresh (Nat.le_refl _))⟩
    exact ⟨by rw [List.length_reverse]; exact hz, _, 0, r.reverse, Heap.get?_push_size _ rfl⟩
  · subst ex
    cases r1
    obtain ⟨its, r, ht, hz⟩ := I5.tuple hx
    have hlen := r.length
    show wpAny (model X.prog X.w) X.A (subscriptTail e (.Slice none none (some (.UnaryOp .USub (.Constant (.int 1) k p1) p2)) p3) (.ref a) (.ref s4.heap.objs.size)) (EP X pins σ Q) X.xe { s4 with heap := s4.heap.push { cls := .type "slice", data := .fields #[vl, vu, vs] } }
    refine tail_any (ops := [.ref a, .ref s4.heap.objs.size]) ht.typeIs (PyProof.Rows.slot_tuple_getitem.lookup) ?_ (by with_unfolding_all rfl)
    refine getItem_tuple_rev ht (Heap.IsSliceOf.new _ vl vu vs) pl pu ps ?_ (by rw [List.size_toArray]; omega)
    refine ⟨.ref _, _, I5.laid (t' := s4.toks) (o := .tup xs.reverse) (fun b ob q => Heap.get?_push_of_some _ q) (Nat.le_refl _) ?_, rfl, q _ (I5.hok.fresh (Nat.le_refl _))⟩
    exact ⟨by rw [List.length_reverse]; exact hz, _, r.reverse, IsTup.new _ _⟩
def revD : D → Option D
  | .tup xs => some (.tup xs.reverse)
  | .lst xs => some (.lst xs.reverse)
  | .scr xs => some (.lst xs.reverse)
  | _ => none
def revM (f : M D) : M D := bd f fun x => optM (revD x)
theorem Ats.rev {K : PySem.W.Frag} {G : Hp} : ∀ {vs : List V} {ds : List D}, Ats K G vs ds → Ats K G vs.reverse ds.reverse := by
  intro vs ds a
  have app : ∀ {us : List V} {es : List D} {v : V} {d : D}, Ats K G us es → At K G v d → Ats K G (us ++ [v]) (es ++ [d]) := by
    intro us
    induction us with
    | nil => intro es v d a h; cases a; exact .cons h .nil
    | cons u us ih =>
      intro es v d a h
      cases a with
      | cons h1 a => exact .cons h1 (ih a h)
  induction vs generalizing ds with
  | nil => cases a; exact .nil
  | cons v vs ih =>
    cases a with
    | cons h a => rw [List.reverse_cons, List.reverse_cons]; exact app (ih a) h
theorem de_rev {e : Expr} {f : M D} {k : Nat} {p1 p2 p3 pos : Pos} (he : DE X W e f) : DE X W (.Subscript e (.Slice none none (some (.UnaryOp .USub (.Constant (.int 1) k p1) p2)) p3) pos) (revM f) :=
  PE.imp (pe_revA he) fun σ H Q ⟨B, ρ, G, S, q⟩ => tD_bdE S q fun v G1 H1 x ρ1 e1 S1 A1 q1 => by
    cases A1 with
    | tup h t => exact .inr ⟨_, _, rfl, same_seqT S1.sub h, fun p hp => PostE.tup S1 (show PostE _ _ _ _ _ _ (rt (.tup _) ρ1) from q1) (Ats.rev t) hp⟩
    | lst h t => exact .inl ⟨_, _, rfl, SqL.of (S1.sub _ _ h), fun p hp => PostE.lst S1 (show PostE _ _ _ _ _ _ (rt (.lst _) ρ1) from q1) (Ats.rev t) hp⟩
    | scr h t => exact .inl ⟨_, _, rfl, S1.sub.seq h, fun p hp => PostE.lst S1 (show PostE _ _ _ _ _ _ (rt (.lst _) ρ1) from q1) (Ats.rev t) hp⟩
    | _ => exact q1.elim
end
end DL


set_option Elab.async false
set_option linter.all false
set_option maxRecDepth 100000
set_option maxHeartbeats 4000000
/-! DL19: enumerate of a tuple. -/
namespace DL
open PySem PySem.Spec PyProof.Rows L2
open AutoSeq1 (wpAny_loadPart')
theorem newEnT (t : Addr) (items : Array Value) (n : Nat) (dct : Option Addr) (sl : Array (Option Value)) :
    Meets (Builtin.«enumerate.__new__» ⟨[.type "enumerate", .ref t], []⟩) (fun _ R s => s.heap.get? t = some { cls := .type "tuple", dict := dct, data := .seq items n, slots := sl } ∧
      R (.ok (.ret (.ref (s.heap.push { cls := .type "tuple_iterator", data := .fields #[.ref t, .int 0 0] }).objs.size)))
        { s with heap := (s.heap.push { cls := .type "tuple_iterator", data := .fields #[.ref t, .int 0 0] }).push { cls := .type "enumerate", data := .fields #[.none, .bool false, .ref s.heap.objs.size, rawInt 0, .none, .none] } }) :=
  .of_wp fun prog w A R s h => by
    obtain ⟨q0, q1, q2, q3, q4⟩ := s
    obtain ⟨ht, h⟩ := h
    have hsub := sub_enumerate
    have hT : Heap.IsTuple (Shared.heap ⟨q0, q1, q2, q3, q4⟩) t items := ⟨_, ht, rfl, n, rfl⟩
    wp_walk using wpAny_loadPart' ht
    refine wpAny_stack_any fun st => wpAny_pure ?_
    split
    · rename_i c _ _ _ _ _
      cases (c == Value.type "enumerate") <;>
      · wp_walk using wpAny_loadPart' ht, wpAny_pyIter_tuple hT
        exact ⟨_, rfl, h⟩
    · wp_walk using wpAny_loadPart' ht, wpAny_pyIter_tuple hT
      exact ⟨_, rfl, h⟩
section
variable {prog : Program} {w : World} {A : Around} {E : Value → Shared → Prop} {s : Shared}
theorem callEnT {t : Addr} {items : Array Value} {Q : Value → Shared → Prop} (hT : s.heap.IsTuple t items)
    (h : ∀ h', IsEnum h' (s.heap.objs.size + 1) s.heap.objs.size 0 .none → h'.IsTupleIter s.heap.objs.size t 0 → (∀ b o, s.heap.get? b = some o → h'.get? b = some o) → Q (.ref (s.heap.objs.size + 1)) { s with heap := h' }) :
    wpAny (model prog w) A (call (.type "enumerate") [.ref t]) Q E s := by
  obtain ⟨⟨c, dct, dt, sl⟩, ht, e1, n, e2⟩ := hT
  cases (show c = .type "tuple" from e1)
  cases (show dt = .seq items n from e2)
  refine callType_new F.called_enumerate (by decide) (F.typeCall_enumerate_1 _) (F.newCall_enumerate_1 _) (fun obj => F.args_object_init_2 obj _) F.entry_enumerate_new (newEnT t items n dct sl) ⟨ht, ?_⟩
  have z : (s.heap.push { cls := .type "tuple_iterator", data := .fields #[.ref t, .int 0 0] }).objs.size = s.heap.objs.size + 1 := Heap.size_push ..
  show _ ∧ _
  rw [z]
  have en : IsEnum ((s.heap.push { cls := .type "tuple_iterator", data := .fields #[.ref t, .int 0 0] }).push
      { cls := .type "enumerate", data := .fields #[.none, .bool false, .ref s.heap.objs.size, rawInt 0, .none, .none] }) (s.heap.objs.size + 1) s.heap.objs.size 0 .none := by
    have y := Heap.get?_push_size (s.heap.push { cls := .type "tuple_iterator", data := .fields #[.ref t, .int 0 0] })
      (o := { cls := .type "enumerate", data := .fields #[.none, .bool false, .ref s.heap.objs.size, rawInt 0, .none, .none] }) rfl
    rw [z] at y
    exact y
  refine ⟨⟨_, en, rfl⟩, h _ en ⟨_, Heap.get?_push_of_some _ (Heap.get?_push_size _ rfl), rfl, rfl⟩ ?_⟩
  intro b o x
  exact Heap.get?_push_of_some _ (Heap.get?_push_of_some _ x)
theorem endEnT {e it t : Addr} {i : Nat} {items : Array Value} {old : Value} {Q : Option Value → Shared → Prop} (hh : A.handled = none) (he : IsEnum s.heap e it i old) (hit : s.heap.IsTupleIter it t i) (ht : s.heap.IsTuple t items) (hx : items[i]? = none)
    (q : ∀ h', Heap.ExtBut it s.heap h' → Q none { s with heap := h' }) : wpAny (model prog w) A (pyNext (.ref e)) Q E s := by
  have ty : s.TypeIs (.ref e) "enumerate" := ⟨_, he, rfl⟩
  unfold pyNext
  refine wpAny_bind (wpAny_attempt (wpAny_callSpecial?_slot (name := Str.ofString "__next__") ty F.slot_enumerate_next (wpAny_call_entry F.slot_enumerate_next ty F.entry_enumerate_next ?_ (F.args_enumerate_next_1 _))))
  show wpAny _ _ (field (.ref e) 2 >>= _) _ _ _
  refine wpAny_bind (wpAny_field he rfl (x := .ref it) rfl (wpAny_bind (RZ.nextOf_tuple_end hh hit ht hx fun h' x k1 k2 => ?_)))
  obtain ⟨o, ho, hc⟩ := k2
  exact wpAny_bind (wpAny_isInstance (T := "StopIteration") (b := true) ⟨o, ho, hc⟩ isSubtype_stop (wpAny_pure (q _ k1)))
end
/-- the tuple at a, each item in a new pair -/
def IteT (K : PySem.W.Frag) (a : Addr) : It :=
  ⟨fun i H => ∃ (xs : List V) (x : V), SqT K H a xs ∧ xs[i]? = some x, fun i H v H' => ∃ T x, v = .ref T ∧ H T = none ∧ H' = upd H T (.tup [.int (i : Nat), x]) ∧ ∀ xs, SqT K H a xs → xs[i]? = some x, fun i H => ∃ xs : List V, SqT K H a xs ∧ xs.length ≤ i⟩
theorem turnEnT {P : Program} {w : World} {K : PySem.W.Frag} {elts : List Expr} {kk : Nat} {tpos : Pos} (a e it : Addr) (hai : a ≠ it) :
    Turn P w K (.Tuple elts kk tpos) (IteT K a) [e, it] e (fun i h => (∃ old, IsEnum h e it ((i : Nat) : Int) old) ∧ h.IsTupleIter it a i ∧ e ≠ it) where
  mem := by simp
  obj := fun i h st b hb => by
    obtain ⟨⟨old, he⟩, ⟨o, ho, hc, hd⟩, _⟩ := st
    rcases (show b = e ∨ b = it by simpa using hb) with z | z
    · rw [z]; exact ⟨_, he, fun v q => nomatch q⟩
    · rw [z]; exact ⟨o, ho, fun v q => by rw [hd] at q; cases q⟩
  keep := fun i h h' st k => by
    obtain ⟨⟨old, he⟩, hi, hne⟩ := st
    exact ⟨⟨old, k e (by simp) _ he⟩, hi.at fun o q => k it (by simp) o q, hne⟩
  item := by
    intro X hP hw hK hc i pins s σ H E I hf st hg
    subst hP hw hK
    obtain ⟨⟨old, he⟩, hit, hne⟩ := st
    obtain ⟨xs, x, hq, hx⟩ := hg
    obtain ⟨its, rv, p, hz⟩ := I.tuple hq
    obtain ⟨u, hu, ru⟩ := rv.get hx
    have hel : e < s.heap.objs.size := Heap.lt_size he
    have hil : it < s.heap.objs.size := by obtain ⟨_, q, _⟩ := hit; exact Heap.lt_size q
    have hT : s.heap.IsTuple a its.toArray := p
    by_cases hea : e = a
    · exfalso
      subst hea
      obtain ⟨o, ho, hcl, _⟩ := hT
      rw [show s.heap.get? e = _ from he] at ho
      cases ho
      have hcl : Value.type "enumerate" = Value.type "tuple" := hcl
      injection hcl with hcl
      exact absurd hcl (by decide)
    have hlen : i < its.toArray.size := by
      rw [List.size_toArray]
      exact (List.getElem?_eq_some_iff.mp hu).1
    refine wpAny_pyNext_enum_itemD (Draws.tuple (A := X.A.in1) (I.ok.hd hc) it a hai its.toArray) he ⟨hit, hT⟩ hlen hne (by simp [hne, hea]) fun y h' tk hP ho hit' hT2 hsz hk => ?_
    have hy : y = u := by
      have h1 : its.toArray[i]? = some u := by simpa using hu
      rw [h1] at hP
      exact (Option.some.inj hP).symm
    subst hy
    obtain ⟨hit', _⟩ := hit'
    refine ⟨_, rfl, wpAny_letOwnedTupleGo_enum (s := { s with heap := h', toks := tk + 1 }) ho fun h2 he2 sb => ?_⟩
    have hT3 : h2.get? s.heap.objs.size = some { cls := .type "tuple", data := .seq #[.int i tk, y] } := (sb.2 _ (Nat.ne_of_gt hel)).trans hT2
    have new : ObjOk X.prog X.w (upd H s.heap.objs.size (.tup [.int (i : Nat), x])) h2 s.heap.objs.size (.tup [.int (i : Nat), x]) :=
      ⟨by show 2 ≤ sizeLine; decide, [.int i tk, y], .cons ⟨_, rfl⟩ (.cons ru .nil), ⟨_, hT3, rfl, _, rfl⟩⟩
    have I1 : Inv X pins σ (upd H s.heap.objs.size (.tup [.int (i : Nat), x])) { s with heap := h2, toks := tk + 1 } :=
      I.turnedNew (ch := [e, it]) (fun b ob hb q => (sb.2 b (fun z => hb (by simp [z]))).trans (hk b ob (fun z => hb (by simp [z])) (fun z => hb (by simp [z])) q)) hf (Nat.le_refl _) new
    have inj : ∀ ys, SqT X.K H a ys → ys = xs := fun ys hy => I.tuple_inj hy hq
    refine ⟨.ref s.heap.objs.size, _, I1, rfl, ⟨_, x, rfl, I.hok.fresh (Nat.le_refl _), rfl, fun ys hy => by rw [inj ys hy]; exact hx⟩, ⟨⟨y, ?_⟩, hit'.at fun o q => (sb.2 it (Ne.symm hne)).trans q, hne⟩, fun b hb => ?_⟩
    · have e1 : ((i + 1 : Nat) : Int) = (i : Int) + 1 := by omega
      rw [e1]; exact he2
    · have hb' : b < s.heap.objs.size := by
        rcases (show b = e ∨ b = it by simpa using hb) with z | z
        · rw [z]; exact hel
        · rw [z]; exact hil
      rw [upd_ne (Nat.ne_of_lt hb')]
      exact (hf b hb).1
  done := by
    intro X hP hw hK hc i pins s σ H E I hf st hg
    subst hP hw hK
    obtain ⟨⟨old, he⟩, hit, hne⟩ := st
    obtain ⟨xs, hq, hx⟩ := hg
    obtain ⟨its, rv, p, hz⟩ := I.tuple hq
    obtain ⟨f0, f1, f2, f3, f4, f5⟩ := hf it (by simp)
    have hl := rv.length
    have hT : s.heap.IsTuple a its.toArray := p
    exact endEnT (I.ok.hd hc) he hit hT (by simp; omega) fun h' eb => ⟨rfl, I.turned (t' := s.toks) (fun b o hb q => eb b o hb q) f0 f1 f3 f4 f5⟩
  self := fun A i s Q E st h => let ⟨⟨_, he⟩, _⟩ := st; wpAny_pyIter_enum he h
def iEnumA (K : PySem.W.Frag) (ta : TA) : TI := fun σ H R => ta σ H fun vs H1 => (∃ a xs, vs = [.ref a] ∧ SqL K H1 a xs ∧ R (Ite K a) H1) ∨ (∃ a xs, vs = [.ref a] ∧ SqT K H1 a xs ∧ R (IteT K a) H1)
theorem pi_enumA {X : Cx} {e : Expr} {ta : TA} {p pos tpos : Pos} {elts : List Expr} {kk : Nat} (hg : Gl X "enumerate") (hm : X.mg "enumerate" = none) (ha : PA X [e] ta) (hs : starEach [e] X.env = [(false, eval e X.env)] := by rfl) :
    PI X (.Tuple elts kk tpos) (.Call (.Name "enumerate" p) [e] [] pos) (iEnumA X.K ta) := by
  refine ⟨fun pins s σ H R I h => ?_⟩
  refine Call_ (ld_blt I hg hm boot_enumerate (PyProof.Rows.callWith_type1 (thn (ha.run pos pins s σ H _ I h) fun us s1 ⟨vs, H1, I1, r1, q1⟩ => ?_) hs rfl))
  have fp : ∀ b ∈ [s1.heap.objs.size + 1, s1.heap.objs.size], FpOk X pins H1 b := by
    intro b hb
    have hle : s1.heap.objs.size ≤ b := by
      rcases (show b = s1.heap.objs.size + 1 ∨ b = s1.heap.objs.size by simpa using hb) with z | z <;> omega
    exact I1.fpOk hle (I1.hok.fresh hle)
  rcases q1 with ⟨a, xs, ex, hq, q⟩ | ⟨a, xs, ex, hq, q⟩
  · subst ex
    cases r1 with
    | cons r rr =>
      cases rr
      cases r
      obtain ⟨its, rv, p', hz⟩ := I1.list hq
      refine call_enumerate_list p'.isList fun h' he hit _ hk => wpAny_pyIter_enum he ?_
      exact ⟨s1.heap.objs.size + 1, [s1.heap.objs.size + 1, s1.heap.objs.size], _, _, H1, rfl, I1.kept (t' := s1.toks) hk, turn_enum a (s1.heap.objs.size + 1) s1.heap.objs.size, ⟨⟨.none, he⟩, hit, Nat.succ_ne_self _⟩, fp, q⟩
  · subst ex
    cases r1 with
    | cons r rr =>
      cases rr
      cases r
      obtain ⟨its, rv, p', hz⟩ := I1.tuple hq
      have hT : s1.heap.IsTuple a its.toArray := p'
      have hlt : a < s1.heap.objs.size := by obtain ⟨_, y, _⟩ := hT; exact Heap.lt_size y
      refine callEnT hT fun h' he hit hk => wpAny_pyIter_enum he ?_
      exact ⟨s1.heap.objs.size + 1, [s1.heap.objs.size + 1, s1.heap.objs.size], _, _, H1, rfl, I1.kept (t' := s1.toks) hk, turnEnT a (s1.heap.objs.size + 1) s1.heap.objs.size (Nat.ne_of_lt hlt), ⟨⟨.none, he⟩, hit, Nat.succ_ne_self _⟩, fp, q⟩
def enuF2 : List D → M (List D)
  | [.lst xs] => rt (enumD xs 0)
  | [.tup xs] => rt (enumD xs 0)
  | _ => stk
section
variable {X : Cx} {W : WX}
theorem di_enum2 {e : Expr} {fo : M (List D)} {p pos tpos : Pos} {elts : List Expr} {kk : Nat} (hg : Gl X "enumerate") (hm : X.mg "enumerate" = none) (ha : DA X W [e] fo) (hs : starEach [e] X.env = [(false, eval e X.env)] := by rfl) : DI X W (.Tuple elts kk tpos) (.Call (.Name "enumerate" p) [e] [] pos) (bd fo enuF2) :=
  PI.imp (pi_enumA hg hm ha hs) fun σ H R ⟨B, ρ, G, S, q⟩ => tA_bdI S q fun vs G1 H1 xs ρ1 e1 S1 A1 q1 => by
    have pair : ∀ {ys : List D} {vs : List V} {i : Nat} {d : D} {G2 H2 : Hp}, Ats X.K G1 vs ys → Same G1 G2 → Same G2 H2 → (enumD ys 0)[i]? = some d → ∃ (x : D) (v : V), ys[i]? = some x ∧ vs[i]? = some v ∧ d = .tup [.int (i : Nat), x] ∧ At X.K G2 v x := by
      intro ys vs i d G2 H2 t e2 s2 hd
      rw [enumD_get] at hd
      cases ex : ys[i]? with
      | none => rw [ex] at hd; cases hd
      | some x =>
        rw [ex] at hd
        cases hd
        obtain ⟨v, hv, av⟩ := t.get ex
        exact ⟨x, v, rfl, hv, by rw [show (0 + i : Nat) = i by omega], av.mono e2⟩
    have stop : ∀ {ys : List D} {vs : List V} {i : Nat}, Ats X.K G1 vs ys → (enumD ys 0)[i]? = none → vs.length ≤ i := by
      intro ys vs i t hn
      rw [enumD_get] at hn
      rw [t.length]
      cases ex : ys[i]? with
      | none => exact List.getElem?_eq_none_iff.mp ex
      | some x => rw [ex] at hn; cases hn
    unfold enuF2 at q1
    split at q1
    · cases A1 with
      | cons h1 t =>
        cases t
        cases h1 with
        | lst k1 t1 =>
          rename_i ys a vs
          refine .inl ⟨a, vs, rfl, SqL.of (S1.sub _ _ k1), q1 _ G1 H1 (Same.refl _) S1 fun i G2 H2 e2 s2 => ?_⟩
          have ha1 := SqL.of (K := X.K) (s2 _ _ (e2 _ _ k1))
          refine ⟨fun d hd => ?_, fun hn => ⟨vs, ha1, stop t1 hn⟩⟩
          obtain ⟨x, v, ex, hv, rfl, av⟩ := pair t1 e2 s2 hd
          refine ⟨⟨vs, v, ha1, hv⟩, fun z H' q => ?_⟩
          obtain ⟨T, v', rfl, hT, rfl, q1⟩ := q
          have e1 := q1 vs ha1
          rw [hv] at e1
          cases e1
          have en := Ext.new (o := .tup [.int ((i : Nat) : Int), v]) s2 hT
          exact ⟨_, en, .tup (SqT.of upd_same) (.cons (.int _) (.cons (av.mono en.g) .nil))⟩
    · cases A1 with
      | cons h1 t =>
        cases t
        cases h1 with
        | tup k1 t1 =>
          rename_i ys a vs
          refine .inr ⟨a, vs, rfl, same_seqT S1.sub k1, q1 _ G1 H1 (Same.refl _) S1 fun i G2 H2 e2 s2 => ?_⟩
          have ha1 := same_seqT s2 (same_seqT e2 k1)
          refine ⟨fun d hd => ?_, fun hn => ⟨vs, ha1, stop t1 hn⟩⟩
          obtain ⟨x, v, ex, hv, rfl, av⟩ := pair t1 e2 s2 hd
          refine ⟨⟨vs, v, ha1, hv⟩, fun z H' q => ?_⟩
          obtain ⟨T, v', rfl, hT, rfl, q1⟩ := q
          have e1 := q1 vs ha1
          rw [hv] at e1
          cases e1
          have en := Ext.new (o := .tup [.int ((i : Nat) : Int), v]) s2 hT
          exact ⟨_, en, .tup (SqT.of upd_same) (.cons (.int _) (.cons (av.mono en.g) .nil))⟩
    · exact q1.elim
end
end DL


set_option Elab.async false
set_option linter.all false
set_option maxRecDepth 100000
set_option maxHeartbeats 4000000
/-! DL20: int of a text. -/
namespace DL
open PySem PySem.Spec PyProof.Rows L2
def intF2 : List D → M D
  | [.int i] => rt (.int i)
  | [.bl k] => rt (.int (if k then 1 else 0))
  | [.str a] => match PySem.intText? a, Nat.ble a.length 640 with
    | some n, true => rt (.int n)
    | _, _ => stk
  | _ => stk
section
variable {X : Cx} {W : WX}
theorem call_int2 : CallR X (.type "int") (fun xs H Q => ((∃ i, xs = [.int i] ∧ Q (.int i) H) ∨ ∃ k, xs = [.bl k] ∧ Q (.int (if k then 1 else 0)) H) ∨ (∃ a n, xs = [.str a] ∧ PySem.intText? a = some n ∧ a.length ≤ 640 ∧ Q (.int n) H)) := by
  intro pins s σ H xs us Q I rs h
  rcases h with h | h
  · exact call_int1 pins s σ H xs us Q I rs h
  · exact call_int_str pins s σ H xs us Q I rs h
theorem cd_int2 : CallD X W (.type "int") intF2 := CallD.of call_int2 fun B ρ σ G H vs ds Q S a q => by
  unfold intF2 at q
  split at q
  · cases a.one_int
    exact .inl (.inl ⟨_, rfl, now S q (.int _)⟩)
  · cases a with
    | cons h t =>
      cases t; cases h
      exact .inl (.inr ⟨_, rfl, now S q (.int _)⟩)
  · cases a with
    | cons h t =>
      cases t; cases h
      rename_i a
      cases e : PySem.intText? a with
      | none => rw [e] at q; exact q.elim
      | some n =>
        cases e2 : Nat.ble a.length 640 with
        | false => rw [e, e2] at q; exact q.elim
        | true =>
          rw [e, e2] at q
          exact .inr ⟨a, n, rfl, e, Nat.ble_eq.mp e2, now S q (.int _)⟩
  · exact q.elim
end
end DL


set_option Elab.async false
set_option linter.all false
set_option maxRecDepth 100000
set_option maxHeartbeats 0
namespace G00
open PySem PySem.Spec PyProof.Rows L2 DL
def top (i : Nat) : Stmt := PySem.Challenge.pw_rootsheld_k00_whole_integers_and_ratios.main.body.getD i (.Pass ⟨0, 0, 0, 0⟩)
def subs : ST := [("Fault", "Malformed", false), ("Fault", "NoText", false), ("Fault", "Refused", false), ("Malformed", "Malformed", true), ("Malformed", "NoText", false), ("Malformed", "Refused", false), ("Refused", "Malformed", false), ("Refused", "NoText", false), ("Refused", "Refused", true), ("NoText", "Malformed", false), ("NoText", "NoText", true), ("NoText", "Refused", false)]
def vcls : List Str := ["Ratio"]
abbrev s_Refused__init : Stmt := inClass (top 3) 0
def d_Refused__init : He.DefD := ⟨("Refused", some "__init__"), "__init__", "Refused.__init__", defArgs s_Refused__init, defBody s_Refused__init, defScope s_Refused__init, [], []⟩
abbrev s_NoText__init : Stmt := inClass (top 4) 0
def d_NoText__init : He.DefD := ⟨("NoText", some "__init__"), "__init__", "NoText.__init__", defArgs s_NoText__init, defBody s_NoText__init, defScope s_NoText__init, [], []⟩
abbrev s_common : Stmt := top 9
def d_common : He.DefD := ⟨("common", none), "common", "common", defArgs s_common, defBody s_common, defScope s_common, [], []⟩
abbrev s_is_integer : Stmt := top 6
def d_is_integer : He.DefD := ⟨("is_integer", none), "is_integer", "is_integer", defArgs s_is_integer, defBody s_is_integer, defScope s_is_integer, [], []⟩
abbrev s_Ratio__init : Stmt := inClass (top 20) 0
def d_Ratio__init : He.DefD := ⟨("Ratio", some "__init__"), "__init__", "Ratio.__init__", defArgs s_Ratio__init, defBody s_Ratio__init, defScope s_Ratio__init, [.int 1], []⟩
abbrev s_Ratio_floor : Stmt := inClass (top 20) 13
def d_Ratio_floor : He.DefD := ⟨("Ratio", some "floor"), "floor", "Ratio.floor", defArgs s_Ratio_floor, defBody s_Ratio_floor, defScope s_Ratio_floor, [], []⟩
abbrev s_Ratio_is_whole : Stmt := inClass (top 20) 12
def d_Ratio_is_whole : He.DefD := ⟨("Ratio", some "is_whole"), "is_whole", "Ratio.is_whole", defArgs s_Ratio_is_whole, defBody s_Ratio_is_whole, defScope s_Ratio_is_whole, [], []⟩
abbrev s_Ratio_is_zero : Stmt := inClass (top 20) 11
def d_Ratio_is_zero : He.DefD := ⟨("Ratio", some "is_zero"), "is_zero", "Ratio.is_zero", defArgs s_Ratio_is_zero, defBody s_Ratio_is_zero, defScope s_Ratio_is_zero, [], []⟩
abbrev s_check_ratio : Stmt := top 21
def d_check_ratio : He.DefD := ⟨("check_ratio", none), "check_ratio", "check_ratio", defArgs s_check_ratio, defBody s_check_ratio, defScope s_check_ratio, [], []⟩
abbrev s_Ratio__mul : Stmt := inClass (top 20) 3
def d_Ratio__mul : He.DefD := ⟨("Ratio", some "__mul__"), "__mul__", "Ratio.__mul__", defArgs s_Ratio__mul, defBody s_Ratio__mul, defScope s_Ratio__mul, [], []⟩
abbrev s_Ratio_less : Stmt := inClass (top 20) 6
def d_Ratio_less : He.DefD := ⟨("Ratio", some "less"), "less", "Ratio.less", defArgs s_Ratio_less, defBody s_Ratio_less, defScope s_Ratio_less, [], []⟩
abbrev s_Ratio_over : Stmt := inClass (top 20) 8
def d_Ratio_over : He.DefD := ⟨("Ratio", some "over"), "over", "Ratio.over", defArgs s_Ratio_over, defBody s_Ratio_over, defScope s_Ratio_over, [], []⟩
abbrev s_Ratio__neg : Stmt := inClass (top 20) 4
def d_Ratio__neg : He.DefD := ⟨("Ratio", some "__neg__"), "__neg__", "Ratio.__neg__", defArgs s_Ratio__neg, defBody s_Ratio__neg, defScope s_Ratio__neg, [], []⟩
abbrev s_Ratio_sign : Stmt := inClass (top 20) 10
def d_Ratio_sign : He.DefD := ⟨("Ratio", some "sign"), "sign", "Ratio.sign", defArgs s_Ratio_sign, defBody s_Ratio_sign, defScope s_Ratio_sign, [], []⟩
abbrev s_Ratio_size : Stmt := inClass (top 20) 14
def d_Ratio_size : He.DefD := ⟨("Ratio", some "size"), "size", "Ratio.size", defArgs s_Ratio_size, defBody s_Ratio_size, defScope s_Ratio_size, [], []⟩
abbrev s_Ratio_times : Stmt := inClass (top 20) 9
def d_Ratio_times : He.DefD := ⟨("Ratio", some "times"), "times", "Ratio.times", defArgs s_Ratio_times, defBody s_Ratio_times, defScope s_Ratio_times, [], []⟩
abbrev s_law_make : Stmt := top 40
def d_law_make : He.DefD := ⟨("_law_make", none), "_law_make", "_law_make", defArgs s_law_make, defBody s_law_make, defScope s_law_make, [], []⟩
abbrev s_law_over : Stmt := top 39
def d_law_over : He.DefD := ⟨("_law_over", none), "_law_over", "_law_over", defArgs s_law_over, defBody s_law_over, defScope s_law_over, [], []⟩
abbrev s_sign_of : Stmt := top 13
def d_sign_of : He.DefD := ⟨("sign_of", none), "sign_of", "sign_of", defArgs s_sign_of, defBody s_sign_of, defScope s_sign_of, [], []⟩
abbrev s_changes : Stmt := top 14
def d_changes : He.DefD := ⟨("changes", none), "changes", "changes", defArgs s_changes, defBody s_changes, defScope s_changes, [], []⟩
abbrev s_choose : Stmt := top 12
def d_choose : He.DefD := ⟨("choose", none), "choose", "choose", defArgs s_choose, defBody s_choose, defScope s_choose, [], []⟩
abbrev s_common_of : Stmt := top 10
def d_common_of : He.DefD := ⟨("common_of", none), "common_of", "common_of", defArgs s_common_of, defBody s_common_of, defScope s_common_of, [], []⟩
abbrev s_is_count : Stmt := top 7
def d_is_count : He.DefD := ⟨("is_count", none), "is_count", "is_count", defArgs s_is_count, defBody s_is_count, defScope s_is_count, [], []⟩
abbrev s_is_ratio_row : Stmt := top 22
def d_is_ratio_row : He.DefD := ⟨("is_ratio_row", none), "is_ratio_row", "is_ratio_row", defArgs s_is_ratio_row, defBody s_is_ratio_row, defScope s_is_ratio_row, [], []⟩
abbrev s_is_whole_row : Stmt := top 8
def d_is_whole_row : He.DefD := ⟨("is_whole_row", none), "is_whole_row", "is_whole_row", defArgs s_is_whole_row, defBody s_is_whole_row, defScope s_is_whole_row, [], []⟩
abbrev s_Ratio__eq : Stmt := inClass (top 20) 5
def d_Ratio__eq : He.DefD := ⟨("Ratio", some "__eq__"), "__eq__", "Ratio.__eq__", defArgs s_Ratio__eq, defBody s_Ratio__eq, defScope s_Ratio__eq, [], []⟩
abbrev s_power : Stmt := top 11
def d_power : He.DefD := ⟨("power", none), "power", "power", defArgs s_power, defBody s_power, defScope s_power, [], []⟩
abbrev s_is_short : Stmt := top 15
def d_is_short : He.DefD := ⟨("is_short", none), "is_short", "is_short", defArgs s_is_short, defBody s_is_short, defScope s_is_short, [], []⟩
abbrev s_Ratio__str : Stmt := inClass (top 20) 7
def d_Ratio__str : He.DefD := ⟨("Ratio", some "__str__"), "__str__", "Ratio.__str__", defArgs s_Ratio__str, defBody s_Ratio__str, defScope s_Ratio__str, [], []⟩
abbrev s_read_ratio : Stmt := top 23
def d_read_ratio : He.DefD := ⟨("read_ratio", none), "read_ratio", "read_ratio", defArgs s_read_ratio, defBody s_read_ratio, defScope s_read_ratio, [], []⟩
abbrev s_read_ratios : Stmt := top 24
def d_read_ratios : He.DefD := ⟨("read_ratios", none), "read_ratios", "read_ratios", defArgs s_read_ratios, defBody s_read_ratios, defScope s_read_ratios, [], []⟩
abbrev s_digits_of : Stmt := top 16
def d_digits_of : He.DefD := ⟨("digits_of", none), "digits_of", "digits_of", defArgs s_digits_of, defBody s_digits_of, defScope s_digits_of, [], []⟩
abbrev s_row_text : Stmt := top 17
def d_row_text : He.DefD := ⟨("row_text", none), "row_text", "row_text", defArgs s_row_text, defBody s_row_text, defScope s_row_text, [], []⟩
abbrev s_law_told : Stmt := top 29
def d_law_told : He.DefD := ⟨("_law_told", none), "_law_told", "_law_told", defArgs s_law_told, defBody s_law_told, defScope s_law_told, [], []⟩
abbrev s_law_bads : Stmt := top 36
def d_law_bads : He.DefD := ⟨("_law_bads", none), "_law_bads", "_law_bads", defArgs s_law_bads, defBody s_law_bads, defScope s_law_bads, [], []⟩
abbrev s_Ratio__add : Stmt := inClass (top 20) 1
def d_Ratio__add : He.DefD := ⟨("Ratio", some "__add__"), "__add__", "Ratio.__add__", defArgs s_Ratio__add, defBody s_Ratio__add, defScope s_Ratio__add, [], []⟩
abbrev s_law_choices : Stmt := top 34
def d_law_choices : He.DefD := ⟨("_law_choices", none), "_law_choices", "_law_choices", defArgs s_law_choices, defBody s_law_choices, defScope s_law_choices, [], []⟩
abbrev s_law_common : Stmt := top 37
def d_law_common : He.DefD := ⟨("_law_common", none), "_law_common", "_law_common", defArgs s_law_common, defBody s_law_common, defScope s_law_common, [], []⟩
abbrev s_law_plain : Stmt := top 35
def d_law_plain : He.DefD := ⟨("_law_plain", none), "_law_plain", "_law_plain", defArgs s_law_plain, defBody s_law_plain, defScope s_law_plain, [], []⟩
abbrev s_law_same : Stmt := top 28
def d_law_same : He.DefD := ⟨("_law_same", none), "_law_same", "_law_same", defArgs s_law_same, defBody s_law_same, defScope s_law_same, [], []⟩
abbrev s_law_is_raised : Stmt := top 31
def d_law_is_raised : He.DefD := ⟨("_law_is_raised", none), "_law_is_raised", "_law_is_raised", defArgs s_law_is_raised, defBody s_law_is_raised, defScope s_law_is_raised, [], []⟩
abbrev s_law_raises : Stmt := top 33
def d_law_raises : He.DefD := ⟨("_law_raises", none), "_law_raises", "_law_raises", defArgs s_law_raises, defBody s_law_raises, defScope s_law_raises, [], []⟩
abbrev s_law_read : Stmt := top 38
def d_law_read : He.DefD := ⟨("_law_read", none), "_law_read", "_law_read", defArgs s_law_read, defBody s_law_read, defScope s_law_read, [], []⟩
abbrev s_law_state : Stmt := top 26
def d_law_state : He.DefD := ⟨("_law_state", none), "_law_state", "_law_state", defArgs s_law_state, defBody s_law_state, defScope s_law_state, [], []⟩
abbrev s_law_take : Stmt := top 27
def d_law_take : He.DefD := ⟨("_law_take", none), "_law_take", "_law_take", defArgs s_law_take, defBody s_law_take, defScope s_law_take, [], []⟩
abbrev s_law_is_told : Stmt := top 30
def d_law_is_told : He.DefD := ⟨("_law_is_told", none), "_law_is_told", "_law_is_told", defArgs s_law_is_told, defBody s_law_is_told, defScope s_law_is_told, [], []⟩
abbrev s_law_tells : Stmt := top 32
def d_law_tells : He.DefD := ⟨("_law_tells", none), "_law_tells", "_law_tells", defArgs s_law_tells, defBody s_law_tells, defScope s_law_tells, [], []⟩
abbrev s_Ratio__sub : Stmt := inClass (top 20) 2
def d_Ratio__sub : He.DefD := ⟨("Ratio", some "__sub__"), "__sub__", "Ratio.__sub__", defArgs s_Ratio__sub, defBody s_Ratio__sub, defScope s_Ratio__sub, [], []⟩
abbrev s_law : Stmt := top 41
def d_law : He.DefD := ⟨("law", none), "law", "law", defArgs s_law, defBody s_law, defScope s_law, [], []⟩
def fn : List He.DefD := [d_Refused__init, d_NoText__init, d_common, d_is_integer, d_Ratio__init, d_Ratio_floor, d_Ratio_is_whole, d_Ratio_is_zero, d_check_ratio, d_Ratio__mul, d_Ratio_less, d_Ratio_over, d_Ratio__neg, d_Ratio_sign, d_Ratio_size, d_Ratio_times, d_law_make, d_law_over, d_sign_of, d_changes, d_choose, d_common_of, d_is_count, d_is_ratio_row, d_is_whole_row, d_Ratio__eq, d_power, d_is_short, d_Ratio__str, d_read_ratio, d_read_ratios, d_digits_of, d_row_text, d_law_told, d_law_bads, d_Ratio__add, d_law_choices, d_law_common, d_law_plain, d_law_same, d_law_is_raised, d_law_raises, d_law_read, d_law_state, d_law_take, d_law_is_told, d_law_tells, d_Ratio__sub, d_law]
def ck : List (PySem.W.Frag → Bool) := [fa (.glo "Fault"),
  fun K => vokB K "Fault",
  fun K => xokB K "Refused" "reason",
  fun K => xokB K "NoText" "at",
  fa (.free "abs"),
  fa (.free "bool"),
  fun K => iokB K vcls,
  fa (.free "isinstance"),
  fa (.free "int"),
  fa (.glo "is_integer"),
  fa (.exc "Malformed"),
  fa (.glo "Malformed"),
  fa (.glo "Refused"),
  fa (.glo "common"),
  fa (.cls "Ratio"),
  fa (.noat "Ratio" "n"),
  fa (.noat "Ratio" "d"),
  fa (.glo "Ratio"),
  fa (.glo "check_ratio"),
  fa (.mkr "Ratio"),
  fa (.meth "Ratio" "__mul__"),
  fun K => PySem.W.selfFirst K (He.ga K "Ratio"),
  fa (.meth "Ratio" "over"),
  fa (.glo "sign_of"),
  fa (.free "zip"),
  fa (.free "len"),
  fa (.free "range"),
  fa (.free "all"),
  fa (.free "tuple"),
  fa (.glo "power"),
  fa (.glo "is_short"),
  fa (.meth "Ratio" "__eq__"),
  fun K => eokB K "Ratio",
  fun K => eooB K ["Ratio"],
  fa (.free "str"),
  fa (.int "MOST_SIGNS" 400),
  fa (.glo "NoText"),
  fa (.meth "Ratio" "__neg__"),
  fa (.meth "Ratio" "__str__"),
  fa (.glo "read_ratio"),
  fa (.glo "digits_of"),
  fun K => fxB K "Refused" "reason",
  fun K => sokB K subs,
  fa (.free "list"),
  fa (.glo "_law_told"),
  fa (.meth "Ratio" "__add__"),
  fa (.glo "_law_same"),
  fa (.glo "_law_is_raised"),
  fun K => fxB K "NoText" "at",
  fa (.glo "_law_is_told"),
  fa (.glo "_law_state"),
  fa (.glo "_law_take"),
  fa (.meth "Ratio" "__sub__"),
  fa (.glo "_law_common"),
  fa (.glo "_law_tells"),
  fa (.glo "common_of"),
  fa (.glo "choose"),
  fa (.glo "_law_choices"),
  fa (.glo "row_text"),
  fa (.glo "changes"),
  fa (.glo "is_ratio_row"),
  fa (.glo "is_whole_row"),
  fa (.glo "_law_plain"),
  fa (.glo "is_count"),
  fa (.meth "Ratio" "times"),
  fa (.meth "Ratio" "floor"),
  fa (.meth "Ratio" "less"),
  fa (.meth "Ratio" "size"),
  fa (.meth "Ratio" "is_whole"),
  fa (.meth "Ratio" "is_zero"),
  fa (.meth "Ratio" "sign"),
  fa (.glo "read_ratios"),
  fa (.glo "_law_read"),
  fa (.glo "_law_over"),
  fa (.glo "_law_raises"),
  fa (.glo "_law_bads"),
  fa (.glo "_law_make"),
  fa (.glo "law")]
section
variable {P : Program} {w : World} {K : PySem.W.Frag} {mg : Str → Option Value} {base : Heap}
theorem sc_Refused__init : FnScope ["self", "reason"] ["self", "reason"] (defScope s_Refused__init) := ⟨rfl, rfl, rfl, by decide +kernel, rfl, by decide +kernel, by decide +kernel⟩
theorem hx_Refused (e : Ev ck fn K mg base) : HasX P w K mg base 1 "Refused" "reason" := by
  obtain ⟨fd, F0⟩ := e.c.def_ 0
  refine ⟨xokB_ok (e.c.fact 2), fd, ["self", "reason"], fnX_ok (t2 := (tVar 1)) F0 sc_Refused__init rfl rfl (xokB_ok (e.c.fact 2)) (fun y a H Q h => ⟨y, rfl, h y⟩) (fun cdv A outer s H E => ?_), F0.bindsN (by intro _ _ _ _ _ _ us hl; exact match us, hl with | [_, _], _ => rfl)⟩
  exact pss_cons (ps_expr (pe_baseinit (vokB_ok (e.c.fact 1)) rfl (He.glo_ok e.kin e.ns (e.c.fact 0)) (pa_cons (pe_var rfl (.inl rfl)) (pa_cons (pe_var rfl (.inl rfl)) pa_nil)))) (pss_one (ps_ost (pe_var rfl (.inl rfl)) (pe_var rfl (.inl rfl))))
theorem sc_NoText__init : FnScope ["self", "at"] ["self", "at"] (defScope s_NoText__init) := ⟨rfl, rfl, rfl, by decide +kernel, rfl, by decide +kernel, by decide +kernel⟩
theorem hx_NoText (e : Ev ck fn K mg base) : HasX P w K mg base 1 "NoText" "at" := by
  obtain ⟨fd, F0⟩ := e.c.def_ 1
  refine ⟨xokB_ok (e.c.fact 3), fd, ["self", "at"], fnX_ok (t2 := (tC (.str "no text"))) F0 sc_NoText__init rfl rfl (xokB_ok (e.c.fact 3)) (fun y a H Q h => h _) (fun cdv A outer s H E => ?_), F0.bindsN (by intro _ _ _ _ _ _ us hl; exact match us, hl with | [_, _], _ => rfl)⟩
  exact pss_cons (ps_expr (pe_baseinit (vokB_ok (e.c.fact 1)) rfl (He.glo_ok e.kin e.ns (e.c.fact 0)) (pa_cons (pe_var rfl (.inl rfl)) (pa_cons pe_str pa_nil)))) (pss_one (ps_ost (pe_var rfl (.inl rfl)) (pe_var rfl (.inl rfl))))
theorem sc_common : FnScope ["a", "b"] ["a", "b"] (defScope s_common) := ⟨rfl, rfl, rfl, by decide +kernel, rfl, by decide +kernel, by decide +kernel⟩
def F_common : FS :=
  (seqS (par2 0 1 (consA (bd (consA (varD 0) (rt [])) absF) (consA (bd (consA (varD 1) (rt [])) absF) (rt []))))
  (seqS (whileS fuelE (bd (two (varD 1) (rt (.int 0)) gtI) boolM) (par2 0 1 (consA (varD 1) (consA (two (varD 0) (varD 1) (modI noO)) (rt [])))))
  (retS (varD 0))))
def m_common : Fm := fmOf 2 2 F_common
theorem ok_common (e : Ev ck fn K mg base) : ∃ fd, FunD K "common" "common" (defArgs s_common) (defBody s_common) (defScope s_common) (He.DefD.dvs K d_common) (He.DefD.kws K d_common) (He.ga K "common") fd ∧ FnOk P w K mg base (L2.CX P w) 1 (He.ga K "common") fd ["a", "b"] (spD K 2 (fmOf 2 2 F_common)) := by
  obtain ⟨fd, F0⟩ := e.c.def_ 2
  refine ⟨fd, F0, fn_ok F0 sc_common fun cdv A outer s H E b po => ?_⟩
  exact (dss_cons (ds_par2 0 1 b.calm sc_common.nd (da_cons (de_callB cd_abs rfl (He.free_ok e.kin e.ns (e.c.fact 4)) PyProof.Rows.Boot.«abs» (da_cons (de_var 0) da_nil)) (da_cons (de_callB cd_abs rfl (He.free_ok e.kin e.ns (e.c.fact 4)) PyProof.Rows.Boot.«abs» (da_cons (de_var 1) da_nil)) da_nil)))
  (dss_cons (ds_while fuelE po (dt_cmp opd_gt (de_var 1) de_int) (dss_one (ds_par2 0 1 b.calm sc_common.nd (da_cons (de_var 1) (da_cons (de_bin (opd_mod opd_no) (de_var 0) (de_var 1)) da_nil)))))
  (dss_one (ds_ret (de_var 0)))))
theorem h_common (e : Ev ck fn K mg base) : HasF P w K mg base 1 (He.ga K "common") [] m_common := hasF_of (ok_common e) (by intro _ _ _ _ _ _ us hl; exact match us, hl with | [_, _], _ => rfl)
theorem sc_is_integer : FnScope ["value"] ["value"] (defScope s_is_integer) := ⟨rfl, rfl, rfl, by decide +kernel, rfl, by decide +kernel, by decide +kernel⟩
def F_is_integer : FS :=
  (retS (andV (bd (consA (varD 0) (consA (rt (.ty "int")) (rt []))) (isiF vcls)) (notV (bd (consA (varD 0) (consA (rt (.ty "bool")) (rt []))) (isiF vcls)))))
def m_is_integer : Fm := fmOf 1 1 F_is_integer
theorem ok_is_integer (e : Ev ck fn K mg base) : ∃ fd, FunD K "is_integer" "is_integer" (defArgs s_is_integer) (defBody s_is_integer) (defScope s_is_integer) (He.DefD.dvs K d_is_integer) (He.DefD.kws K d_is_integer) (He.ga K "is_integer") fd ∧ FnOk P w K mg base (L2.CX P w) 1 (He.ga K "is_integer") fd ["value"] (spD K 1 (fmOf 1 1 F_is_integer)) := by
  obtain ⟨fd, F0⟩ := e.c.def_ 3
  refine ⟨fd, F0, fn_ok F0 sc_is_integer fun cdv A outer s H E b po => ?_⟩
  exact (dss_one (ds_ret (de_and (de_callB (cd_isi (iokB_ok (e.c.fact 6))) rfl (He.free_ok e.kin e.ns (e.c.fact 7)) PyProof.Rows.Boot.«isinstance» (da_cons (de_var 0) (da_cons (de_ty rfl (He.free_ok e.kin e.ns (e.c.fact 8)) PyProof.Rows.Boot.«int») da_nil))) (de_one (de_not (de_callB (cd_isi (iokB_ok (e.c.fact 6))) rfl (He.free_ok e.kin e.ns (e.c.fact 7)) PyProof.Rows.Boot.«isinstance» (da_cons (de_var 0) (da_cons (de_ty rfl (He.free_ok e.kin e.ns (e.c.fact 5)) PyProof.Rows.Boot.«bool») da_nil))))))))
theorem h_is_integer (e : Ev ck fn K mg base) : HasF P w K mg base 1 (He.ga K "is_integer") [] m_is_integer := hasF_of (ok_is_integer e) (by intro _ _ _ _ _ _ us hl; exact match us, hl with | [_], _ => rfl)
def Cn : CT := (ct1 "Ratio" ct0)
theorem Cn_F (e : Ev ck fn K mg base) : FOk K "n" Cn := (fok1 (He.cls_ok (e.c.fact 14)) (He.noat_ok (e.c.fact 15)) fok0)
def Cd : CT := (ct1 "Ratio" ct0)
theorem Cd_F (e : Ev ck fn K mg base) : FOk K "d" Cd := (fok1 (He.cls_ok (e.c.fact 14)) (He.noat_ok (e.c.fact 16)) fok0)
theorem sc_Ratio__init : FnScope ["self", "n", "d", "g"] ["self", "n", "d"] (defScope s_Ratio__init) := ⟨rfl, rfl, rfl, by decide +kernel, rfl, by decide +kernel, by decide +kernel⟩
def F_Ratio__init : FS :=
  (seqS (ifS (orM (notM (bd (bd (consA (varD 1) (rt [])) (callM m_is_integer [])) boolM)) (notM (bd (bd (consA (varD 2) (rt [])) (callM m_is_integer [])) boolM))) (raiseS "Malformed") nxS)
  (seqS (ifS (bd (two (varD 2) (rt (.int 0)) (eqP false noO)) boolM) (raiseX "Refused" "reason" (consA (rt (.str "zero")) (rt []))) nxS)
  (seqS (setS 3 (bd (consA (varD 1) (consA (varD 2) (rt []))) (callM m_common [])))
  (seqS (setF 0 Cn "n" (ifM (bd (two (varD 2) (rt (.int 0)) gtI) boolM) (two (varD 1) (varD 3) (fdivI noO)) (two (bd (varD 1) negD) (varD 3) (fdivI noO))))
  (setF 0 Cd "d" (two (bd (consA (varD 2) (rt [])) absF) (varD 3) (fdivI noO)))))))
def m_Ratio__init : FmB := fmB 3 4 F_Ratio__init
theorem ok_Ratio__init (e : Ev ck fn K mg base) : ∃ fd, FunD K "__init__" "Ratio.__init__" (defArgs s_Ratio__init) (defBody s_Ratio__init) (defScope s_Ratio__init) (He.DefD.dvs K d_Ratio__init) (He.DefD.kws K d_Ratio__init) (He.ma K (He.ga K "Ratio") "__init__") fd ∧ FnOk P w K mg base (L2.CX P w) 3 (He.ma K (He.ga K "Ratio") "__init__") fd ["self", "n", "d"] (spB K 3 (fmB 3 4 F_Ratio__init)) := by
  obtain ⟨fd, F0⟩ := e.c.def_ 4
  refine ⟨fd, F0, fnB_ok F0 sc_Ratio__init fun cdv A outer s H E b po => ?_⟩
  exact (dss_cons (ds_if (dt_pw (dt_or (dt_not (dt_val (de_call (h_is_integer e) b (by decide) rfl (He.glo_ok e.kin e.ns (e.c.fact 9)) (da_cons (de_var 1) da_nil)))) (dt_or1 (dt_not (dt_val (de_call (h_is_integer e) b (by decide) rfl (He.glo_ok e.kin e.ns (e.c.fact 9)) (da_cons (de_var 2) da_nil))))))) (dss_one (ds_raise b (e.c.fact 10) rfl (He.glo_ok e.kin e.ns (e.c.fact 11)))) dss_nil)
  (dss_cons (ds_if (dt_cmp (opd_eqP b.hr opd_no) (de_var 2) de_int) (dss_one (ds_raiseX b (hx_Refused e) (by decide) rfl (He.glo_ok e.kin e.ns (e.c.fact 12)) (da_cons de_str da_nil))) dss_nil)
  (dss_cons (ds_set 3 sc_Ratio__init.nd (de_call (h_common e) b (by decide) rfl (He.glo_ok e.kin e.ns (e.c.fact 13)) (da_cons (de_var 1) (da_cons (de_var 2) da_nil))))
  (dss_cons (ds_fld 0 (Cn_F e) (de_ifExp (dt_cmp opd_gt (de_var 2) de_int) (de_bin (opd_fdiv opd_no) (de_var 1) (de_var 3)) (de_bin (opd_fdiv opd_no) (de_un und_neg (de_var 1)) (de_var 3))))
  (dss_one (ds_fld 0 (Cd_F e) (de_bin (opd_fdiv opd_no) (de_callB cd_abs rfl (He.free_ok e.kin e.ns (e.c.fact 4)) PyProof.Rows.Boot.«abs» (da_cons (de_var 2) da_nil)) (de_var 3))))))))
theorem h_Ratio__init_2 (e : Ev ck fn K mg base) : HasB P w K mg base 3 (He.ma K (He.ga K "Ratio") "__init__") [(.int 1)] m_Ratio__init := hasB_dfl 2 0 (ok_Ratio__init e) (List.cons_ne_nil _ _) rfl (by intro _ _ _ _ _ _ _ us its h1 h2; exact match us, its, h1, h2 with | [u0, u1], [v0], _, _ => ⟨_, rfl, rfl⟩) (fun _ => (.cons (.int 1) .nil))
theorem h_Ratio__init (e : Ev ck fn K mg base) : HasB P w K mg base 3 (He.ma K (He.ga K "Ratio") "__init__") [] m_Ratio__init := hasB_dfl 3 1 (ok_Ratio__init e) (List.cons_ne_nil _ _) rfl (by intro _ _ _ _ _ _ _ us its h1 h2; exact match us, its, h1, h2 with | [u0, u1, u2], [v0], _, _ => ⟨_, rfl, rfl⟩) (fun _ => .nil)
theorem sc_Ratio_floor : FnScope ["self"] ["self"] (defScope s_Ratio_floor) := ⟨rfl, rfl, rfl, by decide +kernel, rfl, by decide +kernel, by decide +kernel⟩
def F_Ratio_floor : FS :=
  (retS (two (fldN 0 Cn "n") (fldN 0 Cd "d") (fdivI noO)))
def m_Ratio_floor : Fm := fmOf 1 1 F_Ratio_floor
theorem ok_Ratio_floor (e : Ev ck fn K mg base) : ∃ fd, FunD K "floor" "Ratio.floor" (defArgs s_Ratio_floor) (defBody s_Ratio_floor) (defScope s_Ratio_floor) (He.DefD.dvs K d_Ratio_floor) (He.DefD.kws K d_Ratio_floor) (He.ma K (He.ga K "Ratio") "floor") fd ∧ FnOk P w K mg base (L2.CX P w) 1 (He.ma K (He.ga K "Ratio") "floor") fd ["self"] (spD K 1 (fmOf 1 1 F_Ratio_floor)) := by
  obtain ⟨fd, F0⟩ := e.c.def_ 5
  refine ⟨fd, F0, fn_ok F0 sc_Ratio_floor fun cdv A outer s H E b po => ?_⟩
  exact (dss_one (ds_ret (de_bin (opd_fdiv opd_no) (de_fldN 0 (Cn_F e)) (de_fldN 0 (Cd_F e)))))
theorem h_Ratio_floor (e : Ev ck fn K mg base) : HasF P w K mg base 1 (He.ma K (He.ga K "Ratio") "floor") [] m_Ratio_floor := hasF_of (ok_Ratio_floor e) (by intro _ _ _ _ _ _ us hl; exact match us, hl with | [_], _ => rfl)
theorem sc_Ratio_is_whole : FnScope ["self"] ["self"] (defScope s_Ratio_is_whole) := ⟨rfl, rfl, rfl, by decide +kernel, rfl, by decide +kernel, by decide +kernel⟩
def F_Ratio_is_whole : FS :=
  (retS (two (fldN 0 Cd "d") (rt (.int 1)) (eqP false noO)))
def m_Ratio_is_whole : Fm := fmOf 1 1 F_Ratio_is_whole
theorem ok_Ratio_is_whole (e : Ev ck fn K mg base) : ∃ fd, FunD K "is_whole" "Ratio.is_whole" (defArgs s_Ratio_is_whole) (defBody s_Ratio_is_whole) (defScope s_Ratio_is_whole) (He.DefD.dvs K d_Ratio_is_whole) (He.DefD.kws K d_Ratio_is_whole) (He.ma K (He.ga K "Ratio") "is_whole") fd ∧ FnOk P w K mg base (L2.CX P w) 1 (He.ma K (He.ga K "Ratio") "is_whole") fd ["self"] (spD K 1 (fmOf 1 1 F_Ratio_is_whole)) := by
  obtain ⟨fd, F0⟩ := e.c.def_ 6
  refine ⟨fd, F0, fn_ok F0 sc_Ratio_is_whole fun cdv A outer s H E b po => ?_⟩
  exact (dss_one (ds_ret (de_cmp (opd_eqP b.hr opd_no) (de_fldN 0 (Cd_F e)) de_int)))
theorem h_Ratio_is_whole (e : Ev ck fn K mg base) : HasF P w K mg base 1 (He.ma K (He.ga K "Ratio") "is_whole") [] m_Ratio_is_whole := hasF_of (ok_Ratio_is_whole e) (by intro _ _ _ _ _ _ us hl; exact match us, hl with | [_], _ => rfl)
theorem sc_Ratio_is_zero : FnScope ["self"] ["self"] (defScope s_Ratio_is_zero) := ⟨rfl, rfl, rfl, by decide +kernel, rfl, by decide +kernel, by decide +kernel⟩
def F_Ratio_is_zero : FS :=
  (retS (two (fldN 0 Cn "n") (rt (.int 0)) (eqP false noO)))
def m_Ratio_is_zero : Fm := fmOf 1 1 F_Ratio_is_zero
theorem ok_Ratio_is_zero (e : Ev ck fn K mg base) : ∃ fd, FunD K "is_zero" "Ratio.is_zero" (defArgs s_Ratio_is_zero) (defBody s_Ratio_is_zero) (defScope s_Ratio_is_zero) (He.DefD.dvs K d_Ratio_is_zero) (He.DefD.kws K d_Ratio_is_zero) (He.ma K (He.ga K "Ratio") "is_zero") fd ∧ FnOk P w K mg base (L2.CX P w) 1 (He.ma K (He.ga K "Ratio") "is_zero") fd ["self"] (spD K 1 (fmOf 1 1 F_Ratio_is_zero)) := by
  obtain ⟨fd, F0⟩ := e.c.def_ 7
  refine ⟨fd, F0, fn_ok F0 sc_Ratio_is_zero fun cdv A outer s H E b po => ?_⟩
  exact (dss_one (ds_ret (de_cmp (opd_eqP b.hr opd_no) (de_fldN 0 (Cn_F e)) de_int)))
theorem h_Ratio_is_zero (e : Ev ck fn K mg base) : HasF P w K mg base 1 (He.ma K (He.ga K "Ratio") "is_zero") [] m_Ratio_is_zero := hasF_of (ok_Ratio_is_zero e) (by intro _ _ _ _ _ _ us hl; exact match us, hl with | [_], _ => rfl)
theorem sc_check_ratio : FnScope ["value"] ["value"] (defScope s_check_ratio) := ⟨rfl, rfl, rfl, by decide +kernel, rfl, by decide +kernel, by decide +kernel⟩
def F_check_ratio : FS :=
  (ifS (notM (bd (bd (consA (varD 0) (consA (rt (.glo "Ratio")) (rt []))) (isiF vcls)) boolM)) (raiseS "Malformed") nxS)
def m_check_ratio : Fm := fmOf 1 1 F_check_ratio
theorem ok_check_ratio (e : Ev ck fn K mg base) : ∃ fd, FunD K "check_ratio" "check_ratio" (defArgs s_check_ratio) (defBody s_check_ratio) (defScope s_check_ratio) (He.DefD.dvs K d_check_ratio) (He.DefD.kws K d_check_ratio) (He.ga K "check_ratio") fd ∧ FnOk P w K mg base (L2.CX P w) 1 (He.ga K "check_ratio") fd ["value"] (spD K 1 (fmOf 1 1 F_check_ratio)) := by
  obtain ⟨fd, F0⟩ := e.c.def_ 8
  refine ⟨fd, F0, fn_ok F0 sc_check_ratio fun cdv A outer s H E b po => ?_⟩
  exact (dss_one (ds_if (dt_not (dt_val (de_callB (cd_isi (iokB_ok (e.c.fact 6))) rfl (He.free_ok e.kin e.ns (e.c.fact 7)) PyProof.Rows.Boot.«isinstance» (da_cons (de_var 0) (da_cons (de_glo rfl (He.glo_ok e.kin e.ns (e.c.fact 17))) da_nil))))) (dss_one (ds_raise b (e.c.fact 10) rfl (He.glo_ok e.kin e.ns (e.c.fact 11)))) dss_nil))
theorem h_check_ratio (e : Ev ck fn K mg base) : HasF P w K mg base 1 (He.ga K "check_ratio") [] m_check_ratio := hasF_of (ok_check_ratio e) (by intro _ _ _ _ _ _ us hl; exact match us, hl with | [_], _ => rfl)
theorem sc_Ratio__mul : FnScope ["self", "other"] ["self", "other"] (defScope s_Ratio__mul) := ⟨rfl, rfl, rfl, by decide +kernel, rfl, by decide +kernel, by decide +kernel⟩
def F_Ratio__mul : FS :=
  (seqS (dropS (bd (consA (varD 1) (rt [])) (callM m_check_ratio [])))
  (retS (bd (consA (two (fldN 0 Cn "n") (fldN 1 Cn "n") (mulI noO)) (consA (two (fldN 0 Cd "d") (fldN 1 Cd "d") (mulI noO)) (rt []))) (makeM "Ratio" m_Ratio__init []))))
def m_Ratio__mul : Fm := fmOf 2 2 F_Ratio__mul
theorem ok_Ratio__mul (e : Ev ck fn K mg base) : ∃ fd, FunD K "__mul__" "Ratio.__mul__" (defArgs s_Ratio__mul) (defBody s_Ratio__mul) (defScope s_Ratio__mul) (He.DefD.dvs K d_Ratio__mul) (He.DefD.kws K d_Ratio__mul) (He.ma K (He.ga K "Ratio") "__mul__") fd ∧ FnOk P w K mg base (L2.CX P w) 5 (He.ma K (He.ga K "Ratio") "__mul__") fd ["self", "other"] (spD K 2 (fmOf 2 2 F_Ratio__mul)) := by
  obtain ⟨fd, F0⟩ := e.c.def_ 9
  refine ⟨fd, F0, fn_ok F0 sc_Ratio__mul fun cdv A outer s H E b po => ?_⟩
  exact (dss_cons (ds_expr (de_call (h_check_ratio e) b (by decide) rfl (He.glo_ok e.kin e.ns (e.c.fact 18)) (da_cons (de_var 1) da_nil)))
  (dss_one (ds_ret (de_make (He.mkr_ok (e.c.fact 19)) (h_Ratio__init e) b (by decide) rfl (He.glo_ok e.kin e.ns (e.c.fact 17)) (da_cons (de_bin (opd_mul opd_no) (de_fldN 0 (Cn_F e)) (de_fldN 1 (Cn_F e))) (da_cons (de_bin (opd_mul opd_no) (de_fldN 0 (Cd_F e)) (de_fldN 1 (Cd_F e))) da_nil))))))
theorem h_Ratio__mul (e : Ev ck fn K mg base) : HasF P w K mg base 5 (He.ma K (He.ga K "Ratio") "__mul__") [] m_Ratio__mul := hasF_of (ok_Ratio__mul e) (by intro _ _ _ _ _ _ us hl; exact match us, hl with | [_, _], _ => rfl)
def Tmul1 : MT := (mt1 "Ratio" m_Ratio__mul [] mt0)
theorem Tmul1_O (e : Ev ck fn K mg base) : OOk P w K mg base 5 "__mul__" Tmul1 := (ook1 (e.c.fact 21) (He.meth_ok (e.c.fact 20)) (h_Ratio__mul e) (by decide) ook0)
theorem sc_Ratio_less : FnScope ["self", "other"] ["self", "other"] (defScope s_Ratio_less) := ⟨rfl, rfl, rfl, by decide +kernel, rfl, by decide +kernel, by decide +kernel⟩
def F_Ratio_less : FS :=
  (seqS (dropS (bd (consA (varD 1) (rt [])) (callM m_check_ratio [])))
  (retS (two (two (fldN 0 Cn "n") (fldN 1 Cd "d") (mulI (ownO Tmul1 noO))) (two (fldN 1 Cn "n") (fldN 0 Cd "d") (mulI (ownO Tmul1 noO))) (cmpI (fun i j => decide (i < j)) (ltS noO)))))
def m_Ratio_less : Fm := fmOf 2 2 F_Ratio_less
theorem ok_Ratio_less (e : Ev ck fn K mg base) : ∃ fd, FunD K "less" "Ratio.less" (defArgs s_Ratio_less) (defBody s_Ratio_less) (defScope s_Ratio_less) (He.DefD.dvs K d_Ratio_less) (He.DefD.kws K d_Ratio_less) (He.ma K (He.ga K "Ratio") "less") fd ∧ FnOk P w K mg base (L2.CX P w) 6 (He.ma K (He.ga K "Ratio") "less") fd ["self", "other"] (spD K 2 (fmOf 2 2 F_Ratio_less)) := by
  obtain ⟨fd, F0⟩ := e.c.def_ 10
  refine ⟨fd, F0, fn_ok F0 sc_Ratio_less fun cdv A outer s H E b po => ?_⟩
  exact (dss_cons (ds_expr (de_call (h_check_ratio e) b (by decide) rfl (He.glo_ok e.kin e.ns (e.c.fact 18)) (da_cons (de_var 1) da_nil)))
  (dss_one (ds_ret (de_cmp (opd_cmpI op_lt (opd_ltS opd_no)) (de_bin (opd_mul (opd_own (Tmul1_O e) b.tk (b.hr.mono (by decide)) opd_no)) (de_fldN 0 (Cn_F e)) (de_fldN 1 (Cd_F e))) (de_bin (opd_mul (opd_own (Tmul1_O e) b.tk (b.hr.mono (by decide)) opd_no)) (de_fldN 1 (Cn_F e)) (de_fldN 0 (Cd_F e)))))))
theorem h_Ratio_less (e : Ev ck fn K mg base) : HasF P w K mg base 6 (He.ma K (He.ga K "Ratio") "less") [] m_Ratio_less := hasF_of (ok_Ratio_less e) (by intro _ _ _ _ _ _ us hl; exact match us, hl with | [_, _], _ => rfl)
theorem sc_Ratio_over : FnScope ["self", "other"] ["self", "other"] (defScope s_Ratio_over) := ⟨rfl, rfl, rfl, by decide +kernel, rfl, by decide +kernel, by decide +kernel⟩
def F_Ratio_over : FS :=
  (seqS (dropS (bd (consA (varD 1) (rt [])) (callM m_check_ratio [])))
  (retS (bd (consA (two (fldN 0 Cn "n") (fldN 1 Cd "d") (mulI (ownO Tmul1 noO))) (consA (two (fldN 0 Cd "d") (fldN 1 Cn "n") (mulI (ownO Tmul1 noO))) (rt []))) (makeM "Ratio" m_Ratio__init []))))
def m_Ratio_over : Fm := fmOf 2 2 F_Ratio_over
theorem ok_Ratio_over (e : Ev ck fn K mg base) : ∃ fd, FunD K "over" "Ratio.over" (defArgs s_Ratio_over) (defBody s_Ratio_over) (defScope s_Ratio_over) (He.DefD.dvs K d_Ratio_over) (He.DefD.kws K d_Ratio_over) (He.ma K (He.ga K "Ratio") "over") fd ∧ FnOk P w K mg base (L2.CX P w) 6 (He.ma K (He.ga K "Ratio") "over") fd ["self", "other"] (spD K 2 (fmOf 2 2 F_Ratio_over)) := by
  obtain ⟨fd, F0⟩ := e.c.def_ 11
  refine ⟨fd, F0, fn_ok F0 sc_Ratio_over fun cdv A outer s H E b po => ?_⟩
  exact (dss_cons (ds_expr (de_call (h_check_ratio e) b (by decide) rfl (He.glo_ok e.kin e.ns (e.c.fact 18)) (da_cons (de_var 1) da_nil)))
  (dss_one (ds_ret (de_make (He.mkr_ok (e.c.fact 19)) (h_Ratio__init e) b (by decide) rfl (He.glo_ok e.kin e.ns (e.c.fact 17)) (da_cons (de_bin (opd_mul (opd_own (Tmul1_O e) b.tk (b.hr.mono (by decide)) opd_no)) (de_fldN 0 (Cn_F e)) (de_fldN 1 (Cd_F e))) (da_cons (de_bin (opd_mul (opd_own (Tmul1_O e) b.tk (b.hr.mono (by decide)) opd_no)) (de_fldN 0 (Cd_F e)) (de_fldN 1 (Cn_F e))) da_nil))))))
theorem h_Ratio_over (e : Ev ck fn K mg base) : HasF P w K mg base 6 (He.ma K (He.ga K "Ratio") "over") [] m_Ratio_over := hasF_of (ok_Ratio_over e) (by intro _ _ _ _ _ _ us hl; exact match us, hl with | [_, _], _ => rfl)
theorem sc_Ratio__neg : FnScope ["self"] ["self"] (defScope s_Ratio__neg) := ⟨rfl, rfl, rfl, by decide +kernel, rfl, by decide +kernel, by decide +kernel⟩
def F_Ratio__neg : FS :=
  (retS (bd (consA (bd (fldN 0 Cn "n") negD) (consA (fldN 0 Cd "d") (rt []))) (makeM "Ratio" m_Ratio__init [])))
def m_Ratio__neg : Fm := fmOf 1 1 F_Ratio__neg
theorem ok_Ratio__neg (e : Ev ck fn K mg base) : ∃ fd, FunD K "__neg__" "Ratio.__neg__" (defArgs s_Ratio__neg) (defBody s_Ratio__neg) (defScope s_Ratio__neg) (He.DefD.dvs K d_Ratio__neg) (He.DefD.kws K d_Ratio__neg) (He.ma K (He.ga K "Ratio") "__neg__") fd ∧ FnOk P w K mg base (L2.CX P w) 5 (He.ma K (He.ga K "Ratio") "__neg__") fd ["self"] (spD K 1 (fmOf 1 1 F_Ratio__neg)) := by
  obtain ⟨fd, F0⟩ := e.c.def_ 12
  refine ⟨fd, F0, fn_ok F0 sc_Ratio__neg fun cdv A outer s H E b po => ?_⟩
  exact (dss_one (ds_ret (de_make (He.mkr_ok (e.c.fact 19)) (h_Ratio__init e) b (by decide) rfl (He.glo_ok e.kin e.ns (e.c.fact 17)) (da_cons (de_un und_neg (de_fldN 0 (Cn_F e))) (da_cons (de_fldN 0 (Cd_F e)) da_nil)))))
theorem h_Ratio__neg (e : Ev ck fn K mg base) : HasF P w K mg base 5 (He.ma K (He.ga K "Ratio") "__neg__") [] m_Ratio__neg := hasF_of (ok_Ratio__neg e) (by intro _ _ _ _ _ _ us hl; exact match us, hl with | [_], _ => rfl)
theorem sc_Ratio_sign : FnScope ["self"] ["self"] (defScope s_Ratio_sign) := ⟨rfl, rfl, rfl, by decide +kernel, rfl, by decide +kernel, by decide +kernel⟩
def F_Ratio_sign : FS :=
  (retS (ifM (bd (two (fldN 0 Cn "n") (rt (.int 0)) gtI) boolM) (rt (.int 1)) (ifM (bd (two (fldN 0 Cn "n") (rt (.int 0)) (cmpI (fun i j => decide (i < j)) (ltS noO))) boolM) (bd (rt (.int 1)) negD) (rt (.int 0)))))
def m_Ratio_sign : Fm := fmOf 1 1 F_Ratio_sign
theorem ok_Ratio_sign (e : Ev ck fn K mg base) : ∃ fd, FunD K "sign" "Ratio.sign" (defArgs s_Ratio_sign) (defBody s_Ratio_sign) (defScope s_Ratio_sign) (He.DefD.dvs K d_Ratio_sign) (He.DefD.kws K d_Ratio_sign) (He.ma K (He.ga K "Ratio") "sign") fd ∧ FnOk P w K mg base (L2.CX P w) 1 (He.ma K (He.ga K "Ratio") "sign") fd ["self"] (spD K 1 (fmOf 1 1 F_Ratio_sign)) := by
  obtain ⟨fd, F0⟩ := e.c.def_ 13
  refine ⟨fd, F0, fn_ok F0 sc_Ratio_sign fun cdv A outer s H E b po => ?_⟩
  exact (dss_one (ds_ret (de_ifExp (dt_cmp opd_gt (de_fldN 0 (Cn_F e)) de_int) de_int (de_ifExp (dt_cmp (opd_cmpI op_lt (opd_ltS opd_no)) (de_fldN 0 (Cn_F e)) de_int) (de_un und_neg de_int) de_int))))
theorem h_Ratio_sign (e : Ev ck fn K mg base) : HasF P w K mg base 1 (He.ma K (He.ga K "Ratio") "sign") [] m_Ratio_sign := hasF_of (ok_Ratio_sign e) (by intro _ _ _ _ _ _ us hl; exact match us, hl with | [_], _ => rfl)
theorem sc_Ratio_size : FnScope ["self"] ["self"] (defScope s_Ratio_size) := ⟨rfl, rfl, rfl, by decide +kernel, rfl, by decide +kernel, by decide +kernel⟩
def F_Ratio_size : FS :=
  (retS (bd (consA (bd (consA (fldN 0 Cn "n") (rt [])) absF) (consA (fldN 0 Cd "d") (rt []))) (makeM "Ratio" m_Ratio__init [])))
def m_Ratio_size : Fm := fmOf 1 1 F_Ratio_size
theorem ok_Ratio_size (e : Ev ck fn K mg base) : ∃ fd, FunD K "size" "Ratio.size" (defArgs s_Ratio_size) (defBody s_Ratio_size) (defScope s_Ratio_size) (He.DefD.dvs K d_Ratio_size) (He.DefD.kws K d_Ratio_size) (He.ma K (He.ga K "Ratio") "size") fd ∧ FnOk P w K mg base (L2.CX P w) 5 (He.ma K (He.ga K "Ratio") "size") fd ["self"] (spD K 1 (fmOf 1 1 F_Ratio_size)) := by
  obtain ⟨fd, F0⟩ := e.c.def_ 14
  refine ⟨fd, F0, fn_ok F0 sc_Ratio_size fun cdv A outer s H E b po => ?_⟩
  exact (dss_one (ds_ret (de_make (He.mkr_ok (e.c.fact 19)) (h_Ratio__init e) b (by decide) rfl (He.glo_ok e.kin e.ns (e.c.fact 17)) (da_cons (de_callB cd_abs rfl (He.free_ok e.kin e.ns (e.c.fact 4)) PyProof.Rows.Boot.«abs» (da_cons (de_fldN 0 (Cn_F e)) da_nil)) (da_cons (de_fldN 0 (Cd_F e)) da_nil)))))
theorem h_Ratio_size (e : Ev ck fn K mg base) : HasF P w K mg base 5 (He.ma K (He.ga K "Ratio") "size") [] m_Ratio_size := hasF_of (ok_Ratio_size e) (by intro _ _ _ _ _ _ us hl; exact match us, hl with | [_], _ => rfl)
theorem sc_Ratio_times : FnScope ["self", "k"] ["self", "k"] (defScope s_Ratio_times) := ⟨rfl, rfl, rfl, by decide +kernel, rfl, by decide +kernel, by decide +kernel⟩
def F_Ratio_times : FS :=
  (retS (bd (consA (two (fldN 0 Cn "n") (varD 1) (mulI (ownO Tmul1 noO))) (consA (fldN 0 Cd "d") (rt []))) (makeM "Ratio" m_Ratio__init [])))
def m_Ratio_times : Fm := fmOf 2 2 F_Ratio_times
theorem ok_Ratio_times (e : Ev ck fn K mg base) : ∃ fd, FunD K "times" "Ratio.times" (defArgs s_Ratio_times) (defBody s_Ratio_times) (defScope s_Ratio_times) (He.DefD.dvs K d_Ratio_times) (He.DefD.kws K d_Ratio_times) (He.ma K (He.ga K "Ratio") "times") fd ∧ FnOk P w K mg base (L2.CX P w) 6 (He.ma K (He.ga K "Ratio") "times") fd ["self", "k"] (spD K 2 (fmOf 2 2 F_Ratio_times)) := by
  obtain ⟨fd, F0⟩ := e.c.def_ 15
  refine ⟨fd, F0, fn_ok F0 sc_Ratio_times fun cdv A outer s H E b po => ?_⟩
  exact (dss_one (ds_ret (de_make (He.mkr_ok (e.c.fact 19)) (h_Ratio__init e) b (by decide) rfl (He.glo_ok e.kin e.ns (e.c.fact 17)) (da_cons (de_bin (opd_mul (opd_own (Tmul1_O e) b.tk (b.hr.mono (by decide)) opd_no)) (de_fldN 0 (Cn_F e)) (de_var 1)) (da_cons (de_fldN 0 (Cd_F e)) da_nil)))))
theorem h_Ratio_times (e : Ev ck fn K mg base) : HasF P w K mg base 6 (He.ma K (He.ga K "Ratio") "times") [] m_Ratio_times := hasF_of (ok_Ratio_times e) (by intro _ _ _ _ _ _ us hl; exact match us, hl with | [_, _], _ => rfl)
theorem sc_law_make : FnScope ["n", "d"] ["n", "d"] (defScope s_law_make) := ⟨rfl, rfl, rfl, by decide +kernel, rfl, by decide +kernel, by decide +kernel⟩
def F_law_make : FS :=
  (retS (bd (consA (varD 0) (consA (varD 1) (rt []))) (makeM "Ratio" m_Ratio__init [])))
def m_law_make : Fm := fmOf 2 2 F_law_make
theorem ok_law_make (e : Ev ck fn K mg base) : ∃ fd, FunD K "_law_make" "_law_make" (defArgs s_law_make) (defBody s_law_make) (defScope s_law_make) (He.DefD.dvs K d_law_make) (He.DefD.kws K d_law_make) (He.ga K "_law_make") fd ∧ FnOk P w K mg base (L2.CX P w) 5 (He.ga K "_law_make") fd ["n", "d"] (spD K 2 (fmOf 2 2 F_law_make)) := by
  obtain ⟨fd, F0⟩ := e.c.def_ 16
  refine ⟨fd, F0, fn_ok F0 sc_law_make fun cdv A outer s H E b po => ?_⟩
  exact (dss_one (ds_ret (de_make (He.mkr_ok (e.c.fact 19)) (h_Ratio__init e) b (by decide) rfl (He.glo_ok e.kin e.ns (e.c.fact 17)) (da_cons (de_var 0) (da_cons (de_var 1) da_nil)))))
theorem h_law_make (e : Ev ck fn K mg base) : HasF P w K mg base 5 (He.ga K "_law_make") [] m_law_make := hasF_of (ok_law_make e) (by intro _ _ _ _ _ _ us hl; exact match us, hl with | [_, _], _ => rfl)
def Tover1 : MT := (mt1 "Ratio" m_Ratio_over [] mt0)
theorem Tover1_M (e : Ev ck fn K mg base) : MOk P w K mg base 6 "over" Tover1 := (mok1 (He.cls_ok (e.c.fact 14)) (He.meth_ok (e.c.fact 22)) (h_Ratio_over e) (by decide) mok0)
theorem sc_law_over : FnScope ["x", "y"] ["x", "y"] (defScope s_law_over) := ⟨rfl, rfl, rfl, by decide +kernel, rfl, by decide +kernel, by decide +kernel⟩
def F_law_over : FS :=
  (retS (bd (varD 0) (methM "over" Tover1 (consA (varD 1) (rt [])))))
def m_law_over : Fm := fmOf 2 2 F_law_over
theorem ok_law_over (e : Ev ck fn K mg base) : ∃ fd, FunD K "_law_over" "_law_over" (defArgs s_law_over) (defBody s_law_over) (defScope s_law_over) (He.DefD.dvs K d_law_over) (He.DefD.kws K d_law_over) (He.ga K "_law_over") fd ∧ FnOk P w K mg base (L2.CX P w) 7 (He.ga K "_law_over") fd ["x", "y"] (spD K 2 (fmOf 2 2 F_law_over)) := by
  obtain ⟨fd, F0⟩ := e.c.def_ 17
  refine ⟨fd, F0, fn_ok F0 sc_law_over fun cdv A outer s H E b po => ?_⟩
  exact (dss_one (ds_ret (de_meth (de_var 0) (Tover1_M e) b (by decide) (da_cons (de_var 1) da_nil))))
theorem h_law_over (e : Ev ck fn K mg base) : HasF P w K mg base 7 (He.ga K "_law_over") [] m_law_over := hasF_of (ok_law_over e) (by intro _ _ _ _ _ _ us hl; exact match us, hl with | [_, _], _ => rfl)
theorem sc_sign_of : FnScope ["x"] ["x"] (defScope s_sign_of) := ⟨rfl, rfl, rfl, by decide +kernel, rfl, by decide +kernel, by decide +kernel⟩
def F_sign_of : FS :=
  (retS (ifM (bd (two (varD 0) (rt (.int 0)) gtI) boolM) (rt (.int 1)) (ifM (bd (two (varD 0) (rt (.int 0)) (cmpI (fun i j => decide (i < j)) (ltS noO))) boolM) (bd (rt (.int 1)) negD) (rt (.int 0)))))
def m_sign_of : Fm := fmOf 1 1 F_sign_of
theorem ok_sign_of (e : Ev ck fn K mg base) : ∃ fd, FunD K "sign_of" "sign_of" (defArgs s_sign_of) (defBody s_sign_of) (defScope s_sign_of) (He.DefD.dvs K d_sign_of) (He.DefD.kws K d_sign_of) (He.ga K "sign_of") fd ∧ FnOk P w K mg base (L2.CX P w) 1 (He.ga K "sign_of") fd ["x"] (spD K 1 (fmOf 1 1 F_sign_of)) := by
  obtain ⟨fd, F0⟩ := e.c.def_ 18
  refine ⟨fd, F0, fn_ok F0 sc_sign_of fun cdv A outer s H E b po => ?_⟩
  exact (dss_one (ds_ret (de_ifExp (dt_cmp opd_gt (de_var 0) de_int) de_int (de_ifExp (dt_cmp (opd_cmpI op_lt (opd_ltS opd_no)) (de_var 0) de_int) (de_un und_neg de_int) de_int))))
theorem h_sign_of (e : Ev ck fn K mg base) : HasF P w K mg base 1 (He.ga K "sign_of") [] m_sign_of := hasF_of (ok_sign_of e) (by intro _ _ _ _ _ _ us hl; exact match us, hl with | [_], _ => rfl)
theorem sc_changes : FnScope ["row", "signs", "x", "a", "b"] ["row"] (defScope s_changes) := ⟨rfl, rfl, rfl, by decide +kernel, rfl, by decide +kernel, by decide +kernel⟩
def F_changes : FS :=
  (seqS (setO 1 (lcM [2] (bd (varD 0) itms) (gNm 2) (bd (two (varD 2) (rt (.int 0)) (eqP true noO)) boolM) (bd (consA (varD 2) (rt [])) (callM m_sign_of []))))
  (retS (bd (consA (frzM (lcM [3, 4] (bd (consA (varD 1) (consA (slF (varD 1) (partF (rt (.int 1))) (rt none)) (rt []))) zipF) (gTp 2 (gC (gNm 3) (gC (gNm 4) gN0))) (bd (two (varD 3) (varD 4) (eqP true noO)) boolM) (rt (.int 1)))) (rt [])) lenF)))
def m_changes : Fm := fmOf 1 5 F_changes
theorem ok_changes (e : Ev ck fn K mg base) : ∃ fd, FunD K "changes" "changes" (defArgs s_changes) (defBody s_changes) (defScope s_changes) (He.DefD.dvs K d_changes) (He.DefD.kws K d_changes) (He.ga K "changes") fd ∧ FnOk P w K mg base (L2.CX P w) 2 (He.ga K "changes") fd ["row"] (spD K 1 (fmOf 1 5 F_changes)) := by
  obtain ⟨fd, F0⟩ := e.c.def_ 19
  refine ⟨fd, F0, fn_ok F0 sc_changes fun cdv A outer s H E b po => ?_⟩
  exact (dss_cons (ds_lcO 1 b sc_changes.nd [("x", 2)] (di_val (de_var 0)) (blk_of rfl) (fun _ _ _ _ _ bb => (dg_name 2 sc_changes.nd)) (fun _ _ _ _ _ bb => (dts_one (dt_cmp (opd_neP bb.hr opd_no) (de_var 2) de_int))) (fun _ _ _ _ _ bb => (de_call (h_sign_of e) bb (by decide) rfl (He.glo_ok e.kin e.ns (e.c.fact 23)) (da_cons (de_var 2) da_nil))))
  (dss_one (ds_ret (de_callB cd_len rfl (He.free_ok e.kin e.ns (e.c.fact 25)) PyProof.Rows.Boot.«len» (da_cons (de_frz (do_lc b sc_changes.nd [("a", 3), ("b", 4)] (di_zip rfl (He.free_ok e.kin e.ns (e.c.fact 24)) (da_cons (de_var 1) (da_cons (de_sl (de_var 1) (dp_some de_int) dp_none) da_nil))) (blk_of rfl) (fun _ _ _ _ _ bb => (dg_tup bb.calm (dgs_cons (is := [3]) (js := [4]) (ks := [3, 4]) (dg_name 3 sc_changes.nd) (dgs_cons (is := [4]) (js := []) (ks := [4]) (dg_name 4 sc_changes.nd) dgs_nil)))) (fun _ _ _ _ _ bb => (dts_one (dt_cmp (opd_neP bb.hr opd_no) (de_var 3) (de_var 4)))) (fun _ _ _ _ _ bb => de_int))) da_nil)))))
theorem h_changes (e : Ev ck fn K mg base) : HasF P w K mg base 2 (He.ga K "changes") [] m_changes := hasF_of (ok_changes e) (by intro _ _ _ _ _ _ us hl; exact match us, hl with | [_], _ => rfl)
theorem sc_choose : FnScope ["n", "k", "found", "j"] ["n", "k"] (defScope s_choose) := ⟨rfl, rfl, rfl, by decide +kernel, rfl, by decide +kernel, by decide +kernel⟩
def F_choose : FS :=
  (seqS (setS 2 (rt (.int 1)))
  (seqS (forS (bd (consA (varD 1) (rt [])) rngF1) (gNm 3) (setS 2 (two (two (varD 2) (two (varD 0) (varD 3) (subI noO)) (mulI (ownO Tmul1 noO))) (two (varD 3) (rt (.int 1)) (addI (addS (addT noO)))) (fdivI noO))))
  (retS (varD 2))))
def m_choose : Fm := fmOf 2 4 F_choose
theorem ok_choose (e : Ev ck fn K mg base) : ∃ fd, FunD K "choose" "choose" (defArgs s_choose) (defBody s_choose) (defScope s_choose) (He.DefD.dvs K d_choose) (He.DefD.kws K d_choose) (He.ga K "choose") fd ∧ FnOk P w K mg base (L2.CX P w) 6 (He.ga K "choose") fd ["n", "k"] (spD K 2 (fmOf 2 4 F_choose)) := by
  obtain ⟨fd, F0⟩ := e.c.def_ 20
  refine ⟨fd, F0, fn_ok F0 sc_choose fun cdv A outer s H E b po => ?_⟩
  exact (dss_cons (ds_set 2 sc_choose.nd de_int)
  (dss_cons (ds_for po b.calm (di_rng1 rfl (He.free_ok e.kin e.ns (e.c.fact 26)) (da_cons (de_var 1) da_nil)) (dg_name 3 sc_choose.nd) (dss_one (ds_set 2 sc_choose.nd (de_bin (opd_fdiv opd_no) (de_bin (opd_mul (opd_own (Tmul1_O e) b.tk (b.hr.mono (by decide)) opd_no)) (de_var 2) (de_bin (opd_sub opd_no) (de_var 0) (de_var 3))) (de_bin (opd_add (opd_addS (opd_addT opd_no))) (de_var 3) de_int)))))
  (dss_one (ds_ret (de_var 2)))))
theorem h_choose (e : Ev ck fn K mg base) : HasF P w K mg base 6 (He.ga K "choose") [] m_choose := hasF_of (ok_choose e) (by intro _ _ _ _ _ _ us hl; exact match us, hl with | [_, _], _ => rfl)
theorem sc_common_of : FnScope ["row", "found", "x"] ["row"] (defScope s_common_of) := ⟨rfl, rfl, rfl, by decide +kernel, rfl, by decide +kernel, by decide +kernel⟩
def F_common_of : FS :=
  (seqS (setS 1 (rt (.int 0)))
  (seqS (forS (bd (varD 0) itms) (gNm 2) (setS 1 (bd (consA (varD 1) (consA (varD 2) (rt []))) (callM m_common []))))
  (retS (varD 1))))
def m_common_of : Fm := fmOf 1 3 F_common_of
theorem ok_common_of (e : Ev ck fn K mg base) : ∃ fd, FunD K "common_of" "common_of" (defArgs s_common_of) (defBody s_common_of) (defScope s_common_of) (He.DefD.dvs K d_common_of) (He.DefD.kws K d_common_of) (He.ga K "common_of") fd ∧ FnOk P w K mg base (L2.CX P w) 2 (He.ga K "common_of") fd ["row"] (spD K 1 (fmOf 1 3 F_common_of)) := by
  obtain ⟨fd, F0⟩ := e.c.def_ 21
  refine ⟨fd, F0, fn_ok F0 sc_common_of fun cdv A outer s H E b po => ?_⟩
  exact (dss_cons (ds_set 1 sc_common_of.nd de_int)
  (dss_cons (ds_for po b.calm (di_val (de_var 0)) (dg_name 2 sc_common_of.nd) (dss_one (ds_set 1 sc_common_of.nd (de_call (h_common e) b (by decide) rfl (He.glo_ok e.kin e.ns (e.c.fact 13)) (da_cons (de_var 1) (da_cons (de_var 2) da_nil))))))
  (dss_one (ds_ret (de_var 1)))))
theorem h_common_of (e : Ev ck fn K mg base) : HasF P w K mg base 2 (He.ga K "common_of") [] m_common_of := hasF_of (ok_common_of e) (by intro _ _ _ _ _ _ us hl; exact match us, hl with | [_], _ => rfl)
theorem sc_is_count : FnScope ["value", "low", "high"] ["value", "low", "high"] (defScope s_is_count) := ⟨rfl, rfl, rfl, by decide +kernel, rfl, by decide +kernel, by decide +kernel⟩
def F_is_count : FS :=
  (retS (andV (bd (consA (varD 0) (rt [])) (callM m_is_integer [])) (chainM (varD 1) (varD 0) (varD 2) (cmpI (fun i j => decide (i ≤ j)) (leS noO)) (cmpI (fun i j => decide (i ≤ j)) (leS noO)))))
def m_is_count : Fm := fmOf 3 3 F_is_count
theorem ok_is_count (e : Ev ck fn K mg base) : ∃ fd, FunD K "is_count" "is_count" (defArgs s_is_count) (defBody s_is_count) (defScope s_is_count) (He.DefD.dvs K d_is_count) (He.DefD.kws K d_is_count) (He.ga K "is_count") fd ∧ FnOk P w K mg base (L2.CX P w) 2 (He.ga K "is_count") fd ["value", "low", "high"] (spD K 3 (fmOf 3 3 F_is_count)) := by
  obtain ⟨fd, F0⟩ := e.c.def_ 22
  refine ⟨fd, F0, fn_ok F0 sc_is_count fun cdv A outer s H E b po => ?_⟩
  exact (dss_one (ds_ret (de_and (de_call (h_is_integer e) b (by decide) rfl (He.glo_ok e.kin e.ns (e.c.fact 9)) (da_cons (de_var 0) da_nil)) (de_one (chain_run (opd_cmpI op_le (opd_leS opd_no)) (opd_cmpI op_le (opd_leS opd_no)) (de_var 1) (de_var 0) (de_var 2))))))
theorem h_is_count (e : Ev ck fn K mg base) : HasF P w K mg base 2 (He.ga K "is_count") [] m_is_count := hasF_of (ok_is_count e) (by intro _ _ _ _ _ _ us hl; exact match us, hl with | [_, _, _], _ => rfl)
theorem sc_is_ratio_row : FnScope ["value", "x"] ["value"] (defScope s_is_ratio_row) := ⟨rfl, rfl, rfl, by decide +kernel, rfl, by decide +kernel, by decide +kernel⟩
def F_is_ratio_row : FS :=
  (retS (andV (bd (consA (varD 0) (consA (rt (.ty "tuple")) (rt []))) (isiF vcls)) (bd (consA (frzM (lcM [1] (bd (varD 0) itms) (gNm 1) (rt true) (bd (consA (varD 1) (consA (rt (.glo "Ratio")) (rt []))) (isiF vcls)))) (rt [])) allF)))
def m_is_ratio_row : Fm := fmOf 1 2 F_is_ratio_row
theorem ok_is_ratio_row (e : Ev ck fn K mg base) : ∃ fd, FunD K "is_ratio_row" "is_ratio_row" (defArgs s_is_ratio_row) (defBody s_is_ratio_row) (defScope s_is_ratio_row) (He.DefD.dvs K d_is_ratio_row) (He.DefD.kws K d_is_ratio_row) (He.ga K "is_ratio_row") fd ∧ FnOk P w K mg base (L2.CX P w) 1 (He.ga K "is_ratio_row") fd ["value"] (spD K 1 (fmOf 1 2 F_is_ratio_row)) := by
  obtain ⟨fd, F0⟩ := e.c.def_ 23
  refine ⟨fd, F0, fn_ok F0 sc_is_ratio_row fun cdv A outer s H E b po => ?_⟩
  exact (dss_one (ds_ret (de_and (de_callB (cd_isi (iokB_ok (e.c.fact 6))) rfl (He.free_ok e.kin e.ns (e.c.fact 7)) PyProof.Rows.Boot.«isinstance» (da_cons (de_var 0) (da_cons (de_ty rfl (He.free_ok e.kin e.ns (e.c.fact 28)) PyProof.Rows.Boot.«tuple») da_nil))) (de_one (de_callB (cd_all b.calm) rfl (He.free_ok e.kin e.ns (e.c.fact 27)) PyProof.Rows.Boot.«all» (da_cons (de_frz (do_lc b sc_is_ratio_row.nd [("x", 1)] (di_val (de_var 0)) (blk_of rfl) (fun _ _ _ _ _ bb => (dg_name 1 sc_is_ratio_row.nd)) (fun _ _ _ _ _ bb => dts_nil) (fun _ _ _ _ _ bb => (de_callB (cd_isi (iokB_ok (e.c.fact 6))) rfl (He.free_ok e.kin e.ns (e.c.fact 7)) PyProof.Rows.Boot.«isinstance» (da_cons (de_var 1) (da_cons (de_glo rfl (He.glo_ok e.kin e.ns (e.c.fact 17))) da_nil)))))) da_nil))))))
theorem h_is_ratio_row (e : Ev ck fn K mg base) : HasF P w K mg base 1 (He.ga K "is_ratio_row") [] m_is_ratio_row := hasF_of (ok_is_ratio_row e) (by intro _ _ _ _ _ _ us hl; exact match us, hl with | [_], _ => rfl)
theorem sc_is_whole_row : FnScope ["value", "x"] ["value"] (defScope s_is_whole_row) := ⟨rfl, rfl, rfl, by decide +kernel, rfl, by decide +kernel, by decide +kernel⟩
def F_is_whole_row : FS :=
  (retS (andV (bd (consA (varD 0) (consA (rt (.ty "tuple")) (rt []))) (isiF vcls)) (bd (consA (frzM (lcM [1] (bd (varD 0) itms) (gNm 1) (rt true) (bd (consA (varD 1) (rt [])) (callM m_is_integer [])))) (rt [])) allF)))
def m_is_whole_row : Fm := fmOf 1 2 F_is_whole_row
theorem ok_is_whole_row (e : Ev ck fn K mg base) : ∃ fd, FunD K "is_whole_row" "is_whole_row" (defArgs s_is_whole_row) (defBody s_is_whole_row) (defScope s_is_whole_row) (He.DefD.dvs K d_is_whole_row) (He.DefD.kws K d_is_whole_row) (He.ga K "is_whole_row") fd ∧ FnOk P w K mg base (L2.CX P w) 2 (He.ga K "is_whole_row") fd ["value"] (spD K 1 (fmOf 1 2 F_is_whole_row)) := by
  obtain ⟨fd, F0⟩ := e.c.def_ 24
  refine ⟨fd, F0, fn_ok F0 sc_is_whole_row fun cdv A outer s H E b po => ?_⟩
  exact (dss_one (ds_ret (de_and (de_callB (cd_isi (iokB_ok (e.c.fact 6))) rfl (He.free_ok e.kin e.ns (e.c.fact 7)) PyProof.Rows.Boot.«isinstance» (da_cons (de_var 0) (da_cons (de_ty rfl (He.free_ok e.kin e.ns (e.c.fact 28)) PyProof.Rows.Boot.«tuple») da_nil))) (de_one (de_callB (cd_all b.calm) rfl (He.free_ok e.kin e.ns (e.c.fact 27)) PyProof.Rows.Boot.«all» (da_cons (de_frz (do_lc b sc_is_whole_row.nd [("x", 1)] (di_val (de_var 0)) (blk_of rfl) (fun _ _ _ _ _ bb => (dg_name 1 sc_is_whole_row.nd)) (fun _ _ _ _ _ bb => dts_nil) (fun _ _ _ _ _ bb => (de_call (h_is_integer e) bb (by decide) rfl (He.glo_ok e.kin e.ns (e.c.fact 9)) (da_cons (de_var 1) da_nil))))) da_nil))))))
theorem h_is_whole_row (e : Ev ck fn K mg base) : HasF P w K mg base 2 (He.ga K "is_whole_row") [] m_is_whole_row := hasF_of (ok_is_whole_row e) (by intro _ _ _ _ _ _ us hl; exact match us, hl with | [_], _ => rfl)
theorem sc_Ratio__eq : FnScope ["self", "other"] ["self", "other"] (defScope s_Ratio__eq) := ⟨rfl, rfl, rfl, by decide +kernel, rfl, by decide +kernel, by decide +kernel⟩
def F_Ratio__eq : FS :=
  (retS (andV (bd (consA (varD 1) (consA (rt (.glo "Ratio")) (rt []))) (isiF vcls)) (andV (two (fldN 0 Cn "n") (fldN 1 Cn "n") (eqP false noO)) (two (fldN 0 Cd "d") (fldN 1 Cd "d") (eqP false noO)))))
def m_Ratio__eq : Fm := fmOf 2 2 F_Ratio__eq
theorem ok_Ratio__eq (e : Ev ck fn K mg base) : ∃ fd, FunD K "__eq__" "Ratio.__eq__" (defArgs s_Ratio__eq) (defBody s_Ratio__eq) (defScope s_Ratio__eq) (He.DefD.dvs K d_Ratio__eq) (He.DefD.kws K d_Ratio__eq) (He.ma K (He.ga K "Ratio") "__eq__") fd ∧ FnOk P w K mg base (L2.CX P w) 1 (He.ma K (He.ga K "Ratio") "__eq__") fd ["self", "other"] (spD K 2 (fmOf 2 2 F_Ratio__eq)) := by
  obtain ⟨fd, F0⟩ := e.c.def_ 25
  refine ⟨fd, F0, fn_ok F0 sc_Ratio__eq fun cdv A outer s H E b po => ?_⟩
  exact (dss_one (ds_ret (de_and (de_callB (cd_isi (iokB_ok (e.c.fact 6))) rfl (He.free_ok e.kin e.ns (e.c.fact 7)) PyProof.Rows.Boot.«isinstance» (da_cons (de_var 1) (da_cons (de_glo rfl (He.glo_ok e.kin e.ns (e.c.fact 17))) da_nil))) (de_and (de_cmp (opd_eqP b.hr opd_no) (de_fldN 0 (Cn_F e)) (de_fldN 1 (Cn_F e))) (de_one (de_cmp (opd_eqP b.hr opd_no) (de_fldN 0 (Cd_F e)) (de_fldN 1 (Cd_F e))))))))
theorem h_Ratio__eq (e : Ev ck fn K mg base) : HasF P w K mg base 1 (He.ma K (He.ga K "Ratio") "__eq__") [] m_Ratio__eq := hasF_of (ok_Ratio__eq e) (by intro _ _ _ _ _ _ us hl; exact match us, hl with | [_, _], _ => rfl)
theorem sc_power : FnScope ["a", "k", "found", "_"] ["a", "k"] (defScope s_power) := ⟨rfl, rfl, rfl, by decide +kernel, rfl, by decide +kernel, by decide +kernel⟩
def F_power : FS :=
  (seqS (setS 2 (rt (.int 1)))
  (seqS (forS (bd (consA (varD 1) (rt [])) rngF1) (gNm 3) (setS 2 (two (varD 2) (varD 0) (mulI (ownO Tmul1 noO)))))
  (retS (varD 2))))
def m_power : Fm := fmOf 2 4 F_power
theorem ok_power (e : Ev ck fn K mg base) : ∃ fd, FunD K "power" "power" (defArgs s_power) (defBody s_power) (defScope s_power) (He.DefD.dvs K d_power) (He.DefD.kws K d_power) (He.ga K "power") fd ∧ FnOk P w K mg base (L2.CX P w) 6 (He.ga K "power") fd ["a", "k"] (spD K 2 (fmOf 2 4 F_power)) := by
  obtain ⟨fd, F0⟩ := e.c.def_ 26
  refine ⟨fd, F0, fn_ok F0 sc_power fun cdv A outer s H E b po => ?_⟩
  exact (dss_cons (ds_set 2 sc_power.nd de_int)
  (dss_cons (ds_for po b.calm (di_rng1 rfl (He.free_ok e.kin e.ns (e.c.fact 26)) (da_cons (de_var 1) da_nil)) (dg_name 3 sc_power.nd) (dss_one (ds_set 2 sc_power.nd (de_bin (opd_mul (opd_own (Tmul1_O e) b.tk (b.hr.mono (by decide)) opd_no)) (de_var 2) (de_var 0)))))
  (dss_one (ds_ret (de_var 2)))))
theorem h_power (e : Ev ck fn K mg base) : HasF P w K mg base 6 (He.ga K "power") [] m_power := hasF_of (ok_power e) (by intro _ _ _ _ _ _ us hl; exact match us, hl with | [_, _], _ => rfl)
theorem sc_is_short : FnScope ["n"] ["n"] (defScope s_is_short) := ⟨rfl, rfl, rfl, by decide +kernel, rfl, by decide +kernel, by decide +kernel⟩
def F_is_short : FS :=
  (retS (orV (two (bd (consA (varD 0) (rt [])) absF) (rt (.int 1000000000000000000000000000000000000000000000000000000000000)) (cmpI (fun i j => decide (i < j)) (ltS noO))) (two (bd (consA (varD 0) (rt [])) absF) (bd (consA (rt (.int 10)) (consA (rt (.int 4000)) (rt []))) (callM m_power [])) (cmpI (fun i j => decide (i < j)) (ltS noO)))))
def m_is_short : Fm := fmOf 1 1 F_is_short
theorem ok_is_short (e : Ev ck fn K mg base) : ∃ fd, FunD K "is_short" "is_short" (defArgs s_is_short) (defBody s_is_short) (defScope s_is_short) (He.DefD.dvs K d_is_short) (He.DefD.kws K d_is_short) (He.ga K "is_short") fd ∧ FnOk P w K mg base (L2.CX P w) 7 (He.ga K "is_short") fd ["n"] (spD K 1 (fmOf 1 1 F_is_short)) := by
  obtain ⟨fd, F0⟩ := e.c.def_ 27
  refine ⟨fd, F0, fn_ok F0 sc_is_short fun cdv A outer s H E b po => ?_⟩
  exact (dss_one (ds_ret (de_or (de_cmp (opd_cmpI op_lt (opd_ltS opd_no)) (de_callB cd_abs rfl (He.free_ok e.kin e.ns (e.c.fact 4)) PyProof.Rows.Boot.«abs» (da_cons (de_var 0) da_nil)) de_int) (de_one (de_cmp (opd_cmpI op_lt (opd_ltS opd_no)) (de_callB cd_abs rfl (He.free_ok e.kin e.ns (e.c.fact 4)) PyProof.Rows.Boot.«abs» (da_cons (de_var 0) da_nil)) (de_call (h_power e) b (by decide) rfl (He.glo_ok e.kin e.ns (e.c.fact 29)) (da_cons de_int (da_cons de_int da_nil))))))))
theorem h_is_short (e : Ev ck fn K mg base) : HasF P w K mg base 7 (He.ga K "is_short") [] m_is_short := hasF_of (ok_is_short e) (by intro _ _ _ _ _ _ us hl; exact match us, hl with | [_], _ => rfl)
def Teq1 : MT := (mt1 "Ratio" m_Ratio__eq [] mt0)
theorem Teq1_E (e : Ev ck fn K mg base) : EOk P w K mg base 1 Teq1 := (eok_of (L := ["Ratio"]) (eok1 (e.c.fact 32) (h_Ratio__eq e) (by decide) eok0) (tl1 (by decide +kernel) tl0) (e.c.fact 33))
theorem sc_Ratio__str : FnScope ["self"] ["self"] (defScope s_Ratio__str) := ⟨rfl, rfl, rfl, by decide +kernel, rfl, by decide +kernel, by decide +kernel⟩
def F_Ratio__str : FS :=
  (seqS (ifS (orM (notM (bd (bd (consA (fldN 0 Cn "n") (rt [])) (callM m_is_short [])) boolM)) (notM (bd (bd (consA (fldN 0 Cd "d") (rt [])) (callM m_is_short [])) boolM))) (raiseX "Refused" "reason" (consA (rt (.str "long")) (rt []))) nxS)
  (seqS (ifS (bd (two (fldN 0 Cd "d") (rt (.int 1)) (eqP false (eqO Teq1 noO))) boolM) (retS (bd (consA (fldN 0 Cn "n") (rt [])) (strF noF))) nxS)
  (retS (jsM [(bd (fldN 0 Cn "n") fmtD), (rt (.str "/")), (bd (fldN 0 Cd "d") fmtD)] Str.empty))))
def m_Ratio__str : Fm := fmOf 1 1 F_Ratio__str
theorem ok_Ratio__str (e : Ev ck fn K mg base) : ∃ fd, FunD K "__str__" "Ratio.__str__" (defArgs s_Ratio__str) (defBody s_Ratio__str) (defScope s_Ratio__str) (He.DefD.dvs K d_Ratio__str) (He.DefD.kws K d_Ratio__str) (He.ma K (He.ga K "Ratio") "__str__") fd ∧ FnOk P w K mg base (L2.CX P w) 8 (He.ma K (He.ga K "Ratio") "__str__") fd ["self"] (spD K 1 (fmOf 1 1 F_Ratio__str)) := by
  obtain ⟨fd, F0⟩ := e.c.def_ 28
  refine ⟨fd, F0, fn_ok F0 sc_Ratio__str fun cdv A outer s H E b po => ?_⟩
  exact (dss_cons (ds_if (dt_pw (dt_or (dt_not (dt_val (de_call (h_is_short e) b (by decide) rfl (He.glo_ok e.kin e.ns (e.c.fact 30)) (da_cons (de_fldN 0 (Cn_F e)) da_nil)))) (dt_or1 (dt_not (dt_val (de_call (h_is_short e) b (by decide) rfl (He.glo_ok e.kin e.ns (e.c.fact 30)) (da_cons (de_fldN 0 (Cd_F e)) da_nil))))))) (dss_one (ds_raiseX b (hx_Refused e) (by decide) rfl (He.glo_ok e.kin e.ns (e.c.fact 12)) (da_cons de_str da_nil))) dss_nil)
  (dss_cons (ds_if (dt_cmp (opd_eqP b.hr (opd_eqO (Teq1_E e) b.tk (b.hr.mono (by decide)) opd_no)) (de_fldN 0 (Cd_F e)) de_int) (dss_one (ds_ret (de_callT (cd_str cd_no) rfl (He.free_ok e.kin e.ns (e.c.fact 34)) PyProof.Rows.Boot.«str» (da_cons (de_fldN 0 (Cn_F e)) da_nil)))) dss_nil)
  (dss_one (ds_ret (de_joined (.cons (de_fmt (de_fldN 0 (Cn_F e))) (.cons de_str (.cons (de_fmt (de_fldN 0 (Cd_F e))) .nil))))))))
theorem h_Ratio__str (e : Ev ck fn K mg base) : HasF P w K mg base 8 (He.ma K (He.ga K "Ratio") "__str__") [] m_Ratio__str := hasF_of (ok_Ratio__str e) (by intro _ _ _ _ _ _ us hl; exact match us, hl with | [_], _ => rfl)
def Tneg1 : MT := (mt1 "Ratio" m_Ratio__neg [] mt0)
theorem Tneg1_M (e : Ev ck fn K mg base) : MOk P w K mg base 5 "__neg__" Tneg1 := (mok1 (He.cls_ok (e.c.fact 14)) (He.meth_ok (e.c.fact 37)) (h_Ratio__neg e) (by decide) mok0)
def Tstr1 : MT := (mt1 "Ratio" m_Ratio__str [] mt0)
theorem Tstr1_M (e : Ev ck fn K mg base) : MOk P w K mg base 8 "__str__" Tstr1 := (mok1 (He.cls_ok (e.c.fact 14)) (He.meth_ok (e.c.fact 38)) (h_Ratio__str e) (by decide) mok0)
theorem sc_read_ratio : FnScope ["text", "top", "slash", "low", "piece", "found", "c"] ["text"] (defScope s_read_ratio) := ⟨rfl, rfl, rfl, by decide +kernel, rfl, by decide +kernel, by decide +kernel⟩
def F_read_ratio : FS :=
  (seqS (ifS (orM (notM (bd (bd (consA (varD 0) (consA (rt (.ty "str")) (rt []))) (isiF vcls)) boolM)) (bd (two (lenNm 0) (rt (.int 400)) gtI) boolM)) (raiseX "NoText" "at" (consA (rt (.int 0)) (rt []))) nxS)
  (seqS (asgS (bd (bd (varD 0) (tx1 gRp (consA (rt (.str "-")) (rt [])))) (tx1 gPt (consA (rt (.str "/")) (rt [])))) (gTp 3 (gC (gNm 1) (gC (gNm 2) (gC (gNm 3) gN0)))))
  (seqS (forS (bd (bd (consA (varD 1) (consA (ifM (bd (two (varD 2) (rt (.str "/")) (eqP false (eqO Teq1 noO))) boolM) (varD 3) (rt (.str "1"))) (rt []))) tupM) itms) (gNm 4) (ifS (orM (bd (two (varD 4) (rt (.str "")) (eqP false (eqO Teq1 noO))) boolM) (notM (bd (bd (consA (frzM (lcM [6] (bd (varD 4) itms) (gNm 6) (rt true) (chainM (rt (.str "0")) (varD 6) (rt (.str "9")) (cmpI (fun i j => decide (i ≤ j)) (leS noO)) (cmpI (fun i j => decide (i ≤ j)) (leS noO))))) (rt [])) allF) boolM))) (raiseX "NoText" "at" (consA (rt (.int 0)) (rt []))) nxS))
  (seqS (ifS (andM (bd (two (varD 2) (rt (.str "/")) (eqP false (eqO Teq1 noO))) boolM) (bd (two (bd (consA (varD 3) (rt [])) intF2) (rt (.int 0)) (eqP false (eqO Teq1 noO))) boolM)) (raiseX "NoText" "at" (consA (rt (.int 0)) (rt []))) nxS)
  (seqS (setS 5 (bd (consA (bd (consA (varD 1) (rt [])) intF2) (consA (ifM (bd (two (varD 2) (rt (.str "/")) (eqP false (eqO Teq1 noO))) boolM) (bd (consA (varD 3) (rt [])) intF2) (rt (.int 1))) (rt []))) (makeM "Ratio" m_Ratio__init [])))
  (seqS (setS 5 (ifM (bd (bd (varD 0) (tx1 gSw (consA (rt (.str "-")) (rt [])))) boolM) (bd (varD 5) (ownN Tneg1 negD)) (varD 5)))
  (seqS (ifS (bd (two (bd (consA (varD 5) (rt [])) (strO Tstr1 (strF noF))) (varD 0) (eqP true (neO Teq1 (eqT Teq1 2 true noO)))) boolM) (raiseX "NoText" "at" (consA (rt (.int 0)) (rt []))) nxS)
  (retS (varD 5)))))))))
def m_read_ratio : Fm := fmOf 1 7 F_read_ratio
theorem ok_read_ratio (e : Ev ck fn K mg base) : ∃ fd, FunD K "read_ratio" "read_ratio" (defArgs s_read_ratio) (defBody s_read_ratio) (defScope s_read_ratio) (He.DefD.dvs K d_read_ratio) (He.DefD.kws K d_read_ratio) (He.ga K "read_ratio") fd ∧ FnOk P w K mg base (L2.CX P w) 11 (He.ga K "read_ratio") fd ["text"] (spD K 1 (fmOf 1 7 F_read_ratio)) := by
  obtain ⟨fd, F0⟩ := e.c.def_ 29
  refine ⟨fd, F0, fn_ok F0 sc_read_ratio fun cdv A outer s H E b po => ?_⟩
  exact (dss_cons (ds_if (dt_pw (dt_or (dt_not (dt_val (de_callB (cd_isi (iokB_ok (e.c.fact 6))) rfl (He.free_ok e.kin e.ns (e.c.fact 7)) PyProof.Rows.Boot.«isinstance» (da_cons (de_var 0) (da_cons (de_ty rfl (He.free_ok e.kin e.ns (e.c.fact 34)) PyProof.Rows.Boot.«str») da_nil))))) (dt_or1 (dt_cmp opd_gt (de_lenN 0 rfl (He.free_ok e.kin e.ns (e.c.fact 25))) (de_gint (i := 400) rfl (He.int_ok e.kin e.ns (e.c.fact 35))))))) (dss_one (ds_raiseX b (hx_NoText e) (by decide) rfl (He.glo_ok e.kin e.ns (e.c.fact 36)) (da_cons de_int da_nil))) dss_nil)
  (dss_cons (ds_asg (de_partition (de_removeprefix (de_var 0) (da_cons de_str da_nil)) (da_cons de_str da_nil)) (dg_tup b.calm (dgs_cons (is := [1]) (js := [2, 3]) (ks := [1, 2, 3]) (dg_name 1 sc_read_ratio.nd) (dgs_cons (is := [2]) (js := [3]) (ks := [2, 3]) (dg_name 2 sc_read_ratio.nd) (dgs_cons (is := [3]) (js := []) (ks := [3]) (dg_name 3 sc_read_ratio.nd) dgs_nil)))))
  (dss_cons (ds_for po b.calm (di_val (de_tup (da_cons (de_var 1) (da_cons (de_ifExp (dt_cmp (opd_eqP b.hr (opd_eqO (Teq1_E e) b.tk (b.hr.mono (by decide)) opd_no)) (de_var 2) de_str) (de_var 3) de_str) da_nil)))) (dg_name 4 sc_read_ratio.nd) (dss_one (ds_if (dt_pw (dt_or (dt_cmp (opd_eqP b.hr (opd_eqO (Teq1_E e) b.tk (b.hr.mono (by decide)) opd_no)) (de_var 4) de_str) (dt_or1 (dt_not (dt_val (de_callB (cd_all b.calm) rfl (He.free_ok e.kin e.ns (e.c.fact 27)) PyProof.Rows.Boot.«all» (da_cons (de_frz (do_lc b sc_read_ratio.nd [("c", 6)] (di_val (de_var 4)) (blk_of rfl) (fun _ _ _ _ _ bb => (dg_name 6 sc_read_ratio.nd)) (fun _ _ _ _ _ bb => dts_nil) (fun _ _ _ _ _ bb => (chain_run (opd_cmpI op_le (opd_leS opd_no)) (opd_cmpI op_le (opd_leS opd_no)) de_str (de_var 6) de_str)))) da_nil))))))) (dss_one (ds_raiseX b (hx_NoText e) (by decide) rfl (He.glo_ok e.kin e.ns (e.c.fact 36)) (da_cons de_int da_nil))) dss_nil)))
  (dss_cons (ds_if (dt_pw (dt_and (dt_cmp (opd_eqP b.hr (opd_eqO (Teq1_E e) b.tk (b.hr.mono (by decide)) opd_no)) (de_var 2) de_str) (dt_and1 (dt_cmp (opd_eqP b.hr (opd_eqO (Teq1_E e) b.tk (b.hr.mono (by decide)) opd_no)) (de_callT cd_int2 rfl (He.free_ok e.kin e.ns (e.c.fact 8)) PyProof.Rows.Boot.«int» (da_cons (de_var 3) da_nil)) de_int)))) (dss_one (ds_raiseX b (hx_NoText e) (by decide) rfl (He.glo_ok e.kin e.ns (e.c.fact 36)) (da_cons de_int da_nil))) dss_nil)
  (dss_cons (ds_set 5 sc_read_ratio.nd (de_make (He.mkr_ok (e.c.fact 19)) (h_Ratio__init e) b (by decide) rfl (He.glo_ok e.kin e.ns (e.c.fact 17)) (da_cons (de_callT cd_int2 rfl (He.free_ok e.kin e.ns (e.c.fact 8)) PyProof.Rows.Boot.«int» (da_cons (de_var 1) da_nil)) (da_cons (de_ifExp (dt_cmp (opd_eqP b.hr (opd_eqO (Teq1_E e) b.tk (b.hr.mono (by decide)) opd_no)) (de_var 2) de_str) (de_callT cd_int2 rfl (He.free_ok e.kin e.ns (e.c.fact 8)) PyProof.Rows.Boot.«int» (da_cons (de_var 3) da_nil)) de_int) da_nil))))
  (dss_cons (ds_set 5 sc_read_ratio.nd (de_ifExp (dt_val (de_startswith (de_var 0) (da_cons de_str da_nil))) (de_un (und_own (Tneg1_M e) b.tk (b.hr.mono (by decide)) und_neg) (de_var 5)) (de_var 5)))
  (dss_cons (ds_if (dt_cmp (opd_neP b.hr (opd_neO (Teq1_E e) b.tk b.hr (by decide) (opd_neT 2 (Teq1_E e) b.tk b.hr (by decide) opd_no))) (de_callT (cd_strO (Tstr1_M e) b (by decide) (cd_str cd_no)) rfl (He.free_ok e.kin e.ns (e.c.fact 34)) PyProof.Rows.Boot.«str» (da_cons (de_var 5) da_nil)) (de_var 0)) (dss_one (ds_raiseX b (hx_NoText e) (by decide) rfl (He.glo_ok e.kin e.ns (e.c.fact 36)) (da_cons de_int da_nil))) dss_nil)
  (dss_one (ds_ret (de_var 5))))))))))
theorem h_read_ratio (e : Ev ck fn K mg base) : HasF P w K mg base 11 (He.ga K "read_ratio") [] m_read_ratio := hasF_of (ok_read_ratio e) (by intro _ _ _ _ _ _ us hl; exact match us, hl with | [_], _ => rfl)
theorem sc_read_ratios : FnScope ["text", "piece"] ["text"] (defScope s_read_ratios) := ⟨rfl, rfl, rfl, by decide +kernel, rfl, by decide +kernel, by decide +kernel⟩
def F_read_ratios : FS :=
  (seqS (ifS (notM (bd (bd (consA (varD 0) (consA (rt (.ty "str")) (rt []))) (isiF vcls)) boolM)) (raiseX "NoText" "at" (consA (rt (.int 0)) (rt []))) nxS)
  (seqS (ifS (bd (two (varD 0) (rt (.str "-")) (eqP false (eqO Teq1 noO))) boolM) (retS (bd (rt []) tupM)) nxS)
  (retS (bd (consA (frzM (lcM [1] (bd (bd (varD 0) (tx1 gSp (consA (rt (.str ",")) (rt [])))) itms) (gNm 1) (rt true) (bd (consA (varD 1) (rt [])) (callM m_read_ratio [])))) (rt [])) tupF))))
def m_read_ratios : Fm := fmOf 1 2 F_read_ratios
theorem ok_read_ratios (e : Ev ck fn K mg base) : ∃ fd, FunD K "read_ratios" "read_ratios" (defArgs s_read_ratios) (defBody s_read_ratios) (defScope s_read_ratios) (He.DefD.dvs K d_read_ratios) (He.DefD.kws K d_read_ratios) (He.ga K "read_ratios") fd ∧ FnOk P w K mg base (L2.CX P w) 12 (He.ga K "read_ratios") fd ["text"] (spD K 1 (fmOf 1 2 F_read_ratios)) := by
  obtain ⟨fd, F0⟩ := e.c.def_ 30
  refine ⟨fd, F0, fn_ok F0 sc_read_ratios fun cdv A outer s H E b po => ?_⟩
  exact (dss_cons (ds_if (dt_not (dt_val (de_callB (cd_isi (iokB_ok (e.c.fact 6))) rfl (He.free_ok e.kin e.ns (e.c.fact 7)) PyProof.Rows.Boot.«isinstance» (da_cons (de_var 0) (da_cons (de_ty rfl (He.free_ok e.kin e.ns (e.c.fact 34)) PyProof.Rows.Boot.«str») da_nil))))) (dss_one (ds_raiseX b (hx_NoText e) (by decide) rfl (He.glo_ok e.kin e.ns (e.c.fact 36)) (da_cons de_int da_nil))) dss_nil)
  (dss_cons (ds_if (dt_cmp (opd_eqP b.hr (opd_eqO (Teq1_E e) b.tk (b.hr.mono (by decide)) opd_no)) (de_var 0) de_str) (dss_one (ds_ret (de_tup da_nil))) dss_nil)
  (dss_one (ds_ret (de_callT cd_tuple rfl (He.free_ok e.kin e.ns (e.c.fact 28)) PyProof.Rows.Boot.«tuple» (da_cons (de_frz (do_lc b sc_read_ratios.nd [("piece", 1)] (di_val (de_split (de_var 0) (da_cons de_str da_nil))) (blk_of rfl) (fun _ _ _ _ _ bb => (dg_name 1 sc_read_ratios.nd)) (fun _ _ _ _ _ bb => dts_nil) (fun _ _ _ _ _ bb => (de_call (h_read_ratio e) bb (by decide) rfl (He.glo_ok e.kin e.ns (e.c.fact 39)) (da_cons (de_var 1) da_nil))))) da_nil))))))
theorem h_read_ratios (e : Ev ck fn K mg base) : HasF P w K mg base 12 (He.ga K "read_ratios") [] m_read_ratios := hasF_of (ok_read_ratios e) (by intro _ _ _ _ _ _ us hl; exact match us, hl with | [_], _ => rfl)
theorem sc_digits_of : FnScope ["n"] ["n"] (defScope s_digits_of) := ⟨rfl, rfl, rfl, by decide +kernel, rfl, by decide +kernel, by decide +kernel⟩
def F_digits_of : FS :=
  (seqS (ifS (notM (bd (bd (consA (varD 0) (rt [])) (callM m_is_short [])) boolM)) (raiseX "Refused" "reason" (consA (rt (.str "long")) (rt []))) nxS)
  (retS (bd (consA (varD 0) (rt [])) (strO Tstr1 (strF noF)))))
def m_digits_of : Fm := fmOf 1 1 F_digits_of
theorem ok_digits_of (e : Ev ck fn K mg base) : ∃ fd, FunD K "digits_of" "digits_of" (defArgs s_digits_of) (defBody s_digits_of) (defScope s_digits_of) (He.DefD.dvs K d_digits_of) (He.DefD.kws K d_digits_of) (He.ga K "digits_of") fd ∧ FnOk P w K mg base (L2.CX P w) 11 (He.ga K "digits_of") fd ["n"] (spD K 1 (fmOf 1 1 F_digits_of)) := by
  obtain ⟨fd, F0⟩ := e.c.def_ 31
  refine ⟨fd, F0, fn_ok F0 sc_digits_of fun cdv A outer s H E b po => ?_⟩
  exact (dss_cons (ds_if (dt_not (dt_val (de_call (h_is_short e) b (by decide) rfl (He.glo_ok e.kin e.ns (e.c.fact 30)) (da_cons (de_var 0) da_nil)))) (dss_one (ds_raiseX b (hx_Refused e) (by decide) rfl (He.glo_ok e.kin e.ns (e.c.fact 12)) (da_cons de_str da_nil))) dss_nil)
  (dss_one (ds_ret (de_callT (cd_strO (Tstr1_M e) b (by decide) (cd_str cd_no)) rfl (He.free_ok e.kin e.ns (e.c.fact 34)) PyProof.Rows.Boot.«str» (da_cons (de_var 0) da_nil)))))
theorem h_digits_of (e : Ev ck fn K mg base) : HasF P w K mg base 11 (He.ga K "digits_of") [] m_digits_of := hasF_of (ok_digits_of e) (by intro _ _ _ _ _ _ us hl; exact match us, hl with | [_], _ => rfl)
theorem sc_row_text : FnScope ["row", "x"] ["row"] (defScope s_row_text) := ⟨rfl, rfl, rfl, by decide +kernel, rfl, by decide +kernel, by decide +kernel⟩
def F_row_text : FS :=
  (retS (ifM (bd (two (lenNm 0) (rt (.int 0)) gtI) boolM) (bd (rt (.str ",")) (joinM (consA (frzM (lcM [1] (bd (varD 0) itms) (gNm 1) (rt true) (bd (consA (varD 1) (rt [])) (callM m_digits_of [])))) (rt [])))) (rt (.str "-"))))
def m_row_text : Fm := fmOf 1 2 F_row_text
theorem ok_row_text (e : Ev ck fn K mg base) : ∃ fd, FunD K "row_text" "row_text" (defArgs s_row_text) (defBody s_row_text) (defScope s_row_text) (He.DefD.dvs K d_row_text) (He.DefD.kws K d_row_text) (He.ga K "row_text") fd ∧ FnOk P w K mg base (L2.CX P w) 12 (He.ga K "row_text") fd ["row"] (spD K 1 (fmOf 1 2 F_row_text)) := by
  obtain ⟨fd, F0⟩ := e.c.def_ 32
  refine ⟨fd, F0, fn_ok F0 sc_row_text fun cdv A outer s H E b po => ?_⟩
  exact (dss_one (ds_ret (de_ifExp (dt_cmp opd_gt (de_lenN 0 rfl (He.free_ok e.kin e.ns (e.c.fact 25))) de_int) (de_join de_str (da_cons (de_frz (do_lc b sc_row_text.nd [("x", 1)] (di_val (de_var 0)) (blk_of rfl) (fun _ _ _ _ _ bb => (dg_name 1 sc_row_text.nd)) (fun _ _ _ _ _ bb => dts_nil) (fun _ _ _ _ _ bb => (de_call (h_digits_of e) bb (by decide) rfl (He.glo_ok e.kin e.ns (e.c.fact 40)) (da_cons (de_var 1) da_nil))))) da_nil)) de_str)))
theorem h_row_text (e : Ev ck fn K mg base) : HasF P w K mg base 12 (He.ga K "row_text") [] m_row_text := hasF_of (ok_row_text e) (by intro _ _ _ _ _ _ us hl; exact match us, hl with | [_], _ => rfl)
def heldT : MT := (mt1 "choose" m_choose [] (mt1 "common" m_common [] (mt1 "common_of" m_common_of [] (mt1 "sign_of" m_sign_of [] (mt1 "changes" m_changes [] (mt1 "row_text" m_row_text [] (mt1 "read_ratio" m_read_ratio [] (mt1 "read_ratios" m_read_ratios [] (mt1 "is_ratio_row" m_is_ratio_row [] (mt1 "_law_make" m_law_make [] (mt1 "_law_over" m_law_over [] (mt1 "is_integer" m_is_integer [] (mt1 "is_count" m_is_count [] (mt1 "is_whole_row" m_is_whole_row [] mt0))))))))))))))
theorem heldOk (e : Ev ck fn K mg base) : GOk P w K mg base 12 heldT := (gok1 (h_choose e) (by decide) (gok1 (h_common e) (by decide) (gok1 (h_common_of e) (by decide) (gok1 (h_sign_of e) (by decide) (gok1 (h_changes e) (by decide) (gok1 (h_row_text e) (by decide) (gok1 (h_read_ratio e) (by decide) (gok1 (h_read_ratios e) (by decide) (gok1 (h_is_ratio_row e) (by decide) (gok1 (h_law_make e) (by decide) (gok1 (h_law_over e) (by decide) (gok1 (h_is_integer e) (by decide) (gok1 (h_is_count e) (by decide) (gok1 (h_is_whole_row e) (by decide) gok0))))))))))))))
theorem sc_law_told : FnScope ["f", "given", "error"] ["f", "given"] (defScope s_law_told) := ⟨rfl, rfl, rfl, by decide +kernel, rfl, by decide +kernel, by decide +kernel⟩
def F_law_told : FS :=
  (tryS subs (seqS (ifS (bd (two (lenNm 1) (rt (.int 0)) (eqP false (eqO Teq1 noO))) boolM) (retS (bd (consA (rt (.str "told")) (consA (heldM heldT 0 (rt [])) (rt []))) tupM)) nxS)
  (seqS (ifS (bd (two (lenNm 1) (rt (.int 1)) (eqP false (eqO Teq1 noO))) boolM) (retS (bd (consA (rt (.str "told")) (consA (heldM heldT 0 (consA (ixNm 1 (rt (.int 0))) (rt []))) (rt []))) tupM)) nxS)
  (seqS (ifS (bd (two (lenNm 1) (rt (.int 2)) (eqP false (eqO Teq1 noO))) boolM) (retS (bd (consA (rt (.str "told")) (consA (heldM heldT 0 (consA (ixNm 1 (rt (.int 0))) (consA (ixNm 1 (rt (.int 1))) (rt [])))) (rt []))) tupM)) nxS)
  (seqS (ifS (bd (two (lenNm 1) (rt (.int 3)) (eqP false (eqO Teq1 noO))) boolM) (retS (bd (consA (rt (.str "told")) (consA (heldM heldT 0 (consA (ixNm 1 (rt (.int 0))) (consA (ixNm 1 (rt (.int 1))) (consA (ixNm 1 (rt (.int 2))) (rt []))))) (rt []))) tupM)) nxS)
  (seqS (ifS (bd (two (lenNm 1) (rt (.int 4)) (eqP false (eqO Teq1 noO))) boolM) (retS (bd (consA (rt (.str "told")) (consA (heldM heldT 0 (consA (ixNm 1 (rt (.int 0))) (consA (ixNm 1 (rt (.int 1))) (consA (ixNm 1 (rt (.int 2))) (consA (ixNm 1 (rt (.int 3))) (rt [])))))) (rt []))) tupM)) nxS)
  (seqS (ifS (bd (two (lenNm 1) (rt (.int 5)) (eqP false (eqO Teq1 noO))) boolM) (retS (bd (consA (rt (.str "told")) (consA (heldM heldT 0 (consA (ixNm 1 (rt (.int 0))) (consA (ixNm 1 (rt (.int 1))) (consA (ixNm 1 (rt (.int 2))) (consA (ixNm 1 (rt (.int 3))) (consA (ixNm 1 (rt (.int 4))) (rt []))))))) (rt []))) tupM)) nxS)
  (retS (bd (consA (rt (.str "told")) (consA (heldM heldT 0 (consA (ixNm 1 (rt (.int 0))) (consA (ixNm 1 (rt (.int 1))) (consA (ixNm 1 (rt (.int 2))) (consA (ixNm 1 (rt (.int 3))) (consA (ixNm 1 (rt (.int 4))) (consA (ixNm 1 (rt (.int 5))) (rt [])))))))) (rt []))) tupM)))))))) [⟨"Malformed", none, fun _ => (retS (bd (consA (rt (.str "malformed")) (consA (rt .non) (rt []))) tupM))⟩, ⟨"Refused", some 2, retX "raised" (ct1 "Refused" ct0) "reason"⟩])
def m_law_told : Fm := fmOf 2 3 F_law_told
theorem ok_law_told (e : Ev ck fn K mg base) : ∃ fd, FunD K "_law_told" "_law_told" (defArgs s_law_told) (defBody s_law_told) (defScope s_law_told) (He.DefD.dvs K d_law_told) (He.DefD.kws K d_law_told) (He.ga K "_law_told") fd ∧ FnOk P w K mg base (L2.CX P w) 13 (He.ga K "_law_told") fd ["f", "given"] (spD K 2 (fmOf 2 3 F_law_told)) := by
  obtain ⟨fd, F0⟩ := e.c.def_ 33
  refine ⟨fd, F0, fn_ok F0 sc_law_told fun cdv A outer s H E b po => ?_⟩
  exact (dss_one (ds_try (sokB_ok (e.c.fact 42)) b sc_law_told.nd (fun _ _ _ b2 po2 => (dss_cons (ds_if (dt_cmp (opd_eqP b2.hr (opd_eqO (Teq1_E e) b2.tk (b2.hr.mono (by decide)) opd_no)) (de_lenN 1 rfl (He.free_ok e.kin e.ns (e.c.fact 25))) de_int) (dss_one (ds_ret (de_tup (da_cons de_str (da_cons (de_held0 0 (heldOk e) b2 (by decide)) da_nil))))) dss_nil)
  (dss_cons (ds_if (dt_cmp (opd_eqP b2.hr (opd_eqO (Teq1_E e) b2.tk (b2.hr.mono (by decide)) opd_no)) (de_lenN 1 rfl (He.free_ok e.kin e.ns (e.c.fact 25))) de_int) (dss_one (ds_ret (de_tup (da_cons de_str (da_cons (de_held 0 (heldOk e) b2 (by decide) (da_cons (de_ixN 1 de_int) da_nil)) da_nil))))) dss_nil)
  (dss_cons (ds_if (dt_cmp (opd_eqP b2.hr (opd_eqO (Teq1_E e) b2.tk (b2.hr.mono (by decide)) opd_no)) (de_lenN 1 rfl (He.free_ok e.kin e.ns (e.c.fact 25))) de_int) (dss_one (ds_ret (de_tup (da_cons de_str (da_cons (de_held 0 (heldOk e) b2 (by decide) (da_cons (de_ixN 1 de_int) (da_cons (de_ixN 1 de_int) da_nil))) da_nil))))) dss_nil)
  (dss_cons (ds_if (dt_cmp (opd_eqP b2.hr (opd_eqO (Teq1_E e) b2.tk (b2.hr.mono (by decide)) opd_no)) (de_lenN 1 rfl (He.free_ok e.kin e.ns (e.c.fact 25))) de_int) (dss_one (ds_ret (de_tup (da_cons de_str (da_cons (de_held 0 (heldOk e) b2 (by decide) (da_cons (de_ixN 1 de_int) (da_cons (de_ixN 1 de_int) (da_cons (de_ixN 1 de_int) da_nil)))) da_nil))))) dss_nil)
  (dss_cons (ds_if (dt_cmp (opd_eqP b2.hr (opd_eqO (Teq1_E e) b2.tk (b2.hr.mono (by decide)) opd_no)) (de_lenN 1 rfl (He.free_ok e.kin e.ns (e.c.fact 25))) de_int) (dss_one (ds_ret (de_tup (da_cons de_str (da_cons (de_held 0 (heldOk e) b2 (by decide) (da_cons (de_ixN 1 de_int) (da_cons (de_ixN 1 de_int) (da_cons (de_ixN 1 de_int) (da_cons (de_ixN 1 de_int) da_nil))))) da_nil))))) dss_nil)
  (dss_cons (ds_if (dt_cmp (opd_eqP b2.hr (opd_eqO (Teq1_E e) b2.tk (b2.hr.mono (by decide)) opd_no)) (de_lenN 1 rfl (He.free_ok e.kin e.ns (e.c.fact 25))) de_int) (dss_one (ds_ret (de_tup (da_cons de_str (da_cons (de_held 0 (heldOk e) b2 (by decide) (da_cons (de_ixN 1 de_int) (da_cons (de_ixN 1 de_int) (da_cons (de_ixN 1 de_int) (da_cons (de_ixN 1 de_int) (da_cons (de_ixN 1 de_int) da_nil)))))) da_nil))))) dss_nil)
  (dss_one (ds_ret (de_tup (da_cons de_str (da_cons (de_held 0 (heldOk e) b2 (by decide) (da_cons (de_ixN 1 de_int) (da_cons (de_ixN 1 de_int) (da_cons (de_ixN 1 de_int) (da_cons (de_ixN 1 de_int) (da_cons (de_ixN 1 de_int) (da_cons (de_ixN 1 de_int) da_nil))))))) da_nil)))))))))))) (.un ⟨rfl, by decide, .inl (He.glo_ok e.kin e.ns (e.c.fact 11))⟩ (su_plain fun _ _ _ => (dss_one (ds_ret (de_tup (da_cons de_str (da_cons de_non da_nil)))))) (.nm ⟨rfl, by decide, .inl (He.glo_ok e.kin e.ns (e.c.fact 12))⟩ rfl rfl (su_named (fxok1 (e.c.fact 41) fxok0)) .nil))))
theorem h_law_told (e : Ev ck fn K mg base) : HasF P w K mg base 13 (He.ga K "_law_told") [] m_law_told := hasF_of (ok_law_told e) (by intro _ _ _ _ _ _ us hl; exact match us, hl with | [_, _], _ => rfl)
theorem sc_law_bads : FnScope ["f", "given", "at", "bads", "bad", "own"] ["f", "given", "at", "bads"] (defScope s_law_bads) := ⟨rfl, rfl, rfl, by decide +kernel, rfl, by decide +kernel, by decide +kernel⟩
def F_law_bads : FS :=
  (seqS (forS (bd (varD 3) itms) (gNm 4) (seqS (setO 5 (bd (consA (varD 1) (rt [])) listO))
  (seqS (sixS 5 (varD 4) (varD 2))
  (ifS (bd (two (bd (consA (varD 0) (consA (bd (consA (varD 5) (rt [])) tupF) (rt []))) (callM m_law_told [])) (bd (consA (rt (.str "malformed")) (consA (rt .non) (rt []))) tupM) (eqP true (neO Teq1 (eqT Teq1 2 true noO)))) boolM) (retS (rt (.bl false))) nxS))))
  (retS (rt (.bl true))))
def m_law_bads : Fm := fmOf 4 6 F_law_bads
theorem ok_law_bads (e : Ev ck fn K mg base) : ∃ fd, FunD K "_law_bads" "_law_bads" (defArgs s_law_bads) (defBody s_law_bads) (defScope s_law_bads) (He.DefD.dvs K d_law_bads) (He.DefD.kws K d_law_bads) (He.ga K "_law_bads") fd ∧ FnOk P w K mg base (L2.CX P w) 14 (He.ga K "_law_bads") fd ["f", "given", "at", "bads"] (spD K 4 (fmOf 4 6 F_law_bads)) := by
  obtain ⟨fd, F0⟩ := e.c.def_ 34
  refine ⟨fd, F0, fn_ok F0 sc_law_bads fun cdv A outer s H E b po => ?_⟩
  exact (dss_cons (ds_for po b.calm (di_val (de_var 3)) (dg_name 4 sc_law_bads.nd) (dss_cons (ds_setO 5 sc_law_bads.nd (do_list rfl (He.free_ok e.kin e.ns (e.c.fact 43)) (da_cons (de_var 1) da_nil)))
  (dss_cons (ds_six 5 (de_var 4) (de_var 2))
  (dss_one (ds_if (dt_cmp (opd_neP b.hr (opd_neO (Teq1_E e) b.tk b.hr (by decide) (opd_neT 2 (Teq1_E e) b.tk b.hr (by decide) opd_no))) (de_call (h_law_told e) b (by decide) rfl (He.glo_ok e.kin e.ns (e.c.fact 44)) (da_cons (de_var 0) (da_cons (de_callT cd_tuple rfl (He.free_ok e.kin e.ns (e.c.fact 28)) PyProof.Rows.Boot.«tuple» (da_cons (de_var 5) da_nil)) da_nil))) (de_tup (da_cons de_str (da_cons de_non da_nil)))) (dss_one (ds_ret de_bl)) dss_nil)))))
  (dss_one (ds_ret de_bl)))
theorem h_law_bads (e : Ev ck fn K mg base) : HasF P w K mg base 14 (He.ga K "_law_bads") [] m_law_bads := hasF_of (ok_law_bads e) (by intro _ _ _ _ _ _ us hl; exact match us, hl with | [_, _, _, _], _ => rfl)
theorem sc_Ratio__add : FnScope ["self", "other"] ["self", "other"] (defScope s_Ratio__add) := ⟨rfl, rfl, rfl, by decide +kernel, rfl, by decide +kernel, by decide +kernel⟩
def F_Ratio__add : FS :=
  (seqS (dropS (bd (consA (varD 1) (rt [])) (callM m_check_ratio [])))
  (retS (bd (consA (two (two (fldN 0 Cn "n") (fldN 1 Cd "d") (mulI (ownO Tmul1 noO))) (two (fldN 1 Cn "n") (fldN 0 Cd "d") (mulI (ownO Tmul1 noO))) (addI (addS (addT noO)))) (consA (two (fldN 0 Cd "d") (fldN 1 Cd "d") (mulI (ownO Tmul1 noO))) (rt []))) (makeM "Ratio" m_Ratio__init []))))
def m_Ratio__add : Fm := fmOf 2 2 F_Ratio__add
theorem ok_Ratio__add (e : Ev ck fn K mg base) : ∃ fd, FunD K "__add__" "Ratio.__add__" (defArgs s_Ratio__add) (defBody s_Ratio__add) (defScope s_Ratio__add) (He.DefD.dvs K d_Ratio__add) (He.DefD.kws K d_Ratio__add) (He.ma K (He.ga K "Ratio") "__add__") fd ∧ FnOk P w K mg base (L2.CX P w) 6 (He.ma K (He.ga K "Ratio") "__add__") fd ["self", "other"] (spD K 2 (fmOf 2 2 F_Ratio__add)) := by
  obtain ⟨fd, F0⟩ := e.c.def_ 35
  refine ⟨fd, F0, fn_ok F0 sc_Ratio__add fun cdv A outer s H E b po => ?_⟩
  exact (dss_cons (ds_expr (de_call (h_check_ratio e) b (by decide) rfl (He.glo_ok e.kin e.ns (e.c.fact 18)) (da_cons (de_var 1) da_nil)))
  (dss_one (ds_ret (de_make (He.mkr_ok (e.c.fact 19)) (h_Ratio__init e) b (by decide) rfl (He.glo_ok e.kin e.ns (e.c.fact 17)) (da_cons (de_bin (opd_add (opd_addS (opd_addT opd_no))) (de_bin (opd_mul (opd_own (Tmul1_O e) b.tk (b.hr.mono (by decide)) opd_no)) (de_fldN 0 (Cn_F e)) (de_fldN 1 (Cd_F e))) (de_bin (opd_mul (opd_own (Tmul1_O e) b.tk (b.hr.mono (by decide)) opd_no)) (de_fldN 1 (Cn_F e)) (de_fldN 0 (Cd_F e)))) (da_cons (de_bin (opd_mul (opd_own (Tmul1_O e) b.tk (b.hr.mono (by decide)) opd_no)) (de_fldN 0 (Cd_F e)) (de_fldN 1 (Cd_F e))) da_nil))))))
theorem h_Ratio__add (e : Ev ck fn K mg base) : HasF P w K mg base 6 (He.ma K (He.ga K "Ratio") "__add__") [] m_Ratio__add := hasF_of (ok_Ratio__add e) (by intro _ _ _ _ _ _ us hl; exact match us, hl with | [_, _], _ => rfl)
def Tadd1 : MT := (mt1 "Ratio" m_Ratio__add [] mt0)
theorem Tadd1_O (e : Ev ck fn K mg base) : OOk P w K mg base 6 "__add__" Tadd1 := (ook1 (e.c.fact 21) (He.meth_ok (e.c.fact 45)) (h_Ratio__add e) (by decide) ook0)
theorem sc_law_choices : FnScope ["n", "k", "found", "t", "longer", "row", "x"] ["n", "k"] (defScope s_law_choices) := ⟨rfl, rfl, rfl, by decide +kernel, rfl, by decide +kernel, by decide +kernel⟩
def F_law_choices : FS :=
  (seqS (setS 2 (bd (consA (bd (rt []) tupM) (rt [])) lstM))
  (seqS (forS (bd (consA (varD 1) (rt [])) rngF1) (gNm 3) (seqS (setO 4 (bd (rt []) ownM))
  (seqS (forS (bd (varD 2) itms) (gNm 5) (forS (bd (consA (ifM (bd (two (lenNm 5) (rt (.int 0)) gtI) boolM) (two (ixNm 5 (bd (rt (.int 1)) negD)) (rt (.int 1)) (addI (addS (addT (ownO Tadd1 noO))))) (rt (.int 0))) (consA (varD 0) (rt []))) rngF2) (gNm 6) (dropS (appM 4 (two (varD 5) (bd (consA (varD 6) (rt [])) tupM) (addI (addS (addT (ownO Tadd1 noO)))))))))
  (setS 2 (frzM (bd (consA (varD 4) (rt [])) listO))))))
  (retS (varD 2))))
def m_law_choices : Fm := fmOf 2 7 F_law_choices
theorem ok_law_choices (e : Ev ck fn K mg base) : ∃ fd, FunD K "_law_choices" "_law_choices" (defArgs s_law_choices) (defBody s_law_choices) (defScope s_law_choices) (He.DefD.dvs K d_law_choices) (He.DefD.kws K d_law_choices) (He.ga K "_law_choices") fd ∧ FnOk P w K mg base (L2.CX P w) 7 (He.ga K "_law_choices") fd ["n", "k"] (spD K 2 (fmOf 2 7 F_law_choices)) := by
  obtain ⟨fd, F0⟩ := e.c.def_ 36
  refine ⟨fd, F0, fn_ok F0 sc_law_choices fun cdv A outer s H E b po => ?_⟩
  exact (dss_cons (ds_set 2 sc_law_choices.nd (de_lst (da_cons (de_tup da_nil) da_nil)))
  (dss_cons (ds_for po b.calm (di_rng1 rfl (He.free_ok e.kin e.ns (e.c.fact 26)) (da_cons (de_var 1) da_nil)) (dg_name 3 sc_law_choices.nd) (dss_cons (ds_setO 4 sc_law_choices.nd (do_lst da_nil))
  (dss_cons (ds_for po b.calm (di_val (de_var 2)) (dg_name 5 sc_law_choices.nd) (dss_one (ds_for po b.calm (di_rng2 rfl (He.free_ok e.kin e.ns (e.c.fact 26)) (da_cons (de_ifExp (dt_cmp opd_gt (de_lenN 5 rfl (He.free_ok e.kin e.ns (e.c.fact 25))) de_int) (de_bin (opd_add (opd_addS (opd_addT (opd_own (Tadd1_O e) b.tk (b.hr.mono (by decide)) opd_no)))) (de_ixN 5 (de_un und_neg de_int)) de_int) de_int) (da_cons (de_var 0) da_nil))) (dg_name 6 sc_law_choices.nd) (dss_one (ds_expr (de_append 4 (de_bin (opd_add (opd_addS (opd_addT (opd_own (Tadd1_O e) b.tk (b.hr.mono (by decide)) opd_no)))) (de_var 5) (de_tup (da_cons (de_var 6) da_nil)))))))))
  (dss_one (ds_set 2 sc_law_choices.nd (de_frz (do_list rfl (He.free_ok e.kin e.ns (e.c.fact 43)) (da_cons (de_var 4) da_nil))))))))
  (dss_one (ds_ret (de_var 2)))))
theorem h_law_choices (e : Ev ck fn K mg base) : HasF P w K mg base 7 (He.ga K "_law_choices") [] m_law_choices := hasF_of (ok_law_choices e) (by intro _ _ _ _ _ _ us hl; exact match us, hl with | [_, _], _ => rfl)
theorem sc_law_common : FnScope ["a", "b"] ["a", "b"] (defScope s_law_common) := ⟨rfl, rfl, rfl, by decide +kernel, rfl, by decide +kernel, by decide +kernel⟩
def F_law_common : FS :=
  (seqS (whileS fuelE (bd (two (varD 1) (rt (.int 0)) gtI) boolM) (par2 0 1 (consA (varD 1) (consA (two (bd (consA (varD 0) (rt [])) intF2) (varD 1) (modI noO)) (rt [])))))
  (retS (varD 0)))
def m_law_common : Fm := fmOf 2 2 F_law_common
theorem ok_law_common (e : Ev ck fn K mg base) : ∃ fd, FunD K "_law_common" "_law_common" (defArgs s_law_common) (defBody s_law_common) (defScope s_law_common) (He.DefD.dvs K d_law_common) (He.DefD.kws K d_law_common) (He.ga K "_law_common") fd ∧ FnOk P w K mg base (L2.CX P w) 1 (He.ga K "_law_common") fd ["a", "b"] (spD K 2 (fmOf 2 2 F_law_common)) := by
  obtain ⟨fd, F0⟩ := e.c.def_ 37
  refine ⟨fd, F0, fn_ok F0 sc_law_common fun cdv A outer s H E b po => ?_⟩
  exact (dss_cons (ds_while fuelE po (dt_cmp opd_gt (de_var 1) de_int) (dss_one (ds_par2 0 1 b.calm sc_law_common.nd (da_cons (de_var 1) (da_cons (de_bin (opd_mod opd_no) (de_callT cd_int2 rfl (He.free_ok e.kin e.ns (e.c.fact 8)) PyProof.Rows.Boot.«int» (da_cons (de_var 0) da_nil)) (de_var 1)) da_nil)))))
  (dss_one (ds_ret (de_var 0))))
theorem h_law_common (e : Ev ck fn K mg base) : HasF P w K mg base 1 (He.ga K "_law_common") [] m_law_common := hasF_of (ok_law_common e) (by intro _ _ _ _ _ _ us hl; exact match us, hl with | [_, _], _ => rfl)
theorem sc_law_plain : FnScope ["x"] ["x"] (defScope s_law_plain) := ⟨rfl, rfl, rfl, by decide +kernel, rfl, by decide +kernel, by decide +kernel⟩
def F_law_plain : FS :=
  (retS (andV (bd (consA (varD 0) (consA (rt (.ty "int")) (rt []))) (isiF vcls)) (notV (bd (consA (varD 0) (consA (rt (.ty "bool")) (rt []))) (isiF vcls)))))
def m_law_plain : Fm := fmOf 1 1 F_law_plain
theorem ok_law_plain (e : Ev ck fn K mg base) : ∃ fd, FunD K "_law_plain" "_law_plain" (defArgs s_law_plain) (defBody s_law_plain) (defScope s_law_plain) (He.DefD.dvs K d_law_plain) (He.DefD.kws K d_law_plain) (He.ga K "_law_plain") fd ∧ FnOk P w K mg base (L2.CX P w) 1 (He.ga K "_law_plain") fd ["x"] (spD K 1 (fmOf 1 1 F_law_plain)) := by
  obtain ⟨fd, F0⟩ := e.c.def_ 38
  refine ⟨fd, F0, fn_ok F0 sc_law_plain fun cdv A outer s H E b po => ?_⟩
  exact (dss_one (ds_ret (de_and (de_callB (cd_isi (iokB_ok (e.c.fact 6))) rfl (He.free_ok e.kin e.ns (e.c.fact 7)) PyProof.Rows.Boot.«isinstance» (da_cons (de_var 0) (da_cons (de_ty rfl (He.free_ok e.kin e.ns (e.c.fact 8)) PyProof.Rows.Boot.«int») da_nil))) (de_one (de_not (de_callB (cd_isi (iokB_ok (e.c.fact 6))) rfl (He.free_ok e.kin e.ns (e.c.fact 7)) PyProof.Rows.Boot.«isinstance» (da_cons (de_var 0) (da_cons (de_ty rfl (He.free_ok e.kin e.ns (e.c.fact 5)) PyProof.Rows.Boot.«bool») da_nil))))))))
theorem h_law_plain (e : Ev ck fn K mg base) : HasF P w K mg base 1 (He.ga K "_law_plain") [] m_law_plain := hasF_of (ok_law_plain e) (by intro _ _ _ _ _ _ us hl; exact match us, hl with | [_], _ => rfl)
theorem sc_law_same : FnScope ["value", "due", "k"] ["value", "due"] (defScope s_law_same) := ⟨rfl, rfl, rfl, by decide +kernel, rfl, by decide +kernel, by decide +kernel⟩
def F_law_same (self : Fm) : FS :=
  (seqS (ifS (bd (bd (consA (varD 1) (consA (rt (.ty "list")) (rt []))) (isiF vcls)) boolM) (retS (andV (bd (consA (varD 0) (consA (rt (.ty "list")) (rt []))) (isiF vcls)) (bd (consA (bd (consA (varD 0) (rt [])) tupF) (consA (bd (consA (varD 1) (rt [])) tupF) (rt []))) (callM self [])))) nxS)
  (seqS (ifS (bd (bd (consA (varD 1) (consA (rt (.ty "tuple")) (rt []))) (isiF vcls)) boolM) (retS (andV (bd (consA (varD 0) (consA (rt (.ty "tuple")) (rt []))) (isiF vcls)) (andV (two (lenNm 0) (lenNm 1) (eqP false (eqO Teq1 noO))) (bd (consA (frzM (lcM [2] (bd (consA (lenNm 1) (rt [])) rngF1) (gNm 2) (rt true) (bd (consA (ixNm 0 (varD 2)) (consA (ixNm 1 (varD 2)) (rt []))) (callM self [])))) (rt [])) allF)))) nxS)
  (seqS (ifS (bd (isNV (varD 1) false) boolM) (retS (isNV (varD 0) false)) nxS)
  (seqS (ifS (bd (bd (consA (varD 1) (consA (rt (.ty "bool")) (rt []))) (isiF vcls)) boolM) (retS (andV (bd (consA (varD 0) (consA (rt (.ty "bool")) (rt []))) (isiF vcls)) (two (varD 0) (varD 1) (eqP false (eqO Teq1 (eqT Teq1 2 false noO)))))) nxS)
  (seqS (ifS (bd (bd (consA (varD 1) (consA (rt (.ty "str")) (rt []))) (isiF vcls)) boolM) (retS (andV (bd (consA (varD 0) (consA (rt (.ty "str")) (rt []))) (isiF vcls)) (two (varD 0) (varD 1) (eqP false (eqO Teq1 (eqT Teq1 2 false noO)))))) nxS)
  (seqS (ifS (bd (bd (consA (varD 1) (consA (rt (.ty "int")) (rt []))) (isiF vcls)) boolM) (retS (andV (bd (consA (varD 0) (consA (rt (.ty "int")) (rt []))) (isiF vcls)) (andV (notV (bd (consA (varD 0) (consA (rt (.ty "bool")) (rt []))) (isiF vcls))) (two (varD 0) (varD 1) (eqP false (eqO Teq1 (eqT Teq1 2 false noO))))))) nxS)
  (retS (andV (notV (bd (consA (varD 0) (consA (rt (.ty "int")) (rt []))) (isiF vcls))) (two (varD 0) (varD 1) (eqP false (eqO Teq1 (eqT Teq1 2 false noO))))))))))))
def r_law_same : Nat → Fm
  | 0 => fun _ => .stuck
  | n + 1 => fmOf 2 3 (F_law_same (r_law_same n))
def m_law_same : Fm := r_law_same 12
theorem st_law_same (e : Ev ck fn K mg base) (self : Fm) (l : Nat) (hl : 4 ≤ l) (hself : HasF P w K mg base l (He.ga K "_law_same") [] self) : ∃ fd, FunD K "_law_same" "_law_same" (defArgs s_law_same) (defBody s_law_same) (defScope s_law_same) (He.DefD.dvs K d_law_same) (He.DefD.kws K d_law_same) (He.ga K "_law_same") fd ∧ FnOk P w K mg base (L2.CX P w) (l + 1) (He.ga K "_law_same") fd ["value", "due"] (spD K 2 (fmOf 2 3 (F_law_same self))) := by
  obtain ⟨fd, F0⟩ := e.c.def_ 39
  refine ⟨fd, F0, fn_ok F0 sc_law_same fun cdv A outer s H E b po => ?_⟩
  exact (dss_cons (ds_if (dt_val (de_callB (cd_isi (iokB_ok (e.c.fact 6))) rfl (He.free_ok e.kin e.ns (e.c.fact 7)) PyProof.Rows.Boot.«isinstance» (da_cons (de_var 1) (da_cons (de_ty rfl (He.free_ok e.kin e.ns (e.c.fact 43)) PyProof.Rows.Boot.«list») da_nil)))) (dss_one (ds_ret (de_and (de_callB (cd_isi (iokB_ok (e.c.fact 6))) rfl (He.free_ok e.kin e.ns (e.c.fact 7)) PyProof.Rows.Boot.«isinstance» (da_cons (de_var 0) (da_cons (de_ty rfl (He.free_ok e.kin e.ns (e.c.fact 43)) PyProof.Rows.Boot.«list») da_nil))) (de_one (de_call hself b (Nat.le_refl _) rfl (He.glo_ok e.kin e.ns (e.c.fact 46)) (da_cons (de_callT cd_tuple rfl (He.free_ok e.kin e.ns (e.c.fact 28)) PyProof.Rows.Boot.«tuple» (da_cons (de_var 0) da_nil)) (da_cons (de_callT cd_tuple rfl (He.free_ok e.kin e.ns (e.c.fact 28)) PyProof.Rows.Boot.«tuple» (da_cons (de_var 1) da_nil)) da_nil))))))) dss_nil)
  (dss_cons (ds_if (dt_val (de_callB (cd_isi (iokB_ok (e.c.fact 6))) rfl (He.free_ok e.kin e.ns (e.c.fact 7)) PyProof.Rows.Boot.«isinstance» (da_cons (de_var 1) (da_cons (de_ty rfl (He.free_ok e.kin e.ns (e.c.fact 28)) PyProof.Rows.Boot.«tuple») da_nil)))) (dss_one (ds_ret (de_and (de_callB (cd_isi (iokB_ok (e.c.fact 6))) rfl (He.free_ok e.kin e.ns (e.c.fact 7)) PyProof.Rows.Boot.«isinstance» (da_cons (de_var 0) (da_cons (de_ty rfl (He.free_ok e.kin e.ns (e.c.fact 28)) PyProof.Rows.Boot.«tuple») da_nil))) (de_and (de_cmp (opd_eqP b.hr (opd_eqO (Teq1_E e) b.tk (b.hr.mono (Nat.le_trans (by decide) hl)) opd_no)) (de_lenN 0 rfl (He.free_ok e.kin e.ns (e.c.fact 25))) (de_lenN 1 rfl (He.free_ok e.kin e.ns (e.c.fact 25)))) (de_one (de_callB (cd_all b.calm) rfl (He.free_ok e.kin e.ns (e.c.fact 27)) PyProof.Rows.Boot.«all» (da_cons (de_frz (do_lc b sc_law_same.nd [("k", 2)] (di_rng1 rfl (He.free_ok e.kin e.ns (e.c.fact 26)) (da_cons (de_lenN 1 rfl (He.free_ok e.kin e.ns (e.c.fact 25))) da_nil)) (blk_of rfl) (fun _ _ _ _ _ bb => (dg_name 2 sc_law_same.nd)) (fun _ _ _ _ _ bb => dts_nil) (fun _ _ _ _ _ bb => (de_call hself bb (Nat.le_refl _) rfl (He.glo_ok e.kin e.ns (e.c.fact 46)) (da_cons (de_ixN 0 (de_var 2)) (da_cons (de_ixN 1 (de_var 2)) da_nil)))))) da_nil))))))) dss_nil)
  (dss_cons (ds_if (dt_isN (de_var 1)) (dss_one (ds_ret (de_isN (de_var 0)))) dss_nil)
  (dss_cons (ds_if (dt_val (de_callB (cd_isi (iokB_ok (e.c.fact 6))) rfl (He.free_ok e.kin e.ns (e.c.fact 7)) PyProof.Rows.Boot.«isinstance» (da_cons (de_var 1) (da_cons (de_ty rfl (He.free_ok e.kin e.ns (e.c.fact 5)) PyProof.Rows.Boot.«bool») da_nil)))) (dss_one (ds_ret (de_and (de_callB (cd_isi (iokB_ok (e.c.fact 6))) rfl (He.free_ok e.kin e.ns (e.c.fact 7)) PyProof.Rows.Boot.«isinstance» (da_cons (de_var 0) (da_cons (de_ty rfl (He.free_ok e.kin e.ns (e.c.fact 5)) PyProof.Rows.Boot.«bool») da_nil))) (de_one (de_cmp (opd_eqP b.hr (opd_eqO (Teq1_E e) b.tk (b.hr.mono (Nat.le_trans (by decide) hl)) (opd_eqT0 2 (Teq1_E e) b.tk b.hr (Nat.le_trans (by decide) hl) opd_no))) (de_var 0) (de_var 1)))))) dss_nil)
  (dss_cons (ds_if (dt_val (de_callB (cd_isi (iokB_ok (e.c.fact 6))) rfl (He.free_ok e.kin e.ns (e.c.fact 7)) PyProof.Rows.Boot.«isinstance» (da_cons (de_var 1) (da_cons (de_ty rfl (He.free_ok e.kin e.ns (e.c.fact 34)) PyProof.Rows.Boot.«str») da_nil)))) (dss_one (ds_ret (de_and (de_callB (cd_isi (iokB_ok (e.c.fact 6))) rfl (He.free_ok e.kin e.ns (e.c.fact 7)) PyProof.Rows.Boot.«isinstance» (da_cons (de_var 0) (da_cons (de_ty rfl (He.free_ok e.kin e.ns (e.c.fact 34)) PyProof.Rows.Boot.«str») da_nil))) (de_one (de_cmp (opd_eqP b.hr (opd_eqO (Teq1_E e) b.tk (b.hr.mono (Nat.le_trans (by decide) hl)) (opd_eqT0 2 (Teq1_E e) b.tk b.hr (Nat.le_trans (by decide) hl) opd_no))) (de_var 0) (de_var 1)))))) dss_nil)
  (dss_cons (ds_if (dt_val (de_callB (cd_isi (iokB_ok (e.c.fact 6))) rfl (He.free_ok e.kin e.ns (e.c.fact 7)) PyProof.Rows.Boot.«isinstance» (da_cons (de_var 1) (da_cons (de_ty rfl (He.free_ok e.kin e.ns (e.c.fact 8)) PyProof.Rows.Boot.«int») da_nil)))) (dss_one (ds_ret (de_and (de_callB (cd_isi (iokB_ok (e.c.fact 6))) rfl (He.free_ok e.kin e.ns (e.c.fact 7)) PyProof.Rows.Boot.«isinstance» (da_cons (de_var 0) (da_cons (de_ty rfl (He.free_ok e.kin e.ns (e.c.fact 8)) PyProof.Rows.Boot.«int») da_nil))) (de_and (de_not (de_callB (cd_isi (iokB_ok (e.c.fact 6))) rfl (He.free_ok e.kin e.ns (e.c.fact 7)) PyProof.Rows.Boot.«isinstance» (da_cons (de_var 0) (da_cons (de_ty rfl (He.free_ok e.kin e.ns (e.c.fact 5)) PyProof.Rows.Boot.«bool») da_nil)))) (de_one (de_cmp (opd_eqP b.hr (opd_eqO (Teq1_E e) b.tk (b.hr.mono (Nat.le_trans (by decide) hl)) (opd_eqT0 2 (Teq1_E e) b.tk b.hr (Nat.le_trans (by decide) hl) opd_no))) (de_var 0) (de_var 1))))))) dss_nil)
  (dss_one (ds_ret (de_and (de_not (de_callB (cd_isi (iokB_ok (e.c.fact 6))) rfl (He.free_ok e.kin e.ns (e.c.fact 7)) PyProof.Rows.Boot.«isinstance» (da_cons (de_var 0) (da_cons (de_ty rfl (He.free_ok e.kin e.ns (e.c.fact 8)) PyProof.Rows.Boot.«int») da_nil)))) (de_one (de_cmp (opd_eqP b.hr (opd_eqO (Teq1_E e) b.tk (b.hr.mono (Nat.le_trans (by decide) hl)) (opd_eqT0 2 (Teq1_E e) b.tk b.hr (Nat.le_trans (by decide) hl) opd_no))) (de_var 0) (de_var 1))))))))))))
theorem z_law_same (e : Ev ck fn K mg base) : ∀ n, HasF P w K mg base (4 + n) (He.ga K "_law_same") [] (r_law_same n)
  | 0 => by
    obtain ⟨fd, F0⟩ := e.c.def_ 39
    exact hasF_stuck (ps := ["value", "due"]) F0 (by intro _ _ _ _ _ _ us hl; exact match us, hl with | [_, _], _ => rfl)
  | n + 1 => hasF_of (st_law_same e (r_law_same n) (4 + n) (Nat.le_add_right _ _) (z_law_same e n)) (by intro _ _ _ _ _ _ us hl; exact match us, hl with | [_, _], _ => rfl)
theorem h_law_same (e : Ev ck fn K mg base) : HasF P w K mg base 16 (He.ga K "_law_same") [] m_law_same := z_law_same e 12
theorem sc_law_is_raised : FnScope ["pair", "reason"] ["pair", "reason"] (defScope s_law_is_raised) := ⟨rfl, rfl, rfl, by decide +kernel, rfl, by decide +kernel, by decide +kernel⟩
def F_law_is_raised : FS :=
  (seqS (ifS (bd (two (varD 1) (rt (.str "malformed")) (eqP false (eqO Teq1 noO))) boolM) (retS (two (ixNm 0 (rt (.int 0))) (rt (.str "malformed")) (eqP false (eqO Teq1 noO)))) nxS)
  (retS (andV (two (ixNm 0 (rt (.int 0))) (rt (.str "raised")) (eqP false (eqO Teq1 noO))) (bd (consA (ixNm 0 (rt (.int 1))) (consA (varD 1) (rt []))) (callM m_law_same [])))))
def m_law_is_raised : Fm := fmOf 2 2 F_law_is_raised
theorem ok_law_is_raised (e : Ev ck fn K mg base) : ∃ fd, FunD K "_law_is_raised" "_law_is_raised" (defArgs s_law_is_raised) (defBody s_law_is_raised) (defScope s_law_is_raised) (He.DefD.dvs K d_law_is_raised) (He.DefD.kws K d_law_is_raised) (He.ga K "_law_is_raised") fd ∧ FnOk P w K mg base (L2.CX P w) 17 (He.ga K "_law_is_raised") fd ["pair", "reason"] (spD K 2 (fmOf 2 2 F_law_is_raised)) := by
  obtain ⟨fd, F0⟩ := e.c.def_ 40
  refine ⟨fd, F0, fn_ok F0 sc_law_is_raised fun cdv A outer s H E b po => ?_⟩
  exact (dss_cons (ds_if (dt_cmp (opd_eqP b.hr (opd_eqO (Teq1_E e) b.tk (b.hr.mono (by decide)) opd_no)) (de_var 1) de_str) (dss_one (ds_ret (de_cmp (opd_eqP b.hr (opd_eqO (Teq1_E e) b.tk (b.hr.mono (by decide)) opd_no)) (de_ixN 0 de_int) de_str))) dss_nil)
  (dss_one (ds_ret (de_and (de_cmp (opd_eqP b.hr (opd_eqO (Teq1_E e) b.tk (b.hr.mono (by decide)) opd_no)) (de_ixN 0 de_int) de_str) (de_one (de_call (h_law_same e) b (by decide) rfl (He.glo_ok e.kin e.ns (e.c.fact 46)) (da_cons (de_ixN 0 de_int) (da_cons (de_var 1) da_nil))))))))
theorem h_law_is_raised (e : Ev ck fn K mg base) : HasF P w K mg base 17 (He.ga K "_law_is_raised") [] m_law_is_raised := hasF_of (ok_law_is_raised e) (by intro _ _ _ _ _ _ us hl; exact match us, hl with | [_, _], _ => rfl)
theorem sc_law_raises : FnScope ["f", "given", "reason"] ["f", "given", "reason"] (defScope s_law_raises) := ⟨rfl, rfl, rfl, by decide +kernel, rfl, by decide +kernel, by decide +kernel⟩
def F_law_raises : FS :=
  (retS (bd (consA (bd (consA (varD 0) (consA (varD 1) (rt []))) (callM m_law_told [])) (consA (varD 2) (rt []))) (callM m_law_is_raised [])))
def m_law_raises : Fm := fmOf 3 3 F_law_raises
theorem ok_law_raises (e : Ev ck fn K mg base) : ∃ fd, FunD K "_law_raises" "_law_raises" (defArgs s_law_raises) (defBody s_law_raises) (defScope s_law_raises) (He.DefD.dvs K d_law_raises) (He.DefD.kws K d_law_raises) (He.ga K "_law_raises") fd ∧ FnOk P w K mg base (L2.CX P w) 18 (He.ga K "_law_raises") fd ["f", "given", "reason"] (spD K 3 (fmOf 3 3 F_law_raises)) := by
  obtain ⟨fd, F0⟩ := e.c.def_ 41
  refine ⟨fd, F0, fn_ok F0 sc_law_raises fun cdv A outer s H E b po => ?_⟩
  exact (dss_one (ds_ret (de_call (h_law_is_raised e) b (by decide) rfl (He.glo_ok e.kin e.ns (e.c.fact 47)) (da_cons (de_call (h_law_told e) b (by decide) rfl (He.glo_ok e.kin e.ns (e.c.fact 44)) (da_cons (de_var 0) (da_cons (de_var 1) da_nil))) (da_cons (de_var 2) da_nil)))))
theorem h_law_raises (e : Ev ck fn K mg base) : HasF P w K mg base 18 (He.ga K "_law_raises") [] m_law_raises := hasF_of (ok_law_raises e) (by intro _ _ _ _ _ _ us hl; exact match us, hl with | [_, _, _], _ => rfl)
theorem sc_law_read : FnScope ["f", "text", "error"] ["f", "text"] (defScope s_law_read) := ⟨rfl, rfl, rfl, by decide +kernel, rfl, by decide +kernel, by decide +kernel⟩
def F_law_read : FS :=
  (tryS subs (retS (bd (consA (rt (.str "read")) (consA (heldM heldT 0 (consA (varD 1) (rt []))) (rt []))) tupM)) [⟨"NoText", some 2, retX "text" (ct1 "NoText" ct0) "at"⟩])
def m_law_read : Fm := fmOf 2 3 F_law_read
theorem ok_law_read (e : Ev ck fn K mg base) : ∃ fd, FunD K "_law_read" "_law_read" (defArgs s_law_read) (defBody s_law_read) (defScope s_law_read) (He.DefD.dvs K d_law_read) (He.DefD.kws K d_law_read) (He.ga K "_law_read") fd ∧ FnOk P w K mg base (L2.CX P w) 13 (He.ga K "_law_read") fd ["f", "text"] (spD K 2 (fmOf 2 3 F_law_read)) := by
  obtain ⟨fd, F0⟩ := e.c.def_ 42
  refine ⟨fd, F0, fn_ok F0 sc_law_read fun cdv A outer s H E b po => ?_⟩
  exact (dss_one (ds_try (sokB_ok (e.c.fact 42)) b sc_law_read.nd (fun _ _ _ b2 po2 => (dss_one (ds_ret (de_tup (da_cons de_str (da_cons (de_held 0 (heldOk e) b2 (by decide) (da_cons (de_var 1) da_nil)) da_nil)))))) (.nm ⟨rfl, by decide, .inl (He.glo_ok e.kin e.ns (e.c.fact 36))⟩ rfl rfl (su_named (fxok1 (e.c.fact 48) fxok0)) .nil)))
theorem h_law_read (e : Ev ck fn K mg base) : HasF P w K mg base 13 (He.ga K "_law_read") [] m_law_read := hasF_of (ok_law_read e) (by intro _ _ _ _ _ _ us hl; exact match us, hl with | [_, _], _ => rfl)
theorem sc_law_state : FnScope ["script", "seed", "total", "cell"] ["script"] (defScope s_law_state) := ⟨rfl, rfl, rfl, by decide +kernel, rfl, by decide +kernel, by decide +kernel⟩
def F_law_state : FS :=
  (seqS (setS 1 (rt (.int 0)))
  (seqS (setS 2 (rt (.int 1)))
  (seqS (forS (bd (slF (varD 0) (rt none) (partF (rt (.int 63)))) itms) (gNm 3) (seqS (setS 1 (two (two (varD 1) (rt (.int 1000003)) (mulI (ownO Tmul1 noO))) (bd (consA (varD 3) (rt [])) absF) (addI (addS (addT (ownO Tadd1 noO))))))
  (setS 2 (two (bd (consA (two (two (varD 2) (rt (.int 48271)) (mulI (ownO Tmul1 noO))) (varD 3) (addI (addS (addT (ownO Tadd1 noO))))) (rt [])) intF2) (rt (.int 2147483647)) (modI noO)))))
  (retO (bd (consA (varD 1) (consA (ifM (bd (two (varD 2) (rt (.int 1973665155)) (eqP true (neO Teq1 noO))) boolM) (varD 2) (rt (.int 7))) (rt []))) ownM)))))
def m_law_state : Fm := fmOf 1 4 F_law_state
theorem ok_law_state (e : Ev ck fn K mg base) : ∃ fd, FunD K "_law_state" "_law_state" (defArgs s_law_state) (defBody s_law_state) (defScope s_law_state) (He.DefD.dvs K d_law_state) (He.DefD.kws K d_law_state) (He.ga K "_law_state") fd ∧ FnOk P w K mg base (L2.CX P w) 7 (He.ga K "_law_state") fd ["script"] (spD K 1 (fmOf 1 4 F_law_state)) := by
  obtain ⟨fd, F0⟩ := e.c.def_ 43
  refine ⟨fd, F0, fn_ok F0 sc_law_state fun cdv A outer s H E b po => ?_⟩
  exact (dss_cons (ds_set 1 sc_law_state.nd de_int)
  (dss_cons (ds_set 2 sc_law_state.nd de_int)
  (dss_cons (ds_for po b.calm (di_val (de_sl (de_var 0) dp_none (dp_some de_int))) (dg_name 3 sc_law_state.nd) (dss_cons (ds_set 1 sc_law_state.nd (de_bin (opd_add (opd_addS (opd_addT (opd_own (Tadd1_O e) b.tk (b.hr.mono (by decide)) opd_no)))) (de_bin (opd_mul (opd_own (Tmul1_O e) b.tk (b.hr.mono (by decide)) opd_no)) (de_var 1) de_int) (de_callB cd_abs rfl (He.free_ok e.kin e.ns (e.c.fact 4)) PyProof.Rows.Boot.«abs» (da_cons (de_var 3) da_nil))))
  (dss_one (ds_set 2 sc_law_state.nd (de_bin (opd_mod opd_no) (de_callT cd_int2 rfl (He.free_ok e.kin e.ns (e.c.fact 8)) PyProof.Rows.Boot.«int» (da_cons (de_bin (opd_add (opd_addS (opd_addT (opd_own (Tadd1_O e) b.tk (b.hr.mono (by decide)) opd_no)))) (de_bin (opd_mul (opd_own (Tmul1_O e) b.tk (b.hr.mono (by decide)) opd_no)) (de_var 2) de_int) (de_var 3)) da_nil)) de_int)))))
  (dss_one (ds_retO (do_lst (da_cons (de_var 1) (da_cons (de_ifExp (dt_cmp (opd_neP b.hr (opd_neO (Teq1_E e) b.tk b.hr (by decide) opd_no)) (de_var 2) de_int) (de_var 2) de_int) da_nil))))))))
theorem h_law_state (e : Ev ck fn K mg base) : HasF P w K mg base 7 (He.ga K "_law_state") [] m_law_state := hasF_of (ok_law_state e) (by intro _ _ _ _ _ _ us hl; exact match us, hl with | [_], _ => rfl)
theorem sc_law_take : FnScope ["state", "m", "value"] ["state", "m"] (defScope s_law_take) := ⟨rfl, rfl, rfl, by decide +kernel, rfl, by decide +kernel, by decide +kernel⟩
def F_law_take : FS :=
  (seqS (ifS (bd (two (ixNm 0 (rt (.int 0))) (rt (.int 0)) gtI) boolM) (seqS (setS 2 (two (bd (consA (ixNm 0 (rt (.int 0))) (rt [])) intF2) (varD 1) (modI noO)))
  (seqS (sixS 0 (two (ixNm 0 (rt (.int 0))) (varD 1) (fdivI noO)) (rt (.int 0)))
  (retS (varD 2)))) nxS)
  (seqS (sixS 0 (two (bd (consA (two (two (ixNm 0 (rt (.int 1))) (rt (.int 48271)) (mulI (ownO Tmul1 noO))) (rt (.int 11)) (addI (addS (addT (ownO Tadd1 noO))))) (rt [])) intF2) (rt (.int 2147483647)) (modI noO)) (rt (.int 1)))
  (retS (two (bd (consA (two (ixNm 0 (rt (.int 1))) (rt (.int 7)) (fdivI noO)) (rt [])) intF2) (varD 1) (modI noO)))))
def m_law_take : FmB := fmB 2 3 F_law_take
theorem ok_law_take (e : Ev ck fn K mg base) : ∃ fd, FunD K "_law_take" "_law_take" (defArgs s_law_take) (defBody s_law_take) (defScope s_law_take) (He.DefD.dvs K d_law_take) (He.DefD.kws K d_law_take) (He.ga K "_law_take") fd ∧ FnOk P w K mg base (L2.CX P w) 7 (He.ga K "_law_take") fd ["state", "m"] (spB K 2 (fmB 2 3 F_law_take)) := by
  obtain ⟨fd, F0⟩ := e.c.def_ 44
  refine ⟨fd, F0, fnB_ok F0 sc_law_take fun cdv A outer s H E b po => ?_⟩
  exact (dss_cons (ds_if (dt_cmp opd_gt (de_ixN 0 de_int) de_int) (dss_cons (ds_set 2 sc_law_take.nd (de_bin (opd_mod opd_no) (de_callT cd_int2 rfl (He.free_ok e.kin e.ns (e.c.fact 8)) PyProof.Rows.Boot.«int» (da_cons (de_ixN 0 de_int) da_nil)) (de_var 1)))
  (dss_cons (ds_six 0 (de_bin (opd_fdiv opd_no) (de_ixN 0 de_int) (de_var 1)) de_int)
  (dss_one (ds_ret (de_var 2))))) dss_nil)
  (dss_cons (ds_six 0 (de_bin (opd_mod opd_no) (de_callT cd_int2 rfl (He.free_ok e.kin e.ns (e.c.fact 8)) PyProof.Rows.Boot.«int» (da_cons (de_bin (opd_add (opd_addS (opd_addT (opd_own (Tadd1_O e) b.tk (b.hr.mono (by decide)) opd_no)))) (de_bin (opd_mul (opd_own (Tmul1_O e) b.tk (b.hr.mono (by decide)) opd_no)) (de_ixN 0 de_int) de_int) de_int) da_nil)) de_int) de_int)
  (dss_one (ds_ret (de_bin (opd_mod opd_no) (de_callT cd_int2 rfl (He.free_ok e.kin e.ns (e.c.fact 8)) PyProof.Rows.Boot.«int» (da_cons (de_bin (opd_fdiv opd_no) (de_ixN 0 de_int) de_int) da_nil)) (de_var 1))))))
theorem h_law_take (e : Ev ck fn K mg base) : HasB P w K mg base 7 (He.ga K "_law_take") [] m_law_take := hasB_of (ok_law_take e) (by intro _ _ _ _ _ _ us hl; exact match us, hl with | [_, _], _ => rfl)
theorem sc_law_is_told : FnScope ["pair", "due"] ["pair", "due"] (defScope s_law_is_told) := ⟨rfl, rfl, rfl, by decide +kernel, rfl, by decide +kernel, by decide +kernel⟩
def F_law_is_told : FS :=
  (retS (andV (two (ixNm 0 (rt (.int 0))) (rt (.str "told")) (eqP false (eqO Teq1 noO))) (bd (consA (ixNm 0 (rt (.int 1))) (consA (varD 1) (rt []))) (callM m_law_same []))))
def m_law_is_told : Fm := fmOf 2 2 F_law_is_told
theorem ok_law_is_told (e : Ev ck fn K mg base) : ∃ fd, FunD K "_law_is_told" "_law_is_told" (defArgs s_law_is_told) (defBody s_law_is_told) (defScope s_law_is_told) (He.DefD.dvs K d_law_is_told) (He.DefD.kws K d_law_is_told) (He.ga K "_law_is_told") fd ∧ FnOk P w K mg base (L2.CX P w) 17 (He.ga K "_law_is_told") fd ["pair", "due"] (spD K 2 (fmOf 2 2 F_law_is_told)) := by
  obtain ⟨fd, F0⟩ := e.c.def_ 45
  refine ⟨fd, F0, fn_ok F0 sc_law_is_told fun cdv A outer s H E b po => ?_⟩
  exact (dss_one (ds_ret (de_and (de_cmp (opd_eqP b.hr (opd_eqO (Teq1_E e) b.tk (b.hr.mono (by decide)) opd_no)) (de_ixN 0 de_int) de_str) (de_one (de_call (h_law_same e) b (by decide) rfl (He.glo_ok e.kin e.ns (e.c.fact 46)) (da_cons (de_ixN 0 de_int) (da_cons (de_var 1) da_nil)))))))
theorem h_law_is_told (e : Ev ck fn K mg base) : HasF P w K mg base 17 (He.ga K "_law_is_told") [] m_law_is_told := hasF_of (ok_law_is_told e) (by intro _ _ _ _ _ _ us hl; exact match us, hl with | [_, _], _ => rfl)
theorem sc_law_tells : FnScope ["f", "given", "due"] ["f", "given", "due"] (defScope s_law_tells) := ⟨rfl, rfl, rfl, by decide +kernel, rfl, by decide +kernel, by decide +kernel⟩
def F_law_tells : FS :=
  (retS (bd (consA (bd (consA (varD 0) (consA (varD 1) (rt []))) (callM m_law_told [])) (consA (varD 2) (rt []))) (callM m_law_is_told [])))
def m_law_tells : Fm := fmOf 3 3 F_law_tells
theorem ok_law_tells (e : Ev ck fn K mg base) : ∃ fd, FunD K "_law_tells" "_law_tells" (defArgs s_law_tells) (defBody s_law_tells) (defScope s_law_tells) (He.DefD.dvs K d_law_tells) (He.DefD.kws K d_law_tells) (He.ga K "_law_tells") fd ∧ FnOk P w K mg base (L2.CX P w) 18 (He.ga K "_law_tells") fd ["f", "given", "due"] (spD K 3 (fmOf 3 3 F_law_tells)) := by
  obtain ⟨fd, F0⟩ := e.c.def_ 46
  refine ⟨fd, F0, fn_ok F0 sc_law_tells fun cdv A outer s H E b po => ?_⟩
  exact (dss_one (ds_ret (de_call (h_law_is_told e) b (by decide) rfl (He.glo_ok e.kin e.ns (e.c.fact 49)) (da_cons (de_call (h_law_told e) b (by decide) rfl (He.glo_ok e.kin e.ns (e.c.fact 44)) (da_cons (de_var 0) (da_cons (de_var 1) da_nil))) (da_cons (de_var 2) da_nil)))))
theorem h_law_tells (e : Ev ck fn K mg base) : HasF P w K mg base 18 (He.ga K "_law_tells") [] m_law_tells := hasF_of (ok_law_tells e) (by intro _ _ _ _ _ _ us hl; exact match us, hl with | [_, _, _], _ => rfl)
theorem sc_Ratio__sub : FnScope ["self", "other"] ["self", "other"] (defScope s_Ratio__sub) := ⟨rfl, rfl, rfl, by decide +kernel, rfl, by decide +kernel, by decide +kernel⟩
def F_Ratio__sub : FS :=
  (seqS (dropS (bd (consA (varD 1) (rt [])) (callM m_check_ratio [])))
  (retS (bd (consA (two (two (fldN 0 Cn "n") (fldN 1 Cd "d") (mulI (ownO Tmul1 noO))) (two (fldN 1 Cn "n") (fldN 0 Cd "d") (mulI (ownO Tmul1 noO))) (subI noO)) (consA (two (fldN 0 Cd "d") (fldN 1 Cd "d") (mulI (ownO Tmul1 noO))) (rt []))) (makeM "Ratio" m_Ratio__init []))))
def m_Ratio__sub : Fm := fmOf 2 2 F_Ratio__sub
theorem ok_Ratio__sub (e : Ev ck fn K mg base) : ∃ fd, FunD K "__sub__" "Ratio.__sub__" (defArgs s_Ratio__sub) (defBody s_Ratio__sub) (defScope s_Ratio__sub) (He.DefD.dvs K d_Ratio__sub) (He.DefD.kws K d_Ratio__sub) (He.ma K (He.ga K "Ratio") "__sub__") fd ∧ FnOk P w K mg base (L2.CX P w) 6 (He.ma K (He.ga K "Ratio") "__sub__") fd ["self", "other"] (spD K 2 (fmOf 2 2 F_Ratio__sub)) := by
  obtain ⟨fd, F0⟩ := e.c.def_ 47
  refine ⟨fd, F0, fn_ok F0 sc_Ratio__sub fun cdv A outer s H E b po => ?_⟩
  exact (dss_cons (ds_expr (de_call (h_check_ratio e) b (by decide) rfl (He.glo_ok e.kin e.ns (e.c.fact 18)) (da_cons (de_var 1) da_nil)))
  (dss_one (ds_ret (de_make (He.mkr_ok (e.c.fact 19)) (h_Ratio__init e) b (by decide) rfl (He.glo_ok e.kin e.ns (e.c.fact 17)) (da_cons (de_bin (opd_sub opd_no) (de_bin (opd_mul (opd_own (Tmul1_O e) b.tk (b.hr.mono (by decide)) opd_no)) (de_fldN 0 (Cn_F e)) (de_fldN 1 (Cd_F e))) (de_bin (opd_mul (opd_own (Tmul1_O e) b.tk (b.hr.mono (by decide)) opd_no)) (de_fldN 1 (Cn_F e)) (de_fldN 0 (Cd_F e)))) (da_cons (de_bin (opd_mul (opd_own (Tmul1_O e) b.tk (b.hr.mono (by decide)) opd_no)) (de_fldN 0 (Cd_F e)) (de_fldN 1 (Cd_F e))) da_nil))))))
theorem h_Ratio__sub (e : Ev ck fn K mg base) : HasF P w K mg base 6 (He.ma K (He.ga K "Ratio") "__sub__") [] m_Ratio__sub := hasF_of (ok_Ratio__sub e) (by intro _ _ _ _ _ _ us hl; exact match us, hl with | [_, _], _ => rfl)
def Tsub1 : MT := (mt1 "Ratio" m_Ratio__sub [] mt0)
theorem Tsub1_O (e : Ev ck fn K mg base) : OOk P w K mg base 6 "__sub__" Tsub1 := (ook1 (e.c.fact 21) (He.meth_ok (e.c.fact 52)) (h_Ratio__sub e) (by decide) ook0)
def Ttimes1 : MT := (mt1 "Ratio" m_Ratio_times [] mt0)
theorem Ttimes1_M (e : Ev ck fn K mg base) : MOk P w K mg base 6 "times" Ttimes1 := (mok1 (He.cls_ok (e.c.fact 14)) (He.meth_ok (e.c.fact 64)) (h_Ratio_times e) (by decide) mok0)
def Tfloor1 : MT := (mt1 "Ratio" m_Ratio_floor [] mt0)
theorem Tfloor1_M (e : Ev ck fn K mg base) : MOk P w K mg base 1 "floor" Tfloor1 := (mok1 (He.cls_ok (e.c.fact 14)) (He.meth_ok (e.c.fact 65)) (h_Ratio_floor e) (by decide) mok0)
def Tless1 : MT := (mt1 "Ratio" m_Ratio_less [] mt0)
theorem Tless1_M (e : Ev ck fn K mg base) : MOk P w K mg base 6 "less" Tless1 := (mok1 (He.cls_ok (e.c.fact 14)) (He.meth_ok (e.c.fact 66)) (h_Ratio_less e) (by decide) mok0)
def Tsize1 : MT := (mt1 "Ratio" m_Ratio_size [] mt0)
theorem Tsize1_M (e : Ev ck fn K mg base) : MOk P w K mg base 5 "size" Tsize1 := (mok1 (He.cls_ok (e.c.fact 14)) (He.meth_ok (e.c.fact 67)) (h_Ratio_size e) (by decide) mok0)
def Tis_whole1 : MT := (mt1 "Ratio" m_Ratio_is_whole [] mt0)
theorem Tis_whole1_M (e : Ev ck fn K mg base) : MOk P w K mg base 1 "is_whole" Tis_whole1 := (mok1 (He.cls_ok (e.c.fact 14)) (He.meth_ok (e.c.fact 68)) (h_Ratio_is_whole e) (by decide) mok0)
def Tis_zero1 : MT := (mt1 "Ratio" m_Ratio_is_zero [] mt0)
theorem Tis_zero1_M (e : Ev ck fn K mg base) : MOk P w K mg base 1 "is_zero" Tis_zero1 := (mok1 (He.cls_ok (e.c.fact 14)) (He.meth_ok (e.c.fact 69)) (h_Ratio_is_zero e) (by decide) mok0)
def Tsign1 : MT := (mt1 "Ratio" m_Ratio_sign [] mt0)
theorem Tsign1_M (e : Ev ck fn K mg base) : MOk P w K mg base 1 "sign" Tsign1 := (mok1 (He.cls_ok (e.c.fact 14)) (He.meth_ok (e.c.fact 70)) (h_Ratio_sign e) (by decide) mok0)
theorem sc_law : FnScope ["script", "state", "turn", "a", "b", "c", "due", "n", "row", "live", "value", "d", "m", "e", "x", "y", "text", "bad", "k"] ["script"] (defScope s_law) := ⟨rfl, rfl, rfl, by decide +kernel, rfl, by decide +kernel, by decide +kernel⟩
def F_law : FS :=
  (seqS (setO 1 (bd (consA (varD 0) (rt [])) (callO m_law_state [])))
  (seqS (forS (bd (consA (rt (.int 6)) (rt [])) rngF1) (gNm 2) (seqS (asgS (frzM (lcM [18] (bd (consA (rt (.int 3)) (rt [])) rngF1) (gNm 18) (rt true) (two (hold 1 (bd (consA (rt (.int 400)) (rt [])) (lentM m_law_take [] 1))) (rt (.int 200)) (subI (ownO Tsub1 noO))))) (gTp 3 (gC (gNm 3) (gC (gNm 4) (gC (gNm 5) gN0)))))
  (seqS (setS 6 (ifM (andM (bd (two (varD 3) (rt (.int 0)) (eqP true (neO Teq1 noO))) boolM) (bd (two (varD 4) (rt (.int 0)) (eqP true (neO Teq1 noO))) boolM)) (bd (consA (bd (consA (varD 3) (rt [])) absF) (consA (bd (consA (varD 4) (rt [])) absF) (rt []))) (callM m_law_common [])) (two (bd (consA (varD 3) (rt [])) absF) (bd (consA (varD 4) (rt [])) absF) (addI (addS (addT (ownO Tadd1 noO)))))))
  (seqS (ifS (orM (notM (bd (bd (consA (rt (.glo "common")) (consA (bd (consA (varD 3) (consA (varD 4) (rt []))) tupM) (consA (varD 6) (rt [])))) (callM m_law_tells [])) boolM)) (orM (notM (bd (bd (consA (rt (.glo "common_of")) (consA (bd (consA (bd (consA (varD 3) (consA (varD 4) (consA (varD 5) (rt [])))) tupM) (rt [])) tupM) (consA (ifM (andM (bd (two (varD 6) (rt (.int 0)) (eqP true (neO Teq1 noO))) boolM) (bd (two (varD 5) (rt (.int 0)) (eqP true (neO Teq1 noO))) boolM)) (bd (consA (varD 6) (consA (bd (consA (varD 5) (rt [])) absF) (rt []))) (callM m_law_common [])) (two (varD 6) (bd (consA (varD 5) (rt [])) absF) (addI (addS (addT (ownO Tadd1 noO)))))) (rt [])))) (callM m_law_tells [])) boolM)) (notM (bd (bd (consA (rt (.glo "sign_of")) (consA (bd (consA (varD 3) (rt [])) tupM) (consA (ifM (bd (two (varD 3) (rt (.int 0)) gtI) boolM) (rt (.int 1)) (ifM (bd (two (varD 3) (rt (.int 0)) (cmpI (fun i j => decide (i < j)) (ltS noO))) boolM) (bd (rt (.int 1)) negD) (rt (.int 0)))) (rt [])))) (callM m_law_tells [])) boolM)))) (retS (rt (.bl false))) nxS)
  (seqS (setS 7 (hold 1 (bd (consA (rt (.int 9)) (rt [])) (lentM m_law_take [] 1))))
  (seqS (ifS (notM (bd (bd (consA (rt (.glo "choose")) (consA (bd (consA (varD 7) (consA (two (varD 7) (rt (.int 2)) (fdivI noO)) (rt []))) tupM) (consA (bd (consA (bd (consA (varD 7) (consA (two (varD 7) (rt (.int 2)) (fdivI noO)) (rt []))) (callM m_law_choices [])) (rt [])) lenF) (rt [])))) (callM m_law_tells [])) boolM)) (retS (rt (.bl false))) nxS)
  (seqS (setO 8 (lcM [18] (bd (consA (hold 1 (bd (consA (rt (.int 8)) (rt [])) (lentM m_law_take [] 1))) (rt [])) rngF1) (gNm 18) (rt true) (two (hold 1 (bd (consA (rt (.int 5)) (rt [])) (lentM m_law_take [] 1))) (rt (.int 2)) (subI (ownO Tsub1 noO)))))
  (seqS (setS 9 (frzM (lcM [14] (bd (varD 8) itms) (gNm 14) (bd (two (varD 14) (rt (.int 0)) (eqP true (neO Teq1 noO))) boolM) (two (varD 14) (rt (.int 0)) gtI))))
  (seqS (ifS (orM (notM (bd (bd (consA (rt (.glo "changes")) (consA (bd (consA (varD 8) (rt [])) tupM) (consA (bd (consA (frzM (lcM [18] (bd (consA (two (lenNm 9) (rt (.int 1)) (subI (ownO Tsub1 noO))) (rt [])) rngF1) (gNm 18) (bd (two (ixNm 9 (varD 18)) (ixNm 9 (two (varD 18) (rt (.int 1)) (addI (addS (addT (ownO Tadd1 noO)))))) (eqP true (neO Teq1 (eqT Teq1 2 true noO)))) boolM) (varD 18))) (rt [])) lenF) (rt [])))) (callM m_law_tells [])) boolM)) (notM (bd (bd (consA (rt (.glo "row_text")) (consA (bd (consA (bd (consA (varD 8) (rt [])) tupF) (rt [])) tupM) (consA (ifM (bd (two (lenNm 8) (rt (.int 0)) gtI) boolM) (bd (rt (.str ",")) (joinM (consA (frzM (lcM [14] (bd (varD 8) itms) (gNm 14) (rt true) (bd (consA (varD 14) (rt [])) (strO Tstr1 (strF noF))))) (rt [])))) (rt (.str "-"))) (rt [])))) (callM m_law_tells [])) boolM))) (retS (rt (.bl false))) nxS)
  (seqS (forS (bd (bd (consA (rt (.int 0)) (consA (rt (.int 5)) (consA (bd (rt (.int 1)) negD) (consA (rt (.int 9)) (consA (rt (.int 10)) (consA (rt (.bl true)) (consA (rt .non) (consA (rt (.str "2")) (consA (bd (consA (rt (.int 1)) (consA (rt (.int 2)) (rt []))) tupM) (consA (bd (consA (rt (.int 1)) (rt [])) lstM) (consA (bd (rt []) tupM) (consA (bd (consA (rt (.str "1")) (rt [])) tupM) (consA (bd (consA (rt (.bl true)) (rt [])) tupM) (rt [])))))))))))))) tupM) itms) (gNm 10) (ifS (orM (notM (bd (bd (consA (rt (.glo "is_integer")) (consA (bd (consA (varD 10) (rt [])) tupM) (consA (bd (consA (varD 10) (rt [])) (callM m_law_plain [])) (rt [])))) (callM m_law_tells [])) boolM)) (orM (notM (bd (bd (consA (rt (.glo "is_count")) (consA (bd (consA (varD 10) (consA (rt (.int 0)) (consA (rt (.int 9)) (rt [])))) tupM) (consA (andV (bd (consA (varD 10) (rt [])) (callM m_law_plain [])) (chainM (rt (.int 0)) (varD 10) (rt (.int 9)) (cmpI (fun i j => decide (i ≤ j)) (leS noO)) (cmpI (fun i j => decide (i ≤ j)) (leS noO)))) (rt [])))) (callM m_law_tells [])) boolM)) (orM (notM (bd (bd (consA (rt (.glo "is_whole_row")) (consA (bd (consA (varD 10) (rt [])) tupM) (consA (andV (bd (consA (varD 10) (consA (rt (.ty "tuple")) (rt []))) (isiF vcls)) (bd (consA (frzM (lcM [14] (bd (varD 10) itms) (gNm 14) (rt true) (bd (consA (varD 14) (rt [])) (callM m_law_plain [])))) (rt [])) allF)) (rt [])))) (callM m_law_tells [])) boolM)) (notM (bd (bd (consA (rt (.glo "is_ratio_row")) (consA (bd (consA (varD 10) (rt [])) tupM) (consA (two (varD 10) (bd (rt []) tupM) (eqP false (eqO Teq1 (eqT Teq1 2 false noO)))) (rt [])))) (callM m_law_tells [])) boolM))))) (retS (rt (.bl false))) nxS))
  (seqS (asgS (bd (consA (two (hold 1 (bd (consA (rt (.int 201)) (rt [])) (lentM m_law_take [] 1))) (rt (.int 100)) (subI (ownO Tsub1 noO))) (consA (two (rt (.int 1)) (hold 1 (bd (consA (rt (.int 30)) (rt [])) (lentM m_law_take [] 1))) (addI (addS (addT (ownO Tadd1 noO))))) (consA (two (hold 1 (bd (consA (rt (.int 201)) (rt [])) (lentM m_law_take [] 1))) (rt (.int 100)) (subI (ownO Tsub1 noO))) (consA (two (rt (.int 1)) (hold 1 (bd (consA (rt (.int 30)) (rt [])) (lentM m_law_take [] 1))) (addI (addS (addT (ownO Tadd1 noO))))) (rt []))))) tupM) (gTp 4 (gC (gNm 7) (gC (gNm 11) (gC (gNm 12) (gC (gNm 13) gN0))))))
  (seqS (par2 14 15 (consA (bd (consA (varD 7) (consA (varD 11) (rt []))) (makeM "Ratio" m_Ratio__init [])) (consA (bd (consA (bd (varD 12) (ownN Tneg1 negD)) (consA (bd (varD 13) (ownN Tneg1 negD)) (rt []))) (makeM "Ratio" m_Ratio__init [])) (rt []))))
  (seqS (ifS (orM (bd (two (two (two (bd (two (varD 14) (varD 15) (addI (addS (addT (ownO Tadd1 noO))))) (fldD Cn "n")) (varD 11) (mulI (ownO Tmul1 noO))) (varD 13) (mulI (ownO Tmul1 noO))) (two (two (two (varD 7) (varD 13) (mulI (ownO Tmul1 noO))) (two (varD 12) (varD 11) (mulI (ownO Tmul1 noO))) (addI (addS (addT (ownO Tadd1 noO))))) (bd (two (varD 14) (varD 15) (addI (addS (addT (ownO Tadd1 noO))))) (fldD Cd "d")) (mulI (ownO Tmul1 noO))) (eqP true (neO Teq1 (eqT Teq1 2 true noO)))) boolM) (orM (bd (two (two (two (bd (two (varD 14) (varD 15) (subI (ownO Tsub1 noO))) (fldD Cn "n")) (varD 11) (mulI (ownO Tmul1 noO))) (varD 13) (mulI (ownO Tmul1 noO))) (two (two (two (varD 7) (varD 13) (mulI (ownO Tmul1 noO))) (two (varD 12) (varD 11) (mulI (ownO Tmul1 noO))) (subI (ownO Tsub1 noO))) (bd (two (varD 14) (varD 15) (subI (ownO Tsub1 noO))) (fldD Cd "d")) (mulI (ownO Tmul1 noO))) (eqP true (neO Teq1 (eqT Teq1 2 true noO)))) boolM) (orM (bd (two (two (two (bd (two (varD 14) (varD 15) (mulI (ownO Tmul1 noO))) (fldD Cn "n")) (varD 11) (mulI (ownO Tmul1 noO))) (varD 13) (mulI (ownO Tmul1 noO))) (two (two (varD 7) (varD 12) (mulI (ownO Tmul1 noO))) (bd (two (varD 14) (varD 15) (mulI (ownO Tmul1 noO))) (fldD Cd "d")) (mulI (ownO Tmul1 noO))) (eqP true (neO Teq1 (eqT Teq1 2 true noO)))) boolM) (orM (bd (two (bd (varD 14) (ownN Tneg1 negD)) (bd (consA (bd (varD 7) (ownN Tneg1 negD)) (consA (varD 11) (rt []))) (makeM "Ratio" m_Ratio__init [])) (eqP true (neO Teq1 (eqT Teq1 2 true noO)))) boolM) (orM (bd (two (bd (varD 14) (methM "less" Tless1 (consA (varD 15) (rt [])))) (two (two (varD 7) (varD 13) (mulI (ownO Tmul1 noO))) (two (varD 12) (varD 11) (mulI (ownO Tmul1 noO))) (cmpI (fun i j => decide (i < j)) (ltS noO))) (eqP true (neO Teq1 (eqT Teq1 2 true noO)))) boolM) (orM (bd (two (bd (varD 14) (methM "floor" Tfloor1 (rt []))) (two (varD 7) (varD 11) (fdivI noO)) (eqP true (neO Teq1 (eqT Teq1 2 true noO)))) boolM) (bd (two (bd (varD 14) (methM "times" Ttimes1 (consA (varD 12) (rt [])))) (bd (consA (two (varD 7) (varD 12) (mulI (ownO Tmul1 noO))) (consA (varD 11) (rt []))) (makeM "Ratio" m_Ratio__init [])) (eqP true (neO Teq1 (eqT Teq1 2 true noO)))) boolM))))))) (retS (rt (.bl false))) nxS)
  (seqS (ifS (orM (bd (two (bd (varD 14) (methM "sign" Tsign1 (rt []))) (ifM (bd (two (varD 7) (rt (.int 0)) gtI) boolM) (rt (.int 1)) (ifM (bd (two (varD 7) (rt (.int 0)) (cmpI (fun i j => decide (i < j)) (ltS noO))) boolM) (bd (rt (.int 1)) negD) (rt (.int 0)))) (eqP true (neO Teq1 (eqT Teq1 2 true noO)))) boolM) (orM (bd (two (bd (varD 14) (methM "is_zero" Tis_zero1 (rt []))) (two (varD 7) (rt (.int 0)) (eqP false (eqO Teq1 noO))) (eqP true (neO Teq1 (eqT Teq1 2 true noO)))) boolM) (orM (bd (two (bd (varD 14) (methM "is_whole" Tis_whole1 (rt []))) (two (two (bd (consA (varD 7) (rt [])) intF2) (varD 11) (modI noO)) (rt (.int 0)) (eqP false (eqO Teq1 noO))) (eqP true (neO Teq1 (eqT Teq1 2 true noO)))) boolM) (orM (bd (two (bd (varD 14) (methM "size" Tsize1 (rt []))) (bd (consA (bd (consA (varD 7) (rt [])) absF) (consA (varD 11) (rt []))) (makeM "Ratio" m_Ratio__init [])) (eqP true (neO Teq1 (eqT Teq1 2 true noO)))) boolM) (orM (bd (two (two (varD 14) (varD 15) (eqP false (eqO Teq1 (eqT Teq1 2 false noO)))) (two (two (varD 7) (varD 13) (mulI (ownO Tmul1 noO))) (two (varD 12) (varD 11) (mulI (ownO Tmul1 noO))) (eqP false (eqO Teq1 (eqT Teq1 2 false noO)))) (eqP true (neO Teq1 (eqT Teq1 2 true noO)))) boolM) (orM (bd (two (varD 14) (varD 7) (eqP false (eqO Teq1 (eqT Teq1 2 false noO)))) boolM) (andM (bd (two (varD 7) (rt (.int 0)) (eqP true (neO Teq1 noO))) boolM) (bd (two (bd (consA (bd (consA (fldN 14 Cn "n") (rt [])) absF) (consA (fldN 14 Cd "d") (rt []))) (callM m_law_common [])) (rt (.int 1)) (eqP true (neO Teq1 noO))) boolM)))))))) (retS (rt (.bl false))) nxS)
  (seqS (setS 16 (ifM (bd (two (fldN 14 Cd "d") (rt (.int 1)) (eqP false (eqO Teq1 noO))) boolM) (bd (consA (fldN 14 Cn "n") (rt [])) (strO Tstr1 (strF noF))) (two (two (bd (consA (fldN 14 Cn "n") (rt [])) (strO Tstr1 (strF noF))) (rt (.str "/")) (addI (addS (addT (ownO Tadd1 noO))))) (bd (consA (fldN 14 Cd "d") (rt [])) (strO Tstr1 (strF noF))) (addI (addS (addT (ownO Tadd1 noO)))))))
  (seqS (ifS (orM (andM (bd (two (varD 12) (rt (.int 0)) (eqP true (neO Teq1 noO))) boolM) (bd (two (bd (varD 14) (methM "over" Tover1 (consA (varD 15) (rt [])))) (bd (consA (two (varD 7) (varD 13) (mulI (ownO Tmul1 noO))) (consA (two (varD 11) (varD 12) (mulI (ownO Tmul1 noO))) (rt []))) (makeM "Ratio" m_Ratio__init [])) (eqP true (neO Teq1 (eqT Teq1 2 true noO)))) boolM)) (orM (andM (bd (two (varD 12) (rt (.int 0)) (eqP false (eqO Teq1 noO))) boolM) (notM (bd (bd (consA (rt (.glo "_law_over")) (consA (bd (consA (varD 14) (consA (varD 15) (rt []))) tupM) (consA (rt (.str "zero")) (rt [])))) (callM m_law_raises [])) boolM))) (orM (bd (two (bd (consA (varD 14) (rt [])) (strO Tstr1 (strF noF))) (varD 16) (eqP true (neO Teq1 (eqT Teq1 2 true noO)))) boolM) (orM (bd (two (bd (consA (rt (.glo "read_ratio")) (consA (varD 16) (rt []))) (callM m_law_read [])) (bd (consA (rt (.str "read")) (consA (varD 14) (rt []))) tupM) (eqP true (neO Teq1 (eqT Teq1 2 true noO)))) boolM) (orM (bd (two (bd (consA (rt (.glo "read_ratios")) (consA (two (two (varD 16) (rt (.str ",")) (addI (addS (addT (ownO Tadd1 noO))))) (varD 16) (addI (addS (addT (ownO Tadd1 noO))))) (rt []))) (callM m_law_read [])) (bd (consA (rt (.str "read")) (consA (bd (consA (varD 14) (consA (varD 14) (rt []))) tupM) (rt []))) tupM) (eqP true (neO Teq1 (eqT Teq1 2 true noO)))) boolM) (notM (bd (bd (consA (rt (.glo "is_ratio_row")) (consA (bd (consA (bd (consA (varD 14) (consA (varD 15) (rt []))) tupM) (rt [])) tupM) (consA (rt (.bl true)) (rt [])))) (callM m_law_tells [])) boolM))))))) (retS (rt (.bl false))) nxS)
  (seqS (forS (bd (bd (consA (rt (.str "")) (consA (rt (.str " 1")) (consA (rt (.str "+1")) (consA (rt (.str "01")) (consA (rt (.str "2/4")) (consA (rt (.str "1/0")) (consA (rt (.str "1/1")) (consA (rt (.str "-0")) (consA (rt (.str "a")) (consA (rt .non) (consA (rt (.int 5)) (rt [])))))))))))) tupM) itms) (gNm 17) (ifS (bd (two (bd (consA (rt (.glo "read_ratio")) (consA (varD 17) (rt []))) (callM m_law_read [])) (bd (consA (rt (.str "text")) (consA (rt (.int 0)) (rt []))) tupM) (eqP true (neO Teq1 (eqT Teq1 2 true noO)))) boolM) (retS (rt (.bl false))) nxS))
  (ifS (orM (notM (bd (bd (consA (rt (.glo "_law_make")) (consA (bd (consA (varD 7) (consA (rt (.int 0)) (rt []))) tupM) (consA (rt (.str "zero")) (rt [])))) (callM m_law_raises [])) boolM)) (orM (notM (bd (bd (consA (rt (.glo "_law_make")) (consA (bd (consA (varD 7) (consA (varD 11) (rt []))) tupM) (consA (rt (.int 0)) (consA (bd (consA (rt .non) (consA (rt (.str "1")) (consA (rt (.bl true)) (rt [])))) lstM) (rt []))))) (callM m_law_bads [])) boolM)) (orM (notM (bd (bd (consA (rt (.glo "_law_over")) (consA (bd (consA (varD 14) (consA (varD 15) (rt []))) tupM) (consA (rt (.int 1)) (consA (bd (consA (rt .non) (consA (rt (.int 1)) (rt []))) lstM) (rt []))))) (callM m_law_bads [])) boolM)) (bd (two (bd (consA (rt (.glo "read_ratios")) (consA (rt .non) (rt []))) (callM m_law_read [])) (bd (consA (rt (.str "text")) (consA (rt (.int 0)) (rt []))) tupM) (eqP true (neO Teq1 (eqT Teq1 2 true noO)))) boolM)))) (retS (rt (.bl false))) nxS))))))))))))))))))
  (retS (rt (.bl true)))))
def m_law : Fm := fmOf 1 19 F_law
theorem ok_law (e : Ev ck fn K mg base) : ∃ fd, FunD K "law" "law" (defArgs s_law) (defBody s_law) (defScope s_law) (He.DefD.dvs K d_law) (He.DefD.kws K d_law) (He.ga K "law") fd ∧ FnOk P w K mg base (L2.CX P w) 19 (He.ga K "law") fd ["script"] (spD K 1 (fmOf 1 19 F_law)) := by
  obtain ⟨fd, F0⟩ := e.c.def_ 48
  refine ⟨fd, F0, fn_ok F0 sc_law fun cdv A outer s H E b po => ?_⟩
  exact (dss_cons (ds_setO 1 sc_law.nd (do_call (h_law_state e) b (by decide) rfl (He.glo_ok e.kin e.ns (e.c.fact 50)) (da_cons (de_var 0) da_nil)))
  (dss_cons (ds_for po b.calm (di_rng1 rfl (He.free_ok e.kin e.ns (e.c.fact 26)) (da_cons de_int da_nil)) (dg_name 2 sc_law.nd) (dss_cons (ds_asg (de_frz (do_lc b sc_law.nd [("k", 18)] (di_rng1 rfl (He.free_ok e.kin e.ns (e.c.fact 26)) (da_cons de_int da_nil)) (blk_of rfl) (fun _ _ _ _ _ bb => (dg_name 18 sc_law.nd)) (fun _ _ _ _ _ bb => dts_nil) (fun _ _ _ _ _ bb => (de_bin (opd_sub (opd_own (Tsub1_O e) bb.tk (bb.hr.mono (by decide)) opd_no)) (de_lent 1 (h_law_take e) bb (by decide) rfl (He.glo_ok e.kin e.ns (e.c.fact 51)) (da_cons de_int da_nil)) de_int)))) (dg_tup b.calm (dgs_cons (is := [3]) (js := [4, 5]) (ks := [3, 4, 5]) (dg_name 3 sc_law.nd) (dgs_cons (is := [4]) (js := [5]) (ks := [4, 5]) (dg_name 4 sc_law.nd) (dgs_cons (is := [5]) (js := []) (ks := [5]) (dg_name 5 sc_law.nd) dgs_nil)))))
  (dss_cons (ds_set 6 sc_law.nd (de_ifExp (dt_pw (dt_and (dt_cmp (opd_neP b.hr (opd_neO (Teq1_E e) b.tk b.hr (by decide) opd_no)) (de_var 3) de_int) (dt_and1 (dt_cmp (opd_neP b.hr (opd_neO (Teq1_E e) b.tk b.hr (by decide) opd_no)) (de_var 4) de_int)))) (de_call (h_law_common e) b (by decide) rfl (He.glo_ok e.kin e.ns (e.c.fact 53)) (da_cons (de_callB cd_abs rfl (He.free_ok e.kin e.ns (e.c.fact 4)) PyProof.Rows.Boot.«abs» (da_cons (de_var 3) da_nil)) (da_cons (de_callB cd_abs rfl (He.free_ok e.kin e.ns (e.c.fact 4)) PyProof.Rows.Boot.«abs» (da_cons (de_var 4) da_nil)) da_nil))) (de_bin (opd_add (opd_addS (opd_addT (opd_own (Tadd1_O e) b.tk (b.hr.mono (by decide)) opd_no)))) (de_callB cd_abs rfl (He.free_ok e.kin e.ns (e.c.fact 4)) PyProof.Rows.Boot.«abs» (da_cons (de_var 3) da_nil)) (de_callB cd_abs rfl (He.free_ok e.kin e.ns (e.c.fact 4)) PyProof.Rows.Boot.«abs» (da_cons (de_var 4) da_nil)))))
  (dss_cons (ds_if (dt_pw (dt_or (dt_not (dt_val (de_call (h_law_tells e) b (by decide) rfl (He.glo_ok e.kin e.ns (e.c.fact 54)) (da_cons (de_glo rfl (He.glo_ok e.kin e.ns (e.c.fact 13))) (da_cons (de_tup (da_cons (de_var 3) (da_cons (de_var 4) da_nil))) (da_cons (de_var 6) da_nil)))))) (dt_or (dt_not (dt_val (de_call (h_law_tells e) b (by decide) rfl (He.glo_ok e.kin e.ns (e.c.fact 54)) (da_cons (de_glo rfl (He.glo_ok e.kin e.ns (e.c.fact 55))) (da_cons (de_tup (da_cons (de_tup (da_cons (de_var 3) (da_cons (de_var 4) (da_cons (de_var 5) da_nil)))) da_nil)) (da_cons (de_ifExp (dt_pw (dt_and (dt_cmp (opd_neP b.hr (opd_neO (Teq1_E e) b.tk b.hr (by decide) opd_no)) (de_var 6) de_int) (dt_and1 (dt_cmp (opd_neP b.hr (opd_neO (Teq1_E e) b.tk b.hr (by decide) opd_no)) (de_var 5) de_int)))) (de_call (h_law_common e) b (by decide) rfl (He.glo_ok e.kin e.ns (e.c.fact 53)) (da_cons (de_var 6) (da_cons (de_callB cd_abs rfl (He.free_ok e.kin e.ns (e.c.fact 4)) PyProof.Rows.Boot.«abs» (da_cons (de_var 5) da_nil)) da_nil))) (de_bin (opd_add (opd_addS (opd_addT (opd_own (Tadd1_O e) b.tk (b.hr.mono (by decide)) opd_no)))) (de_var 6) (de_callB cd_abs rfl (He.free_ok e.kin e.ns (e.c.fact 4)) PyProof.Rows.Boot.«abs» (da_cons (de_var 5) da_nil)))) da_nil)))))) (dt_or1 (dt_not (dt_val (de_call (h_law_tells e) b (by decide) rfl (He.glo_ok e.kin e.ns (e.c.fact 54)) (da_cons (de_glo rfl (He.glo_ok e.kin e.ns (e.c.fact 23))) (da_cons (de_tup (da_cons (de_var 3) da_nil)) (da_cons (de_ifExp (dt_cmp opd_gt (de_var 3) de_int) de_int (de_ifExp (dt_cmp (opd_cmpI op_lt (opd_ltS opd_no)) (de_var 3) de_int) (de_un und_neg de_int) de_int)) da_nil)))))))))) (dss_one (ds_ret de_bl)) dss_nil)
  (dss_cons (ds_set 7 sc_law.nd (de_lent 1 (h_law_take e) b (by decide) rfl (He.glo_ok e.kin e.ns (e.c.fact 51)) (da_cons de_int da_nil)))
  (dss_cons (ds_if (dt_not (dt_val (de_call (h_law_tells e) b (by decide) rfl (He.glo_ok e.kin e.ns (e.c.fact 54)) (da_cons (de_glo rfl (He.glo_ok e.kin e.ns (e.c.fact 56))) (da_cons (de_tup (da_cons (de_var 7) (da_cons (de_bin (opd_fdiv opd_no) (de_var 7) de_int) da_nil))) (da_cons (de_callB cd_len rfl (He.free_ok e.kin e.ns (e.c.fact 25)) PyProof.Rows.Boot.«len» (da_cons (de_call (h_law_choices e) b (by decide) rfl (He.glo_ok e.kin e.ns (e.c.fact 57)) (da_cons (de_var 7) (da_cons (de_bin (opd_fdiv opd_no) (de_var 7) de_int) da_nil))) da_nil)) da_nil)))))) (dss_one (ds_ret de_bl)) dss_nil)
  (dss_cons (ds_lcO 8 b sc_law.nd [("k", 18)] (di_rng1 rfl (He.free_ok e.kin e.ns (e.c.fact 26)) (da_cons (de_lent 1 (h_law_take e) b (by decide) rfl (He.glo_ok e.kin e.ns (e.c.fact 51)) (da_cons de_int da_nil)) da_nil)) (blk_of rfl) (fun _ _ _ _ _ bb => (dg_name 18 sc_law.nd)) (fun _ _ _ _ _ bb => dts_nil) (fun _ _ _ _ _ bb => (de_bin (opd_sub (opd_own (Tsub1_O e) bb.tk (bb.hr.mono (by decide)) opd_no)) (de_lent 1 (h_law_take e) bb (by decide) rfl (He.glo_ok e.kin e.ns (e.c.fact 51)) (da_cons de_int da_nil)) de_int)))
  (dss_cons (ds_set 9 sc_law.nd (de_frz (do_lc b sc_law.nd [("x", 14)] (di_val (de_var 8)) (blk_of rfl) (fun _ _ _ _ _ bb => (dg_name 14 sc_law.nd)) (fun _ _ _ _ _ bb => (dts_one (dt_cmp (opd_neP bb.hr (opd_neO (Teq1_E e) bb.tk bb.hr (by decide) opd_no)) (de_var 14) de_int))) (fun _ _ _ _ _ bb => (de_cmp opd_gt (de_var 14) de_int)))))
  (dss_cons (ds_if (dt_pw (dt_or (dt_not (dt_val (de_call (h_law_tells e) b (by decide) rfl (He.glo_ok e.kin e.ns (e.c.fact 54)) (da_cons (de_glo rfl (He.glo_ok e.kin e.ns (e.c.fact 59))) (da_cons (de_tup (da_cons (de_var 8) da_nil)) (da_cons (de_callB cd_len rfl (He.free_ok e.kin e.ns (e.c.fact 25)) PyProof.Rows.Boot.«len» (da_cons (de_frz (do_lc b sc_law.nd [("k", 18)] (di_rng1 rfl (He.free_ok e.kin e.ns (e.c.fact 26)) (da_cons (de_bin (opd_sub (opd_own (Tsub1_O e) b.tk (b.hr.mono (by decide)) opd_no)) (de_lenN 9 rfl (He.free_ok e.kin e.ns (e.c.fact 25))) de_int) da_nil)) (blk_of rfl) (fun _ _ _ _ _ bb => (dg_name 18 sc_law.nd)) (fun _ _ _ _ _ bb => (dts_one (dt_cmp (opd_neP bb.hr (opd_neO (Teq1_E e) bb.tk bb.hr (by decide) (opd_neT 2 (Teq1_E e) bb.tk bb.hr (by decide) opd_no))) (de_ixN 9 (de_var 18)) (de_ixN 9 (de_bin (opd_add (opd_addS (opd_addT (opd_own (Tadd1_O e) bb.tk (bb.hr.mono (by decide)) opd_no)))) (de_var 18) de_int))))) (fun _ _ _ _ _ bb => (de_var 18)))) da_nil)) da_nil)))))) (dt_or1 (dt_not (dt_val (de_call (h_law_tells e) b (by decide) rfl (He.glo_ok e.kin e.ns (e.c.fact 54)) (da_cons (de_glo rfl (He.glo_ok e.kin e.ns (e.c.fact 58))) (da_cons (de_tup (da_cons (de_callT cd_tuple rfl (He.free_ok e.kin e.ns (e.c.fact 28)) PyProof.Rows.Boot.«tuple» (da_cons (de_var 8) da_nil)) da_nil)) (da_cons (de_ifExp (dt_cmp opd_gt (de_lenN 8 rfl (He.free_ok e.kin e.ns (e.c.fact 25))) de_int) (de_join de_str (da_cons (de_frz (do_lc b sc_law.nd [("x", 14)] (di_val (de_var 8)) (blk_of rfl) (fun _ _ _ _ _ bb => (dg_name 14 sc_law.nd)) (fun _ _ _ _ _ bb => dts_nil) (fun _ _ _ _ _ bb => (de_callT (cd_strO (Tstr1_M e) bb (by decide) (cd_str cd_no)) rfl (He.free_ok e.kin e.ns (e.c.fact 34)) PyProof.Rows.Boot.«str» (da_cons (de_var 14) da_nil))))) da_nil)) de_str) da_nil))))))))) (dss_one (ds_ret de_bl)) dss_nil)
  (dss_cons (ds_for po b.calm (di_val (de_tup (da_cons de_int (da_cons de_int (da_cons (de_un und_neg de_int) (da_cons de_int (da_cons de_int (da_cons de_bl (da_cons de_non (da_cons de_str (da_cons (de_tup (da_cons de_int (da_cons de_int da_nil))) (da_cons (de_lst (da_cons de_int da_nil)) (da_cons (de_tup da_nil) (da_cons (de_tup (da_cons de_str da_nil)) (da_cons (de_tup (da_cons de_bl da_nil)) da_nil))))))))))))))) (dg_name 10 sc_law.nd) (dss_one (ds_if (dt_pw (dt_or (dt_not (dt_val (de_call (h_law_tells e) b (by decide) rfl (He.glo_ok e.kin e.ns (e.c.fact 54)) (da_cons (de_glo rfl (He.glo_ok e.kin e.ns (e.c.fact 9))) (da_cons (de_tup (da_cons (de_var 10) da_nil)) (da_cons (de_call (h_law_plain e) b (by decide) rfl (He.glo_ok e.kin e.ns (e.c.fact 62)) (da_cons (de_var 10) da_nil)) da_nil)))))) (dt_or (dt_not (dt_val (de_call (h_law_tells e) b (by decide) rfl (He.glo_ok e.kin e.ns (e.c.fact 54)) (da_cons (de_glo rfl (He.glo_ok e.kin e.ns (e.c.fact 63))) (da_cons (de_tup (da_cons (de_var 10) (da_cons de_int (da_cons de_int da_nil)))) (da_cons (de_and (de_call (h_law_plain e) b (by decide) rfl (He.glo_ok e.kin e.ns (e.c.fact 62)) (da_cons (de_var 10) da_nil)) (de_one (chain_run (opd_cmpI op_le (opd_leS opd_no)) (opd_cmpI op_le (opd_leS opd_no)) de_int (de_var 10) de_int))) da_nil)))))) (dt_or (dt_not (dt_val (de_call (h_law_tells e) b (by decide) rfl (He.glo_ok e.kin e.ns (e.c.fact 54)) (da_cons (de_glo rfl (He.glo_ok e.kin e.ns (e.c.fact 61))) (da_cons (de_tup (da_cons (de_var 10) da_nil)) (da_cons (de_and (de_callB (cd_isi (iokB_ok (e.c.fact 6))) rfl (He.free_ok e.kin e.ns (e.c.fact 7)) PyProof.Rows.Boot.«isinstance» (da_cons (de_var 10) (da_cons (de_ty rfl (He.free_ok e.kin e.ns (e.c.fact 28)) PyProof.Rows.Boot.«tuple») da_nil))) (de_one (de_callB (cd_all b.calm) rfl (He.free_ok e.kin e.ns (e.c.fact 27)) PyProof.Rows.Boot.«all» (da_cons (de_frz (do_lc b sc_law.nd [("x", 14)] (di_val (de_var 10)) (blk_of rfl) (fun _ _ _ _ _ bb => (dg_name 14 sc_law.nd)) (fun _ _ _ _ _ bb => dts_nil) (fun _ _ _ _ _ bb => (de_call (h_law_plain e) bb (by decide) rfl (He.glo_ok e.kin e.ns (e.c.fact 62)) (da_cons (de_var 14) da_nil))))) da_nil)))) da_nil)))))) (dt_or1 (dt_not (dt_val (de_call (h_law_tells e) b (by decide) rfl (He.glo_ok e.kin e.ns (e.c.fact 54)) (da_cons (de_glo rfl (He.glo_ok e.kin e.ns (e.c.fact 60))) (da_cons (de_tup (da_cons (de_var 10) da_nil)) (da_cons (de_cmp (opd_eqP b.hr (opd_eqO (Teq1_E e) b.tk (b.hr.mono (by decide)) (opd_eqT0 2 (Teq1_E e) b.tk b.hr (by decide) opd_no))) (de_var 10) (de_tup da_nil)) da_nil))))))))))) (dss_one (ds_ret de_bl)) dss_nil)))
  (dss_cons (ds_asg (de_tup (da_cons (de_bin (opd_sub (opd_own (Tsub1_O e) b.tk (b.hr.mono (by decide)) opd_no)) (de_lent 1 (h_law_take e) b (by decide) rfl (He.glo_ok e.kin e.ns (e.c.fact 51)) (da_cons de_int da_nil)) de_int) (da_cons (de_bin (opd_add (opd_addS (opd_addT (opd_own (Tadd1_O e) b.tk (b.hr.mono (by decide)) opd_no)))) de_int (de_lent 1 (h_law_take e) b (by decide) rfl (He.glo_ok e.kin e.ns (e.c.fact 51)) (da_cons de_int da_nil))) (da_cons (de_bin (opd_sub (opd_own (Tsub1_O e) b.tk (b.hr.mono (by decide)) opd_no)) (de_lent 1 (h_law_take e) b (by decide) rfl (He.glo_ok e.kin e.ns (e.c.fact 51)) (da_cons de_int da_nil)) de_int) (da_cons (de_bin (opd_add (opd_addS (opd_addT (opd_own (Tadd1_O e) b.tk (b.hr.mono (by decide)) opd_no)))) de_int (de_lent 1 (h_law_take e) b (by decide) rfl (He.glo_ok e.kin e.ns (e.c.fact 51)) (da_cons de_int da_nil))) da_nil))))) (dg_tup b.calm (dgs_cons (is := [7]) (js := [11, 12, 13]) (ks := [7, 11, 12, 13]) (dg_name 7 sc_law.nd) (dgs_cons (is := [11]) (js := [12, 13]) (ks := [11, 12, 13]) (dg_name 11 sc_law.nd) (dgs_cons (is := [12]) (js := [13]) (ks := [12, 13]) (dg_name 12 sc_law.nd) (dgs_cons (is := [13]) (js := []) (ks := [13]) (dg_name 13 sc_law.nd) dgs_nil))))))
  (dss_cons (ds_par2 14 15 b.calm sc_law.nd (da_cons (de_make (He.mkr_ok (e.c.fact 19)) (h_Ratio__init e) b (by decide) rfl (He.glo_ok e.kin e.ns (e.c.fact 17)) (da_cons (de_var 7) (da_cons (de_var 11) da_nil))) (da_cons (de_make (He.mkr_ok (e.c.fact 19)) (h_Ratio__init e) b (by decide) rfl (He.glo_ok e.kin e.ns (e.c.fact 17)) (da_cons (de_un (und_own (Tneg1_M e) b.tk (b.hr.mono (by decide)) und_neg) (de_var 12)) (da_cons (de_un (und_own (Tneg1_M e) b.tk (b.hr.mono (by decide)) und_neg) (de_var 13)) da_nil))) da_nil)))
  (dss_cons (ds_if (dt_pw (dt_or (dt_cmp (opd_neP b.hr (opd_neO (Teq1_E e) b.tk b.hr (by decide) (opd_neT 2 (Teq1_E e) b.tk b.hr (by decide) opd_no))) (de_bin (opd_mul (opd_own (Tmul1_O e) b.tk (b.hr.mono (by decide)) opd_no)) (de_bin (opd_mul (opd_own (Tmul1_O e) b.tk (b.hr.mono (by decide)) opd_no)) (de_fld (de_bin (opd_add (opd_addS (opd_addT (opd_own (Tadd1_O e) b.tk (b.hr.mono (by decide)) opd_no)))) (de_var 14) (de_var 15)) (Cn_F e)) (de_var 11)) (de_var 13)) (de_bin (opd_mul (opd_own (Tmul1_O e) b.tk (b.hr.mono (by decide)) opd_no)) (de_bin (opd_add (opd_addS (opd_addT (opd_own (Tadd1_O e) b.tk (b.hr.mono (by decide)) opd_no)))) (de_bin (opd_mul (opd_own (Tmul1_O e) b.tk (b.hr.mono (by decide)) opd_no)) (de_var 7) (de_var 13)) (de_bin (opd_mul (opd_own (Tmul1_O e) b.tk (b.hr.mono (by decide)) opd_no)) (de_var 12) (de_var 11))) (de_fld (de_bin (opd_add (opd_addS (opd_addT (opd_own (Tadd1_O e) b.tk (b.hr.mono (by decide)) opd_no)))) (de_var 14) (de_var 15)) (Cd_F e)))) (dt_or (dt_cmp (opd_neP b.hr (opd_neO (Teq1_E e) b.tk b.hr (by decide) (opd_neT 2 (Teq1_E e) b.tk b.hr (by decide) opd_no))) (de_bin (opd_mul (opd_own (Tmul1_O e) b.tk (b.hr.mono (by decide)) opd_no)) (de_bin (opd_mul (opd_own (Tmul1_O e) b.tk (b.hr.mono (by decide)) opd_no)) (de_fld (de_bin (opd_sub (opd_own (Tsub1_O e) b.tk (b.hr.mono (by decide)) opd_no)) (de_var 14) (de_var 15)) (Cn_F e)) (de_var 11)) (de_var 13)) (de_bin (opd_mul (opd_own (Tmul1_O e) b.tk (b.hr.mono (by decide)) opd_no)) (de_bin (opd_sub (opd_own (Tsub1_O e) b.tk (b.hr.mono (by decide)) opd_no)) (de_bin (opd_mul (opd_own (Tmul1_O e) b.tk (b.hr.mono (by decide)) opd_no)) (de_var 7) (de_var 13)) (de_bin (opd_mul (opd_own (Tmul1_O e) b.tk (b.hr.mono (by decide)) opd_no)) (de_var 12) (de_var 11))) (de_fld (de_bin (opd_sub (opd_own (Tsub1_O e) b.tk (b.hr.mono (by decide)) opd_no)) (de_var 14) (de_var 15)) (Cd_F e)))) (dt_or (dt_cmp (opd_neP b.hr (opd_neO (Teq1_E e) b.tk b.hr (by decide) (opd_neT 2 (Teq1_E e) b.tk b.hr (by decide) opd_no))) (de_bin (opd_mul (opd_own (Tmul1_O e) b.tk (b.hr.mono (by decide)) opd_no)) (de_bin (opd_mul (opd_own (Tmul1_O e) b.tk (b.hr.mono (by decide)) opd_no)) (de_fld (de_bin (opd_mul (opd_own (Tmul1_O e) b.tk (b.hr.mono (by decide)) opd_no)) (de_var 14) (de_var 15)) (Cn_F e)) (de_var 11)) (de_var 13)) (de_bin (opd_mul (opd_own (Tmul1_O e) b.tk (b.hr.mono (by decide)) opd_no)) (de_bin (opd_mul (opd_own (Tmul1_O e) b.tk (b.hr.mono (by decide)) opd_no)) (de_var 7) (de_var 12)) (de_fld (de_bin (opd_mul (opd_own (Tmul1_O e) b.tk (b.hr.mono (by decide)) opd_no)) (de_var 14) (de_var 15)) (Cd_F e)))) (dt_or (dt_cmp (opd_neP b.hr (opd_neO (Teq1_E e) b.tk b.hr (by decide) (opd_neT 2 (Teq1_E e) b.tk b.hr (by decide) opd_no))) (de_un (und_own (Tneg1_M e) b.tk (b.hr.mono (by decide)) und_neg) (de_var 14)) (de_make (He.mkr_ok (e.c.fact 19)) (h_Ratio__init e) b (by decide) rfl (He.glo_ok e.kin e.ns (e.c.fact 17)) (da_cons (de_un (und_own (Tneg1_M e) b.tk (b.hr.mono (by decide)) und_neg) (de_var 7)) (da_cons (de_var 11) da_nil)))) (dt_or (dt_cmp (opd_neP b.hr (opd_neO (Teq1_E e) b.tk b.hr (by decide) (opd_neT 2 (Teq1_E e) b.tk b.hr (by decide) opd_no))) (de_meth (de_var 14) (Tless1_M e) b (by decide) (da_cons (de_var 15) da_nil)) (de_cmp (opd_cmpI op_lt (opd_ltS opd_no)) (de_bin (opd_mul (opd_own (Tmul1_O e) b.tk (b.hr.mono (by decide)) opd_no)) (de_var 7) (de_var 13)) (de_bin (opd_mul (opd_own (Tmul1_O e) b.tk (b.hr.mono (by decide)) opd_no)) (de_var 12) (de_var 11)))) (dt_or (dt_cmp (opd_neP b.hr (opd_neO (Teq1_E e) b.tk b.hr (by decide) (opd_neT 2 (Teq1_E e) b.tk b.hr (by decide) opd_no))) (de_meth0 (de_var 14) (Tfloor1_M e) b (by decide)) (de_bin (opd_fdiv opd_no) (de_var 7) (de_var 11))) (dt_or1 (dt_cmp (opd_neP b.hr (opd_neO (Teq1_E e) b.tk b.hr (by decide) (opd_neT 2 (Teq1_E e) b.tk b.hr (by decide) opd_no))) (de_meth (de_var 14) (Ttimes1_M e) b (by decide) (da_cons (de_var 12) da_nil)) (de_make (He.mkr_ok (e.c.fact 19)) (h_Ratio__init e) b (by decide) rfl (He.glo_ok e.kin e.ns (e.c.fact 17)) (da_cons (de_bin (opd_mul (opd_own (Tmul1_O e) b.tk (b.hr.mono (by decide)) opd_no)) (de_var 7) (de_var 12)) (da_cons (de_var 11) da_nil)))))))))))) (dss_one (ds_ret de_bl)) dss_nil)
  (dss_cons (ds_if (dt_pw (dt_or (dt_cmp (opd_neP b.hr (opd_neO (Teq1_E e) b.tk b.hr (by decide) (opd_neT 2 (Teq1_E e) b.tk b.hr (by decide) opd_no))) (de_meth0 (de_var 14) (Tsign1_M e) b (by decide)) (de_ifExp (dt_cmp opd_gt (de_var 7) de_int) de_int (de_ifExp (dt_cmp (opd_cmpI op_lt (opd_ltS opd_no)) (de_var 7) de_int) (de_un und_neg de_int) de_int))) (dt_or (dt_cmp (opd_neP b.hr (opd_neO (Teq1_E e) b.tk b.hr (by decide) (opd_neT 2 (Teq1_E e) b.tk b.hr (by decide) opd_no))) (de_meth0 (de_var 14) (Tis_zero1_M e) b (by decide)) (de_cmp (opd_eqP b.hr (opd_eqO (Teq1_E e) b.tk (b.hr.mono (by decide)) opd_no)) (de_var 7) de_int)) (dt_or (dt_cmp (opd_neP b.hr (opd_neO (Teq1_E e) b.tk b.hr (by decide) (opd_neT 2 (Teq1_E e) b.tk b.hr (by decide) opd_no))) (de_meth0 (de_var 14) (Tis_whole1_M e) b (by decide)) (de_cmp (opd_eqP b.hr (opd_eqO (Teq1_E e) b.tk (b.hr.mono (by decide)) opd_no)) (de_bin (opd_mod opd_no) (de_callT cd_int2 rfl (He.free_ok e.kin e.ns (e.c.fact 8)) PyProof.Rows.Boot.«int» (da_cons (de_var 7) da_nil)) (de_var 11)) de_int)) (dt_or (dt_cmp (opd_neP b.hr (opd_neO (Teq1_E e) b.tk b.hr (by decide) (opd_neT 2 (Teq1_E e) b.tk b.hr (by decide) opd_no))) (de_meth0 (de_var 14) (Tsize1_M e) b (by decide)) (de_make (He.mkr_ok (e.c.fact 19)) (h_Ratio__init e) b (by decide) rfl (He.glo_ok e.kin e.ns (e.c.fact 17)) (da_cons (de_callB cd_abs rfl (He.free_ok e.kin e.ns (e.c.fact 4)) PyProof.Rows.Boot.«abs» (da_cons (de_var 7) da_nil)) (da_cons (de_var 11) da_nil)))) (dt_or (dt_cmp (opd_neP b.hr (opd_neO (Teq1_E e) b.tk b.hr (by decide) (opd_neT 2 (Teq1_E e) b.tk b.hr (by decide) opd_no))) (de_cmp (opd_eqP b.hr (opd_eqO (Teq1_E e) b.tk (b.hr.mono (by decide)) (opd_eqT0 2 (Teq1_E e) b.tk b.hr (by decide) opd_no))) (de_var 14) (de_var 15)) (de_cmp (opd_eqP b.hr (opd_eqO (Teq1_E e) b.tk (b.hr.mono (by decide)) (opd_eqT0 2 (Teq1_E e) b.tk b.hr (by decide) opd_no))) (de_bin (opd_mul (opd_own (Tmul1_O e) b.tk (b.hr.mono (by decide)) opd_no)) (de_var 7) (de_var 13)) (de_bin (opd_mul (opd_own (Tmul1_O e) b.tk (b.hr.mono (by decide)) opd_no)) (de_var 12) (de_var 11)))) (dt_or (dt_cmp (opd_eqP b.hr (opd_eqO (Teq1_E e) b.tk (b.hr.mono (by decide)) (opd_eqT0 2 (Teq1_E e) b.tk b.hr (by decide) opd_no))) (de_var 14) (de_var 7)) (dt_or1 (dt_pw (dt_and (dt_cmp (opd_neP b.hr (opd_neO (Teq1_E e) b.tk b.hr (by decide) opd_no)) (de_var 7) de_int) (dt_and1 (dt_cmp (opd_neP b.hr (opd_neO (Teq1_E e) b.tk b.hr (by decide) opd_no)) (de_call (h_law_common e) b (by decide) rfl (He.glo_ok e.kin e.ns (e.c.fact 53)) (da_cons (de_callB cd_abs rfl (He.free_ok e.kin e.ns (e.c.fact 4)) PyProof.Rows.Boot.«abs» (da_cons (de_fldN 14 (Cn_F e)) da_nil)) (da_cons (de_fldN 14 (Cd_F e)) da_nil))) de_int)))))))))))) (dss_one (ds_ret de_bl)) dss_nil)
  (dss_cons (ds_set 16 sc_law.nd (de_ifExp (dt_cmp (opd_eqP b.hr (opd_eqO (Teq1_E e) b.tk (b.hr.mono (by decide)) opd_no)) (de_fldN 14 (Cd_F e)) de_int) (de_callT (cd_strO (Tstr1_M e) b (by decide) (cd_str cd_no)) rfl (He.free_ok e.kin e.ns (e.c.fact 34)) PyProof.Rows.Boot.«str» (da_cons (de_fldN 14 (Cn_F e)) da_nil)) (de_bin (opd_add (opd_addS (opd_addT (opd_own (Tadd1_O e) b.tk (b.hr.mono (by decide)) opd_no)))) (de_bin (opd_add (opd_addS (opd_addT (opd_own (Tadd1_O e) b.tk (b.hr.mono (by decide)) opd_no)))) (de_callT (cd_strO (Tstr1_M e) b (by decide) (cd_str cd_no)) rfl (He.free_ok e.kin e.ns (e.c.fact 34)) PyProof.Rows.Boot.«str» (da_cons (de_fldN 14 (Cn_F e)) da_nil)) de_str) (de_callT (cd_strO (Tstr1_M e) b (by decide) (cd_str cd_no)) rfl (He.free_ok e.kin e.ns (e.c.fact 34)) PyProof.Rows.Boot.«str» (da_cons (de_fldN 14 (Cd_F e)) da_nil)))))
  (dss_cons (ds_if (dt_pw (dt_or (dt_pw (dt_and (dt_cmp (opd_neP b.hr (opd_neO (Teq1_E e) b.tk b.hr (by decide) opd_no)) (de_var 12) de_int) (dt_and1 (dt_cmp (opd_neP b.hr (opd_neO (Teq1_E e) b.tk b.hr (by decide) (opd_neT 2 (Teq1_E e) b.tk b.hr (by decide) opd_no))) (de_meth (de_var 14) (Tover1_M e) b (by decide) (da_cons (de_var 15) da_nil)) (de_make (He.mkr_ok (e.c.fact 19)) (h_Ratio__init e) b (by decide) rfl (He.glo_ok e.kin e.ns (e.c.fact 17)) (da_cons (de_bin (opd_mul (opd_own (Tmul1_O e) b.tk (b.hr.mono (by decide)) opd_no)) (de_var 7) (de_var 13)) (da_cons (de_bin (opd_mul (opd_own (Tmul1_O e) b.tk (b.hr.mono (by decide)) opd_no)) (de_var 11) (de_var 12)) da_nil))))))) (dt_or (dt_pw (dt_and (dt_cmp (opd_eqP b.hr (opd_eqO (Teq1_E e) b.tk (b.hr.mono (by decide)) opd_no)) (de_var 12) de_int) (dt_and1 (dt_not (dt_val (de_call (h_law_raises e) b (by decide) rfl (He.glo_ok e.kin e.ns (e.c.fact 74)) (da_cons (de_glo rfl (He.glo_ok e.kin e.ns (e.c.fact 73))) (da_cons (de_tup (da_cons (de_var 14) (da_cons (de_var 15) da_nil))) (da_cons de_str da_nil))))))))) (dt_or (dt_cmp (opd_neP b.hr (opd_neO (Teq1_E e) b.tk b.hr (by decide) (opd_neT 2 (Teq1_E e) b.tk b.hr (by decide) opd_no))) (de_callT (cd_strO (Tstr1_M e) b (by decide) (cd_str cd_no)) rfl (He.free_ok e.kin e.ns (e.c.fact 34)) PyProof.Rows.Boot.«str» (da_cons (de_var 14) da_nil)) (de_var 16)) (dt_or (dt_cmp (opd_neP b.hr (opd_neO (Teq1_E e) b.tk b.hr (by decide) (opd_neT 2 (Teq1_E e) b.tk b.hr (by decide) opd_no))) (de_call (h_law_read e) b (by decide) rfl (He.glo_ok e.kin e.ns (e.c.fact 72)) (da_cons (de_glo rfl (He.glo_ok e.kin e.ns (e.c.fact 39))) (da_cons (de_var 16) da_nil))) (de_tup (da_cons de_str (da_cons (de_var 14) da_nil)))) (dt_or (dt_cmp (opd_neP b.hr (opd_neO (Teq1_E e) b.tk b.hr (by decide) (opd_neT 2 (Teq1_E e) b.tk b.hr (by decide) opd_no))) (de_call (h_law_read e) b (by decide) rfl (He.glo_ok e.kin e.ns (e.c.fact 72)) (da_cons (de_glo rfl (He.glo_ok e.kin e.ns (e.c.fact 71))) (da_cons (de_bin (opd_add (opd_addS (opd_addT (opd_own (Tadd1_O e) b.tk (b.hr.mono (by decide)) opd_no)))) (de_bin (opd_add (opd_addS (opd_addT (opd_own (Tadd1_O e) b.tk (b.hr.mono (by decide)) opd_no)))) (de_var 16) de_str) (de_var 16)) da_nil))) (de_tup (da_cons de_str (da_cons (de_tup (da_cons (de_var 14) (da_cons (de_var 14) da_nil))) da_nil)))) (dt_or1 (dt_not (dt_val (de_call (h_law_tells e) b (by decide) rfl (He.glo_ok e.kin e.ns (e.c.fact 54)) (da_cons (de_glo rfl (He.glo_ok e.kin e.ns (e.c.fact 60))) (da_cons (de_tup (da_cons (de_tup (da_cons (de_var 14) (da_cons (de_var 15) da_nil))) da_nil)) (da_cons de_bl da_nil))))))))))))) (dss_one (ds_ret de_bl)) dss_nil)
  (dss_cons (ds_for po b.calm (di_val (de_tup (da_cons de_str (da_cons de_str (da_cons de_str (da_cons de_str (da_cons de_str (da_cons de_str (da_cons de_str (da_cons de_str (da_cons de_str (da_cons de_non (da_cons de_int da_nil))))))))))))) (dg_name 17 sc_law.nd) (dss_one (ds_if (dt_cmp (opd_neP b.hr (opd_neO (Teq1_E e) b.tk b.hr (by decide) (opd_neT 2 (Teq1_E e) b.tk b.hr (by decide) opd_no))) (de_call (h_law_read e) b (by decide) rfl (He.glo_ok e.kin e.ns (e.c.fact 72)) (da_cons (de_glo rfl (He.glo_ok e.kin e.ns (e.c.fact 39))) (da_cons (de_var 17) da_nil))) (de_tup (da_cons de_str (da_cons de_int da_nil)))) (dss_one (ds_ret de_bl)) dss_nil)))
  (dss_one (ds_if (dt_pw (dt_or (dt_not (dt_val (de_call (h_law_raises e) b (by decide) rfl (He.glo_ok e.kin e.ns (e.c.fact 74)) (da_cons (de_glo rfl (He.glo_ok e.kin e.ns (e.c.fact 76))) (da_cons (de_tup (da_cons (de_var 7) (da_cons de_int da_nil))) (da_cons de_str da_nil)))))) (dt_or (dt_not (dt_val (de_call (h_law_bads e) b (by decide) rfl (He.glo_ok e.kin e.ns (e.c.fact 75)) (da_cons (de_glo rfl (He.glo_ok e.kin e.ns (e.c.fact 76))) (da_cons (de_tup (da_cons (de_var 7) (da_cons (de_var 11) da_nil))) (da_cons de_int (da_cons (de_lst (da_cons de_non (da_cons de_str (da_cons de_bl da_nil)))) da_nil))))))) (dt_or (dt_not (dt_val (de_call (h_law_bads e) b (by decide) rfl (He.glo_ok e.kin e.ns (e.c.fact 75)) (da_cons (de_glo rfl (He.glo_ok e.kin e.ns (e.c.fact 73))) (da_cons (de_tup (da_cons (de_var 14) (da_cons (de_var 15) da_nil))) (da_cons de_int (da_cons (de_lst (da_cons de_non (da_cons de_int da_nil))) da_nil))))))) (dt_or1 (dt_cmp (opd_neP b.hr (opd_neO (Teq1_E e) b.tk b.hr (by decide) (opd_neT 2 (Teq1_E e) b.tk b.hr (by decide) opd_no))) (de_call (h_law_read e) b (by decide) rfl (He.glo_ok e.kin e.ns (e.c.fact 72)) (da_cons (de_glo rfl (He.glo_ok e.kin e.ns (e.c.fact 71))) (da_cons de_non da_nil))) (de_tup (da_cons de_str (da_cons de_int da_nil))))))))) (dss_one (ds_ret de_bl)) dss_nil)))))))))))))))))))
  (dss_one (ds_ret de_bl))))
theorem h_law (e : Ev ck fn K mg base) : HasF P w K mg base 19 (He.ga K "law") [] m_law := hasF_of (ok_law e) (by intro _ _ _ _ _ _ us hl; exact match us, hl with | [_], _ => rfl)
end
def lawTop : Nat := 41
def loose : List Str := [("Fault" : Str), ("Malformed" : Str), ("Refused" : Str), ("NoText" : Str), ("is_integer" : Str), ("is_count" : Str), ("is_whole_row" : Str), ("common" : Str), ("common_of" : Str), ("power" : Str), ("choose" : Str), ("sign_of" : Str), ("changes" : Str), ("is_short" : Str), ("digits_of" : Str), ("row_text" : Str), ("Ratio" : Str), ("check_ratio" : Str), ("is_ratio_row" : Str), ("read_ratio" : Str), ("read_ratios" : Str), ("_law_state" : Str), ("_law_take" : Str), ("_law_same" : Str), ("_law_told" : Str), ("_law_is_told" : Str), ("_law_is_raised" : Str), ("_law_tells" : Str), ("_law_raises" : Str), ("_law_choices" : Str), ("_law_plain" : Str), ("_law_bads" : Str), ("_law_common" : Str), ("_law_read" : Str), ("_law_over" : Str), ("_law_make" : Str), ("__name__" : Str), ("MOST_SIGNS" : Str)]
end G00


set_option Elab.async false
set_option linter.all false
set_option maxRecDepth 100000
set_option maxHeartbeats 0
namespace G00
open PySem PySem.Spec PyProof.Rows L2 DL
abbrev R : PySem.W.OpenRow := PySem.W.OpenLaw.row PySem.Challenge.rw_rootsheld_k00_whole_integers_and_ratios
abbrev hk : PySem.W.Hook := hookX 4 ck fn
def ob (s : PySem.W.SharedT) : He.AlD := obX 4 ck fn s
theorem ob_eq (s : PySem.W.SharedT) : ob s = hk.obs s.abs := obX_eq 4 ck fn s
theorem run (w : World) : HandSHeadRun.RunEq R (PySem.W.view R.prog [lawTop]) hk ob 8000 loose w := by
  intro os
  kernel_rfl
theorem facts {P : Program} {w : World} {K : PySem.W.Frag} {h : Heap} {mg : Str → Option Value} {f : Addr} (X : K.In h) (G : h.Ns mainGlobals mg) (hfa : mg ("law" : Str) = some (.ref f)) (c : SaysX ck fn K) :
    ∃ fd : FuncData, (∀ (s : Shared) (v : Value), BindsTo s fd ⟨[v], []⟩ [("script", v)]) ∧ ∀ base : Heap, K.In base → base.Ns mainGlobals mg → FnOk P w K mg base (L2.CX P w) 19 f fd ["script"] (spD K 1 m_law) := by
  obtain ⟨fd, F, _⟩ := ok_law (P := P) (w := w) (⟨X, G, c⟩ : Ev ck fn K mg h)
  have e := hfa.symm.trans (He.glo_ok X G (c.fact 77))
  cases e
  have b := FunD.bindsA (ps := ["script"]) F (by intro _ _ _ _ _ _ us hl; exact match us, hl with | [_], _ => rfl)
  refine ⟨fd, fun s v => b s [v] rfl, fun base Y N => ?_⟩
  obtain ⟨fd2, F2, k2⟩ := ok_law (P := P) (w := w) (⟨Y, N, c⟩ : Ev ck fn K mg base)
  cases funD_det F F2
  exact k2
/-- the statement, from the law's mirror -/
theorem holds_of (hm : ∀ ns : List Int, ns.length ≤ 63 → m_law [.scr (ns.map D.int)] = .ok (.bl true)) : (PySem.Challenge.rw_rootsheld_k00_whole_integers_and_ratios).Holds := by
  open PySem.W PySem.Calls in
  w_on; o_law
  refine HandSHeadRun.head_any (r := R) (q := PySem.W.view R.prog [lawTop]) (H := hk) (ob := ob) (M := 8000) (loose := loose) (d := HandSHeadRun.topDef R.prog lawTop) (kwd := []) ob_eq
    (by kernel_rfl) (fun s => by kernel_rfl) run (by kernel_rfl) (by kernel_rfl) (by kernel_rfl) (by rfl) (by first | assumption | decide +kernel) (by decide +kernel) ⟨rfl, rfl, rfl, rfl, rfl, by decide +kernel⟩ ?hw ?hc
  case hw => w_witness2
  case hc =>
    refine walk_w (l := PySem.Challenge.rw_rootsheld_k00_whole_integers_and_ratios) (n := 63) (k := 19) (x := "script") (CW := fun w => L2.CX (PySem.Challenge.rw_rootsheld_k00_whole_integers_and_ratios).prog w) rfl (by decide) (by kernel_rfl) ⟨rfl, by decide, by decide⟩ ?F ?cx
    case F =>
      intro w mg fa h Y G hmg0
      obtain ⟨K, KX, c⟩ := Y
      have hmg : mg ("law" : PySem.Str) = some (.ref fa) := by
        have e : (HandSHeadRun.topDef R.prog lawTop).name = ("law" : PySem.Str) := by kernel_rfl
        rw [← e]
        exact hmg0
      obtain ⟨fd, hb, hF⟩ := facts (P := (PySem.Challenge.rw_rootsheld_k00_whole_integers_and_ratios).prog) (w := w) KX G hmg c
      exact ⟨K, fd, spD K 1 m_law, KX, hb, fun H a ns hl hS => law_sp hS (hm ns hl), hF⟩
    case cx => exact fun w H s e s' h => let ⟨_, _, _, _, _, _, _, _, _, _, _, _, q⟩ := h; q
end G00


set_option Elab.async false
set_option linter.all false
set_option maxRecDepth 100000
set_option maxHeartbeats 4000000
namespace DL
open PySem PySem.Spec PyProof.Rows L2
/-! evaluation of mirrors by rewriting: every continuation is a named word, so that no rewriting goes on under a binder -/
def Res.bd {α β : Type} : Res α → (α → En → Res β) → Res β
  | .ok a ρ, k => k a ρ
  | .er x ρ, _ => .er x ρ
  | .stuck, _ => .stuck
def Res.bs {α : Type} : Res α → (α → En → Out) → Out
  | .ok a ρ, k => k a ρ
  | .er x ρ, _ => .er x ρ
  | .stuck, _ => .stuck
def Out.sq : Out → FS → Out
  | .nx ρ, k => k ρ
  | o, _ => o
def Out.lp : Out → FS → Out := fun o k => loopS k o
def tif {α : Type} : Bool → α → α → α
  | true, a, _ => a
  | false, _, b => b
def kTwo (fb : M D) (g : D → D → M D) : D → M D := fun x => bd fb (g x)
def kCons2 (x : D) : List D → M (List D) := fun xs => rt (x :: xs)
def kCons (g : M (List D)) : D → M (List D) := fun x => bd g (kCons2 x)
def kNot : Bool → M Bool := fun b => rt (!b)
def kAnd (g : M Bool) : Bool → M Bool := fun b ρ => tif b (g ρ) (.ok false ρ)
def kOr (g : M Bool) : Bool → M Bool := fun b ρ => tif b (.ok true ρ) (g ρ)
def kIf {α : Type} (g h : M α) : Bool → M α := fun b ρ => tif b (g ρ) (h ρ)
def kBl : Bool → M D := fun b => rt (.bl b)
def kAndV (g : M D) : D → M D := fun x => match x with
  | .bl b => fun ρ => tif b (g ρ) (.ok (.bl false) ρ)
  | _ => stk
def kOrV (g : M D) : D → M D := fun x => match x with
  | .bl b => fun ρ => tif b (.ok (.bl true) ρ) (g ρ)
  | _ => stk
def kNotV : D → M D := fun x => match x with
  | .bl k => rt (.bl (!k))
  | _ => stk
def kIsN (neg : Bool) : D → M D := fun x => match x with
  | .non => rt (.bl (!neg))
  | _ => rt (.bl neg)
def kIfS (F G : FS) : Bool → FS := fun b ρ => tif b (F ρ) (G ρ)
def kRet : D → FS := fun x ρ => .rt x ρ
def kRo : List D → FS := fun x ρ => .ro x ρ
def kDrop : D → FS := fun _ ρ => .nx ρ
def kSet (i : Nat) : D → FS := fun x ρ => .nx (ρ.set i (some (.d x)))
def kSetO (i : Nat) : List D → FS := fun x ρ => .nx (ρ.set i (some (.own (.lst x))))
def kPar2 (i j : Nat) : List D → FS := fun xs ρ => match xs with
  | [x, y] => .nx ((ρ.set i (some (.d x))).set j (some (.d y)))
  | _ => .stuck
def kPar3 (i j l : Nat) : List D → FS := fun xs ρ => match xs with
  | [x, y, z] => .nx (((ρ.set i (some (.d x))).set j (some (.d y))).set l (some (.d z)))
  | _ => .stuck
def oNx : Option En → Out
  | some ρ => .nx ρ
  | none => .stuck
def kAsg (g : Tgm) : D → FS := fun x ρ => oNx (g x ρ)
def rsM : Rs → M D := fun r ρ => match r with
  | .ok x => .ok x ρ
  | .ow xs => .ok (.lst xs) ρ
  | .er x => .er x ρ
  | .stuck => .stuck
def rsO : Rs → M (List D) := fun r ρ => match r with
  | .ow xs => .ok xs ρ
  | .er x => .er x ρ
  | _ => .stuck
def rsL (i : Nat) : RsB → M D := fun r ρ => match r with
  | .ok x t => .ok x (setL ρ i t)
  | .er x => .er x (ρ.set i none)
  | .stuck => .stuck
def kLent (m : FmB) (i : Nat) (ds : List D) : Option Lt → M D := fun o ρ => match o with
  | some t => rsL i (m t ds) ρ
  | none => .stuck
def rsMk : RsB → M D := fun r ρ => match r with
  | .ok .non t => .ok t.dat ρ
  | .er x => .er x ρ
  | _ => .stuck
def kCell (i : Nat) (ρ : En) : Option (Option Cl) → Res D := fun c => match c with
  | some (some (.d x)) => .ok x ρ
  | some (some (.own t)) => .ok t.dat (ρ.set i (some (.d t.dat)))
  | _ => .stuck
def kLt : Option (Option Cl) → Option Lt := fun c => match c with
  | some (some (.own t)) => some t
  | some (some (.bor t)) => some t
  | _ => none
def kSetL (ρ : En) (i : Nat) (t : Lt) : Option (Option Cl) → En := fun c => match c with
  | some (some (.own _)) => ρ.set i (some (.own t))
  | _ => ρ.set i (some (.bor t))
def kHold {α : Type} (f : M α) : Option Lt → M α := fun o => match o with
  | some _ => f
  | none => stk
def kFld (T : CT) (f : Str) : Option (Option Cl) → M D := fun c => match c with
  | some (some (.d x)) => fldD T f x
  | some (some (.own t)) => fldD T f t.dat
  | some (some (.bor t)) => fldD T f t.dat
  | _ => stk
def kIsi : Option Bool → M D := fun o => match o with
  | some b => rt (.bl b)
  | none => stk
def kMeth (p : Option (Fm × List D)) (fs : M (List D)) (o : D) : M D := match p with
  | some p => fun ρ => (fs ρ).bd fun ds => callM p.1 p.2 (o :: ds)
  | none => stk
def kCallS (m : Fm) (dvs : List D) (o : D) : List D → M D := fun ds => callM m dvs (o :: ds)
def kIx (c : Option (Option Cl)) : D → M D := fun y => match c with
  | some (some (.d x)) => ixM x y
  | some (some (.own t)) => ixM t.dat y
  | some (some (.bor t)) => ixM t.dat y
  | _ => stk
def kLenC (c : Option (Option Cl)) : M D := match c with
  | some (some (.d x)) => lenF [x]
  | some (some (.own t)) => lenF [t.dat]
  | some (some (.bor t)) => lenF [t.dat]
  | _ => stk
def kFor (g : Tgm) (F : FS) (ds : List D) : Option En → Out := fun o => match o with
  | some ρ1 => (F ρ1).lp (forF g F ds)
  | none => .stuck
def kFrz : List D → M D := fun l => rt (.lst l)
def lcE (ρ1 : En) (vs : List Nat) : Res (List D) → Res (List D) := fun r => match r with
  | .ok l ρ2 => .ok l (mergeE ρ1 ρ2 vs)
  | _ => .stuck
def kLc (vs : List Nat) (g : Tgm) (ft : M Bool) (fe : M D) : List D → M (List D) := fun ds ρ1 => lcE ρ1 vs (lcF vs g ft fe ds [] (wipeE ρ1 vs))
def kLc2 (vs vs1 : List Nat) (g : Tgm) (ft : M Bool) (fi1 : M (List D)) (g1 : Tgm) (ft1 : M Bool) (fe : M D) : List D → M (List D) := fun ds ρ1 => lcE ρ1 vs (lcF2 vs vs1 g ft fi1 g1 ft1 fe ds [] (wipeE ρ1 vs))
section
variable {α β : Type} {ρ ρ' : En}
theorem Res.bd_ok {a : α} {k : α → En → Res β} : (Res.ok a ρ).bd k = k a ρ := rfl
theorem Res.bd_er {x : Ex} {k : α → En → Res β} : (Res.er x ρ).bd k = .er x ρ := rfl
theorem Res.bs_ok {a : α} {k : α → En → Out} : (Res.ok a ρ).bs k = k a ρ := rfl
theorem Res.bs_er {x : Ex} {k : α → En → Out} : (Res.er x ρ : Res α).bs k = .er x ρ := rfl
theorem Out.sq_nx {k : FS} : (Out.nx ρ).sq k = k ρ := rfl
theorem Out.sq_rt {x : D} {k : FS} : (Out.rt x ρ).sq k = .rt x ρ := rfl
theorem Out.sq_er {x : Ex} {k : FS} : (Out.er x ρ).sq k = .er x ρ := rfl
theorem Out.sq_ro {x : List D} {k : FS} : (Out.ro x ρ).sq k = .ro x ρ := rfl
theorem Out.sq_bk {k : FS} : (Out.bk ρ).sq k = .bk ρ := rfl
theorem Out.sq_ct {k : FS} : (Out.ct ρ).sq k = .ct ρ := rfl
theorem Out.lp_nx {k : FS} : (Out.nx ρ).lp k = k ρ := rfl
theorem Out.lp_ct {k : FS} : (Out.ct ρ).lp k = k ρ := rfl
theorem Out.lp_bk {k : FS} : (Out.bk ρ).lp k = .nx ρ := rfl
theorem Out.lp_rt {x : D} {k : FS} : (Out.rt x ρ).lp k = .rt x ρ := rfl
theorem Out.lp_ro {x : List D} {k : FS} : (Out.ro x ρ).lp k = .ro x ρ := rfl
theorem Out.lp_er {x : Ex} {k : FS} : (Out.er x ρ).lp k = .er x ρ := rfl
theorem tif_t {a b : α} : tif true a b = a := rfl
theorem tif_f {a b : α} : tif false a b = b := rfl
theorem bd_eq {f : M α} {g : α → M β} : bd f g ρ = (f ρ).bd g := by unfold bd; cases f ρ <;> rfl
theorem rt_eq {a : α} : rt a ρ = .ok a ρ := rfl
theorem two_eq {fa fb : M D} {g : D → D → M D} : two fa fb g ρ = (fa ρ).bd (kTwo fb g) := bd_eq
theorem kTwo_eq {fb : M D} {g : D → D → M D} {x : D} : kTwo fb g x ρ = (fb ρ).bd (g x) := bd_eq
theorem consA_eq {f : M D} {g : M (List D)} : consA f g ρ = (f ρ).bd (kCons g) := bd_eq
theorem kCons_eq {g : M (List D)} {x : D} : kCons g x ρ = (g ρ).bd (kCons2 x) := bd_eq
theorem kCons2_eq {x : D} {xs : List D} : kCons2 x xs ρ = .ok (x :: xs) ρ := rfl
theorem bdS_eq {f : M α} {g : α → FS} : bdS f g ρ = (f ρ).bs g := by unfold bdS; cases f ρ <;> rfl
theorem seqS_eq {F G : FS} : seqS F G ρ = (F ρ).sq G := by unfold seqS Out.sq; cases F ρ <;> rfl
theorem nxS_eq : nxS ρ = .nx ρ := rfl
theorem bkS_eq : bkS ρ = .bk ρ := rfl
theorem ctS_eq : ctS ρ = .ct ρ := rfl
theorem retN_eq : retN ρ = .rt .non ρ := rfl
theorem retS_eq {f : M D} : retS f ρ = (f ρ).bs kRet := bdS_eq
theorem kRet_eq {x : D} : kRet x ρ = .rt x ρ := rfl
theorem retO_eq {f : M (List D)} : retO f ρ = (f ρ).bs kRo := bdS_eq
theorem kRo_eq {x : List D} : kRo x ρ = .ro x ρ := rfl
theorem dropS_eq {f : M D} : dropS f ρ = (f ρ).bs kDrop := bdS_eq
theorem kDrop_eq {x : D} : kDrop x ρ = .nx ρ := rfl
theorem setS_eq {i : Nat} {f : M D} : setS i f ρ = (f ρ).bs (kSet i) := bdS_eq
theorem kSet_eq {i : Nat} {x : D} : kSet i x ρ = .nx (ρ.set i (some (.d x))) := rfl
theorem setO_eq {i : Nat} {f : M (List D)} : setO i f ρ = (f ρ).bs (kSetO i) := bdS_eq
theorem kSetO_eq {i : Nat} {x : List D} : kSetO i x ρ = .nx (ρ.set i (some (.own (.lst x)))) := rfl
theorem ifS_eq {f : M Bool} {F G : FS} : ifS f F G ρ = (f ρ).bs (kIfS F G) := by
  unfold ifS; rw [bdS_eq]; cases f ρ with
  | ok a ρ1 => cases a <;> rfl
  | _ => rfl
theorem kIfS_t {F G : FS} : kIfS F G true ρ = F ρ := rfl
theorem kIfS_f {F G : FS} : kIfS F G false ρ = G ρ := rfl
theorem par2_eq {i j : Nat} {f : M (List D)} : par2 i j f ρ = (f ρ).bs (kPar2 i j) := by
  unfold par2; rw [bdS_eq]; rfl
theorem kPar2_eq {i j : Nat} {x y : D} : kPar2 i j [x, y] ρ = .nx ((ρ.set i (some (.d x))).set j (some (.d y))) := rfl
theorem par3_eq {i j l : Nat} {f : M (List D)} : par3 i j l f ρ = (f ρ).bs (kPar3 i j l) := by
  unfold par3; rw [bdS_eq]; rfl
theorem kPar3_eq {i j l : Nat} {x y z : D} : kPar3 i j l [x, y, z] ρ = .nx (((ρ.set i (some (.d x))).set j (some (.d y))).set l (some (.d z))) := rfl
theorem asgS_eq {f : M D} {g : Tgm} : asgS f g ρ = (f ρ).bs (kAsg g) := by
  unfold asgS; rw [bdS_eq]; rfl
theorem kAsg_eq {g : Tgm} {x : D} : kAsg g x ρ = oNx (g x ρ) := rfl
theorem oNx_eq : oNx (some ρ) = .nx ρ := rfl
theorem gNm_eq {i : Nat} {d : D} : gNm i d ρ = some (ρ.set i (some (.d d))) := rfl
theorem gN0_eq : gN0 [] ρ = some ρ := rfl
theorem gCN_eq {i : Nat} {h : Tgs} {d : D} {r : List D} : gC (gNm i) h (d :: r) ρ = h r (ρ.set i (some (.d d))) := rfl
theorem gTp2_eq {h : Tgs} {a b : D} : gTp 2 h (.tup [a, b]) ρ = h [a, b] ρ := rfl
theorem gTp3_eq {h : Tgs} {a b c : D} : gTp 3 h (.tup [a, b, c]) ρ = h [a, b, c] ρ := rfl
theorem gTp4_eq {h : Tgs} {a b c d : D} : gTp 4 h (.tup [a, b, c, d]) ρ = h [a, b, c, d] ρ := rfl
theorem gTp5_eq {h : Tgs} {a b c d e : D} : gTp 5 h (.tup [a, b, c, d, e]) ρ = h [a, b, c, d, e] ρ := rfl
theorem gTp6_eq {h : Tgs} {a b c d e f : D} : gTp 6 h (.tup [a, b, c, d, e, f]) ρ = h [a, b, c, d, e, f] ρ := rfl
theorem gTl2_eq {h : Tgs} {a b : D} : gTp 2 h (.lst [a, b]) ρ = h [a, b] ρ := rfl
theorem gTl3_eq {h : Tgs} {a b c : D} : gTp 3 h (.lst [a, b, c]) ρ = h [a, b, c] ρ := rfl
theorem gTl4_eq {h : Tgs} {a b c d : D} : gTp 4 h (.lst [a, b, c, d]) ρ = h [a, b, c, d] ρ := rfl
theorem gTl5_eq {h : Tgs} {a b c d e : D} : gTp 5 h (.lst [a, b, c, d, e]) ρ = h [a, b, c, d, e] ρ := rfl
theorem gTl6_eq {h : Tgs} {a b c d e f : D} : gTp 6 h (.lst [a, b, c, d, e, f]) ρ = h [a, b, c, d, e, f] ρ := rfl
theorem gNm_of {i : Nat} : (gNm i : Tgm) = fun d ρ => some (ρ.set i (some (.d d))) := rfl
theorem boolM_eq {b : Bool} : boolM (.bl b) ρ = .ok b ρ := rfl
theorem blM_eq {f : M Bool} : blM f ρ = (f ρ).bd kBl := bd_eq
theorem kBl_eq {b : Bool} : kBl b ρ = .ok (.bl b) ρ := rfl
theorem notM_eq {f : M Bool} : notM f ρ = (f ρ).bd kNot := bd_eq
theorem kNot_eq {b : Bool} : kNot b ρ = .ok (!b) ρ := rfl
theorem andM_eq {f g : M Bool} : andM f g ρ = (f ρ).bd (kAnd g) := by
  unfold andM; rw [bd_eq]; cases f ρ with
  | ok a ρ1 => cases a <;> rfl
  | _ => rfl
theorem kAnd_t {g : M Bool} : kAnd g true ρ = g ρ := rfl
theorem kAnd_f {g : M Bool} : kAnd g false ρ = .ok false ρ := rfl
theorem kAnd_g {g : M Bool} {b : Bool} : kAnd g b ρ = tif b (g ρ) (.ok false ρ) := rfl
theorem orM_eq {f g : M Bool} : orM f g ρ = (f ρ).bd (kOr g) := by
  unfold orM; rw [bd_eq]; cases f ρ with
  | ok a ρ1 => cases a <;> rfl
  | _ => rfl
theorem kOr_t {g : M Bool} : kOr g true ρ = .ok true ρ := rfl
theorem kOr_f {g : M Bool} : kOr g false ρ = g ρ := rfl
theorem kOr_g {g : M Bool} {b : Bool} : kOr g b ρ = tif b (.ok true ρ) (g ρ) := rfl
theorem ifM_eq {f : M Bool} {g h : M α} : ifM f g h ρ = (f ρ).bd (kIf g h) := by
  unfold ifM; rw [bd_eq]; cases f ρ with
  | ok a ρ1 => cases a <;> rfl
  | _ => rfl
theorem kIf_t {g h : M α} : kIf g h true ρ = g ρ := rfl
theorem kIf_f {g h : M α} : kIf g h false ρ = h ρ := rfl
theorem kIf_g {g h : M α} {b : Bool} : kIf g h b ρ = tif b (g ρ) (h ρ) := rfl
theorem andV_eq {f g : M D} : andV f g ρ = (f ρ).bd (kAndV g) := by
  unfold andV; rw [bd_eq]; cases f ρ with
  | ok a ρ1 => cases a with
    | bl b => cases b <;> rfl
    | _ => rfl
  | _ => rfl
theorem kAndV_t {g : M D} : kAndV g (.bl true) ρ = g ρ := rfl
theorem kAndV_f {g : M D} : kAndV g (.bl false) ρ = .ok (.bl false) ρ := rfl
theorem kAndV_g {g : M D} {b : Bool} : kAndV g (.bl b) ρ = tif b (g ρ) (.ok (.bl false) ρ) := rfl
theorem orV_eq {f g : M D} : orV f g ρ = (f ρ).bd (kOrV g) := by
  unfold orV; rw [bd_eq]; cases f ρ with
  | ok a ρ1 => cases a with
    | bl b => cases b <;> rfl
    | _ => rfl
  | _ => rfl
theorem kOrV_t {g : M D} : kOrV g (.bl true) ρ = .ok (.bl true) ρ := rfl
theorem kOrV_f {g : M D} : kOrV g (.bl false) ρ = g ρ := rfl
theorem kOrV_g {g : M D} {b : Bool} : kOrV g (.bl b) ρ = tif b (.ok (.bl true) ρ) (g ρ) := rfl
theorem notV_eq {f : M D} : notV f ρ = (f ρ).bd kNotV := bd_eq
theorem kNotV_eq {b : Bool} : kNotV (.bl b) ρ = .ok (.bl (!b)) ρ := rfl
theorem isNV_eq {f : M D} {neg : Bool} : isNV f neg ρ = (f ρ).bd (kIsN neg) := bd_eq
theorem kIsN_n {neg : Bool} : kIsN neg .non ρ = .ok (.bl (!neg)) ρ := rfl
theorem kIsN_i {neg : Bool} {i : Int} : kIsN neg (.int i) ρ = .ok (.bl neg) ρ := rfl
theorem kIsN_b {neg : Bool} {b : Bool} : kIsN neg (.bl b) ρ = .ok (.bl neg) ρ := rfl
theorem kIsN_s {neg : Bool} {x : Str} : kIsN neg (.str x) ρ = .ok (.bl neg) ρ := rfl
theorem kIsN_t {neg : Bool} {x : List D} : kIsN neg (.tup x) ρ = .ok (.bl neg) ρ := rfl
theorem kIsN_l {neg : Bool} {x : List D} : kIsN neg (.lst x) ρ = .ok (.bl neg) ρ := rfl
theorem kIsN_o {neg : Bool} {c : Str} {x : List (Str × D)} : kIsN neg (.obj c x) ρ = .ok (.bl neg) ρ := rfl
theorem callM_eq {m : Fm} {dvs ds : List D} : callM m dvs ds ρ = rsM (m (ds ++ dvs)) ρ := by unfold callM rsM; cases m (ds ++ dvs) <;> rfl
theorem rsM_ok {x : D} : rsM (.ok x) ρ = .ok x ρ := rfl
theorem rsM_ow {x : List D} : rsM (.ow x) ρ = .ok (.lst x) ρ := rfl
theorem rsM_er {x : Ex} : rsM (.er x) ρ = .er x ρ := rfl
theorem callO_eq {m : Fm} {dvs ds : List D} : callO m dvs ds ρ = rsO (m (ds ++ dvs)) ρ := by unfold callO rsO; cases m (ds ++ dvs) <;> rfl
theorem rsO_ow {x : List D} : rsO (.ow x) ρ = .ok x ρ := rfl
theorem rsO_er {x : Ex} : rsO (.er x) ρ = .er x ρ := rfl
theorem lentM_eq {m : FmB} {dvs ds : List D} {i : Nat} : lentM m dvs i ds ρ = kLent m i (ds ++ dvs) (getL ρ i) ρ := by
  unfold lentM kLent; cases getL ρ i with
  | none => rfl
  | some t => (simp only [rsL]) <;> (cases m t (ds ++ dvs) <;> rfl)
theorem kLent_eq {m : FmB} {ds : List D} {i : Nat} {t : Lt} : kLent m i ds (some t) ρ = rsL i (m t ds) ρ := rfl
theorem rsL_ok {i : Nat} {x : D} {t : Lt} : rsL i (.ok x t) ρ = .ok x (setL ρ i t) := rfl
theorem rsL_er {i : Nat} {x : Ex} : rsL i (.er x) ρ = .er x (ρ.set i none) := rfl
theorem getL_eq {i : Nat} : getL ρ i = kLt ρ[i]? := by unfold getL kLt; rfl
theorem kLt_own {t : Lt} : kLt (some (some (.own t))) = some t := rfl
theorem kLt_bor {t : Lt} : kLt (some (some (.bor t))) = some t := rfl
theorem setL_eq {i : Nat} {t : Lt} : setL ρ i t = kSetL ρ i t ρ[i]? := by unfold setL kSetL; rfl
theorem kSetL_own {i : Nat} {t t' : Lt} : kSetL ρ i t (some (some (.own t'))) = ρ.set i (some (.own t)) := rfl
theorem kSetL_bor {i : Nat} {t t' : Lt} : kSetL ρ i t (some (some (.bor t'))) = ρ.set i (some (.bor t)) := rfl
theorem hold_eq {i : Nat} {f : M α} : hold i f ρ = kHold f (getL ρ i) ρ := by unfold hold kHold; cases getL ρ i <;> rfl
theorem kHold_eq {f : M α} {t : Lt} : kHold f (some t) ρ = f ρ := rfl
theorem makeM_eq {c : Str} {m : FmB} {dvs ds : List D} : makeM c m dvs ds ρ = rsMk (m (.ins c []) (ds ++ dvs)) ρ := by
  unfold makeM rsMk; cases m (.ins c []) (ds ++ dvs) with
  | ok x t => cases x <;> rfl
  | _ => rfl
theorem rsMk_ok {c : Str} {fs : List (Str × D)} : rsMk (.ok .non (.ins c fs)) ρ = .ok (.obj c fs) ρ := rfl
theorem rsMk_er {x : Ex} : rsMk (.er x) ρ = .er x ρ := rfl
theorem varD_eq {i : Nat} : varD i ρ = kCell i ρ ρ[i]? := by unfold varD kCell; rfl
theorem kCell_d {i : Nat} {x : D} : kCell i ρ (some (some (.d x))) = .ok x ρ := rfl
theorem kCell_own {i : Nat} {xs : List D} : kCell i ρ (some (some (.own (.lst xs)))) = .ok (.lst xs) (ρ.set i (some (.d (.lst xs)))) := rfl
theorem fldN_eq {i : Nat} {T : CT} {f : Str} : fldN i T f ρ = kFld T f ρ[i]? ρ := by
  unfold fldN kFld
  cases ρ[i]? with
  | none => rfl
  | some c => cases c with
    | none => rfl
    | some c => cases c <;> rfl
theorem kFld_d {T : CT} {f : Str} {x : D} : kFld T f (some (some (.d x))) ρ = fldD T f x ρ := rfl
theorem kFld_bor {T : CT} {f : Str} {c : Str} {fs : List (Str × D)} : kFld T f (some (some (.bor (.ins c fs)))) ρ = fldD T f (.obj c fs) ρ := rfl
theorem isiF_eq {cl : List Str} {x c : D} : isiF cl [x, c] ρ = kIsi (isi cl x c) ρ := by
  show bd _ _ ρ = _
  rw [bd_eq]; unfold kIsi; cases isi cl x c <;> rfl
theorem kIsi_eq {b : Bool} : kIsi (some b) ρ = .ok (.bl b) ρ := rfl
theorem methM_eq {n : Str} {T : MT} {fs : M (List D)} {o : D} : methM n T fs o ρ = kMeth (mlook n T o) fs o ρ := by
  unfold methM kMeth; cases mlook n T o with
  | none => rfl
  | some p => exact bd_eq
theorem kMeth_eq {m : Fm} {dvs : List D} {fs : M (List D)} {o : D} : kMeth (some (m, dvs)) fs o ρ = (fs ρ).bd (kCallS m dvs o) := rfl
theorem kCallS_eq {m : Fm} {dvs ds : List D} {o : D} : kCallS m dvs o ds ρ = rsM (m (o :: (ds ++ dvs))) ρ := callM_eq
theorem addI_ii {u : OpF} {i j : Int} : addI u (.int i) (.int j) ρ = .ok (.int (i + j)) ρ := rfl
theorem subI_ii {u : OpF} {i j : Int} : subI u (.int i) (.int j) ρ = .ok (.int (i - j)) ρ := rfl
theorem mulI_ii {u : OpF} {i j : Int} (h : mulOk i j = true) : mulI u (.int i) (.int j) ρ = .ok (.int (i * j)) ρ := by show chk (mulOk i j) _ ρ = _; rw [h]; rfl
theorem fdivI_ii {u : OpF} {i j : Int} (h : divOk j = true) : fdivI u (.int i) (.int j) ρ = .ok (.int (i.fdiv j)) ρ := by show chk (divOk j) _ ρ = _; rw [h]; rfl
theorem modI_ii {u : OpF} {i j : Int} (h : j ≠ 0) : modI u (.int i) (.int j) ρ = .ok (.int (i.fmod j)) ρ := by show chk (!decide (j = 0)) _ ρ = _; rw [decide_eq_false h]; rfl
theorem cmpI_ii {r : Int → Int → Bool} {u : OpF} {i j : Int} : cmpI r u (.int i) (.int j) ρ = .ok (.bl (r i j)) ρ := rfl
theorem negD_i {i : Int} : negD (.int i) ρ = .ok (.int (-i)) ρ := rfl
theorem ownN_i {T : MT} {u : D → M D} {i : Int} : ownN T u (.int i) ρ = u (.int i) ρ := rfl
theorem absF_i {i : Int} : absF [.int i] ρ = .ok (.int i.natAbs) ρ := rfl
theorem intF_i {i : Int} : intF [.int i] ρ = .ok (.int i) ρ := rfl
theorem intF2_i {i : Int} : intF2 [.int i] ρ = .ok (.int i) ρ := rfl
theorem lenF_t {xs : List D} : lenF [.tup xs] ρ = .ok (.int xs.length) ρ := rfl
theorem lenF_l {xs : List D} : lenF [.lst xs] ρ = .ok (.int xs.length) ρ := rfl
theorem lenNm_eq {i : Nat} : lenNm i ρ = kLenC ρ[i]? ρ := by
  unfold lenNm kLenC
  cases ρ[i]? with
  | none => rfl
  | some c => cases c with
    | none => rfl
    | some c => cases c <;> rfl
theorem kLenC_t {xs : List D} : kLenC (some (some (.d (.tup xs)))) ρ = .ok (.int xs.length) ρ := rfl
theorem kLenC_l {xs : List D} : kLenC (some (some (.d (.lst xs)))) ρ = .ok (.int xs.length) ρ := rfl
theorem kLenC_o {xs : List D} : kLenC (some (some (.own (.lst xs)))) ρ = .ok (.int xs.length) ρ := rfl
theorem kLenC_b {xs : List D} : kLenC (some (some (.bor (.lst xs)))) ρ = .ok (.int xs.length) ρ := rfl
theorem tupM_0 : tupM [] ρ = .ok (.tup []) ρ := rfl
theorem tupM_1 {a : D} : tupM [a] ρ = .ok (.tup [a]) ρ := rfl
theorem tupM_2 {a b : D} : tupM [a, b] ρ = .ok (.tup [a, b]) ρ := rfl
theorem tupM_3 {a b c : D} : tupM [a, b, c] ρ = .ok (.tup [a, b, c]) ρ := rfl
theorem tupM_4 {a b c d : D} : tupM [a, b, c, d] ρ = .ok (.tup [a, b, c, d]) ρ := rfl
theorem tupM_5 {a b c d e : D} : tupM [a, b, c, d, e] ρ = .ok (.tup [a, b, c, d, e]) ρ := rfl
theorem tupM_6 {a b c d e f : D} : tupM [a, b, c, d, e, f] ρ = .ok (.tup [a, b, c, d, e, f]) ρ := rfl
theorem tupM_ok {xs : List D} (h : szOk xs.length = true) : tupM xs ρ = .ok (.tup xs) ρ := by show chk (szOk xs.length) _ ρ = _; rw [h]; rfl
theorem lstM_0 : lstM [] ρ = .ok (.lst []) ρ := rfl
theorem lstM_1 {a : D} : lstM [a] ρ = .ok (.lst [a]) ρ := rfl
theorem lstM_2 {a b : D} : lstM [a, b] ρ = .ok (.lst [a, b]) ρ := rfl
theorem lstM_3 {a b c : D} : lstM [a, b, c] ρ = .ok (.lst [a, b, c]) ρ := rfl
theorem lstM_4 {a b c d : D} : lstM [a, b, c, d] ρ = .ok (.lst [a, b, c, d]) ρ := rfl
theorem lstM_5 {a b c d e : D} : lstM [a, b, c, d, e] ρ = .ok (.lst [a, b, c, d, e]) ρ := rfl
theorem lstM_6 {a b c d e f : D} : lstM [a, b, c, d, e, f] ρ = .ok (.lst [a, b, c, d, e, f]) ρ := rfl
theorem lstM_ok {xs : List D} (h : szOk xs.length = true) : lstM xs ρ = .ok (.lst xs) ρ := by show chk (szOk xs.length) _ ρ = _; rw [h]; rfl
theorem ownM_ok {xs : List D} (h : szOk xs.length = true) : ownM xs ρ = .ok xs ρ := by show chk (szOk xs.length) _ ρ = _; rw [h]; rfl
theorem ownM_0 : ownM [] ρ = .ok [] ρ := rfl
theorem ownM_1 {a : D} : ownM [a] ρ = .ok [a] ρ := rfl
theorem ownM_2 {a b : D} : ownM [a, b] ρ = .ok [a, b] ρ := rfl
theorem itms_t {xs : List D} : itms (.tup xs) ρ = .ok xs ρ := rfl
theorem itms_l {xs : List D} : itms (.lst xs) ρ = .ok xs ρ := rfl
theorem itms_sc {xs : List D} : itms (.scr xs) ρ = .ok xs ρ := rfl
theorem ixM_h {x y z : D} (h : ixD x y = some z) : ixM x y ρ = .ok z ρ := by unfold ixM; rw [h]; rfl
theorem ixM_t0 {a : D} {r : List D} : ixM (.tup (a :: r)) (.int 0) ρ = .ok a ρ := ixM_h (by simp [ixD, atD, ixP])
theorem ixM_t1 {a b : D} {r : List D} : ixM (.tup (a :: b :: r)) (.int 1) ρ = .ok b ρ := ixM_h (by
  have h : decide ((1 : Int) < (r.length : Int) + 1 + 1) = true := decide_eq_true (by omega)
  simp [ixD, atD, ixP, h])
theorem ixM_l0 {a : D} {r : List D} : ixM (.lst (a :: r)) (.int 0) ρ = .ok a ρ := ixM_h (by simp [ixD, atD, ixP])
theorem ixM_l1 {a b : D} {r : List D} : ixM (.lst (a :: b :: r)) (.int 1) ρ = .ok b ρ := ixM_h (by
  have h : decide ((1 : Int) < (r.length : Int) + 1 + 1) = true := decide_eq_true (by omega)
  simp [ixD, atD, ixP, h])
theorem ixM_t42 {a b c d : D} : ixM (.tup [a, b, c, d]) (.int 2) ρ = .ok c ρ := rfl
theorem ixM_t43 {a b c d : D} : ixM (.tup [a, b, c, d]) (.int 3) ρ = .ok d ρ := rfl
theorem ixM_l42 {a b c d : D} : ixM (.lst [a, b, c, d]) (.int 2) ρ = .ok c ρ := rfl
theorem ixM_l43 {a b c d : D} : ixM (.lst [a, b, c, d]) (.int 3) ρ = .ok d ρ := rfl
theorem ixM_t32 {a b c : D} : ixM (.tup [a, b, c]) (.int 2) ρ = .ok c ρ := rfl
theorem ixM_l32 {a b c : D} : ixM (.lst [a, b, c]) (.int 2) ρ = .ok c ρ := rfl
theorem ixNm_eq {i : Nat} {fb : M D} : ixNm i fb ρ = (match isVar ρ i with | true => (fb ρ).bd (fun y ρ1 => kIx ρ1[i]? y ρ1) | false => .stuck) := by
  unfold ixNm
  cases isVar ρ i with
  | false => rfl
  | true =>
    show bd fb (ixNv i) ρ = _
    rw [bd_eq]
    congr 1; funext y ρ1; unfold ixNv kIx
    cases ρ1[i]? with
    | none => rfl
    | some c => cases c with
      | none => rfl
      | some c => cases c <;> rfl
def kIxN (i : Nat) : D → M D := fun y ρ1 => kIx ρ1[i]? y ρ1
def kVar (i : Nat) (fb : M D) : Option (Option Cl) → M D := fun c => match c with
  | some (some _) => fun ρ => (fb ρ).bd (kIxN i)
  | _ => stk
theorem ixNm_e {i : Nat} {fb : M D} : ixNm i fb ρ = kVar i fb ρ[i]? ρ := by
  rw [ixNm_eq]; unfold isVar kVar
  cases ρ[i]? with
  | none => rfl
  | some c => cases c with
    | none => rfl
    | some c => rfl
theorem kVar_eq {i : Nat} {fb : M D} {c : Cl} : kVar i fb (some (some c)) ρ = (fb ρ).bd (kIxN i) := rfl
theorem kIxN_eq {i : Nat} {y : D} : kIxN i y ρ = kIx ρ[i]? y ρ := rfl
theorem kIx_d {x y : D} : kIx (some (some (.d x))) y ρ = ixM x y ρ := rfl
theorem kIx_o {xs : List D} {y : D} : kIx (some (some (.own (.lst xs)))) y ρ = ixM (.lst xs) y ρ := rfl
theorem kIx_b {xs : List D} {y : D} : kIx (some (some (.bor (.lst xs)))) y ρ = ixM (.lst xs) y ρ := rfl
theorem forS_eq {f : M (List D)} {g : Tgm} {F : FS} : forS f g F ρ = (f ρ).bs (forF g F) := bdS_eq
theorem forF_nil {g : Tgm} {F : FS} : forF g F [] ρ = .nx ρ := rfl
theorem forF_cons {g : Tgm} {F : FS} {d : D} {ds : List D} : forF g F (d :: ds) ρ = kFor g F ds (g d ρ) := by
  show (match g d ρ with | some ρ1 => loopS (forF g F ds) (F ρ1) | none => .stuck) = _
  cases g d ρ <;> rfl
theorem kFor_eq {g : Tgm} {F : FS} {ds : List D} : kFor g F ds (some ρ) = (F ρ).lp (forF g F ds) := rfl
theorem frzM_eq {f : M (List D)} : frzM f ρ = (f ρ).bd kFrz := bd_eq
theorem kFrz_eq {l : List D} : kFrz l ρ = .ok (.lst l) ρ := rfl
theorem lcM_eq {vs : List Nat} {fi : M (List D)} {g : Tgm} {ft : M Bool} {fe : M D} : lcM vs fi g ft fe ρ = (fi ρ).bd (kLc vs g ft fe) := by
  unfold lcM kLc
  cases fi ρ with
  | ok ds ρ1 => (simp only [Res.bd, lcE]) <;> (cases lcF vs g ft fe ds [] (wipeE ρ1 vs) <;> rfl)
  | _ => rfl
theorem kLc_eq {vs : List Nat} {g : Tgm} {ft : M Bool} {fe : M D} {ds : List D} : kLc vs g ft fe ds ρ = lcE ρ vs (lcF vs g ft fe ds [] (wipeE ρ vs)) := rfl
theorem lcE_ok {ρ1 : En} {vs : List Nat} {l : List D} : lcE ρ1 vs (.ok l ρ) = .ok l (mergeE ρ1 ρ vs) := rfl
theorem lcM2_eq {vs vs1 : List Nat} {fi fi1 : M (List D)} {g g1 : Tgm} {ft ft1 : M Bool} {fe : M D} : lcM2 vs vs1 fi g ft fi1 g1 ft1 fe ρ = (fi ρ).bd (kLc2 vs vs1 g ft fi1 g1 ft1 fe) := by
  unfold lcM2 kLc2
  cases fi ρ with
  | ok ds ρ1 => (simp only [Res.bd, lcE]) <;> (cases lcF2 vs vs1 g ft fi1 g1 ft1 fe ds [] (wipeE ρ1 vs) <;> rfl)
  | _ => rfl
theorem kLc2_eq {vs vs1 : List Nat} {fi1 : M (List D)} {g g1 : Tgm} {ft ft1 : M Bool} {fe : M D} {ds : List D} : kLc2 vs vs1 g ft fi1 g1 ft1 fe ds ρ = lcE ρ vs (lcF2 vs vs1 g ft fi1 g1 ft1 fe ds [] (wipeE ρ vs)) := rfl
/-! list comprehensions, step by step -/
def lk4 (vs : List Nat) (g : Tgm) (ft : M Bool) (fe : M D) (ds acc : List D) : Res D → Res (List D) := fun r => match r with
  | .ok x ρ3 => (match Nat.blt acc.length 16777216 with
    | true => lcF vs g ft fe ds (acc ++ [x]) (wipeE ρ3 vs)
    | false => .stuck)
  | _ => .stuck
def lk3 (vs : List Nat) (g : Tgm) (ft : M Bool) (fe : M D) (ds acc : List D) : Res Bool → Res (List D) := fun r => match r with
  | .ok true ρ2 => lk4 vs g ft fe ds acc (fe ρ2)
  | .ok false ρ2 => lcF vs g ft fe ds acc (wipeE ρ2 vs)
  | _ => .stuck
def lk2 (vs : List Nat) (g : Tgm) (ft : M Bool) (fe : M D) (ds acc : List D) : Option En → Res (List D) := fun o => match o with
  | none => .stuck
  | some ρ1 => lk3 vs g ft fe ds acc (ft ρ1)
theorem lcF_nil {vs : List Nat} {g : Tgm} {ft : M Bool} {fe : M D} {acc : List D} : lcF vs g ft fe [] acc ρ = .ok acc ρ := rfl
theorem lcF_cons {vs : List Nat} {g : Tgm} {ft : M Bool} {fe : M D} {d : D} {ds acc : List D} : lcF vs g ft fe (d :: ds) acc ρ = lk2 vs g ft fe ds acc (g d ρ) := by
  show (match g d ρ with | none => _ | some ρ1 => _) = _
  cases g d ρ with
  | none => rfl
  | some ρ1 =>
    simp only [lk2, lk3]
    cases ft ρ1 with
    | ok b ρ2 => cases b with
      | false => rfl
      | true => (simp only [lk4]) <;> (cases fe ρ2 <;> rfl)
    | _ => rfl
theorem lk2_eq {vs : List Nat} {g : Tgm} {ft : M Bool} {fe : M D} {ds acc : List D} : lk2 vs g ft fe ds acc (some ρ) = lk3 vs g ft fe ds acc (ft ρ) := rfl
theorem lk3_t {vs : List Nat} {g : Tgm} {ft : M Bool} {fe : M D} {ds acc : List D} : lk3 vs g ft fe ds acc (.ok true ρ) = lk4 vs g ft fe ds acc (fe ρ) := rfl
theorem lk3_f {vs : List Nat} {g : Tgm} {ft : M Bool} {fe : M D} {ds acc : List D} : lk3 vs g ft fe ds acc (.ok false ρ) = lcF vs g ft fe ds acc (wipeE ρ vs) := rfl
theorem lk4_0 {vs : List Nat} {g : Tgm} {ft : M Bool} {fe : M D} {ds : List D} {x : D} : lk4 vs g ft fe ds [] (.ok x ρ) = lcF vs g ft fe ds [x] (wipeE ρ vs) := rfl
theorem lk4_1 {vs : List Nat} {g : Tgm} {ft : M Bool} {fe : M D} {ds : List D} {a x : D} : lk4 vs g ft fe ds [a] (.ok x ρ) = lcF vs g ft fe ds [a, x] (wipeE ρ vs) := rfl
theorem lk4_2 {vs : List Nat} {g : Tgm} {ft : M Bool} {fe : M D} {ds : List D} {a b x : D} : lk4 vs g ft fe ds [a, b] (.ok x ρ) = lcF vs g ft fe ds [a, b, x] (wipeE ρ vs) := rfl
theorem lk4_3 {vs : List Nat} {g : Tgm} {ft : M Bool} {fe : M D} {ds : List D} {a b c x : D} : lk4 vs g ft fe ds [a, b, c] (.ok x ρ) = lcF vs g ft fe ds [a, b, c, x] (wipeE ρ vs) := rfl
theorem lk4_4 {vs : List Nat} {g : Tgm} {ft : M Bool} {fe : M D} {ds : List D} {a b c d x : D} : lk4 vs g ft fe ds [a, b, c, d] (.ok x ρ) = lcF vs g ft fe ds [a, b, c, d, x] (wipeE ρ vs) := rfl
theorem lk4_5 {vs : List Nat} {g : Tgm} {ft : M Bool} {fe : M D} {ds : List D} {a b c d e x : D} : lk4 vs g ft fe ds [a, b, c, d, e] (.ok x ρ) = lcF vs g ft fe ds [a, b, c, d, e, x] (wipeE ρ vs) := rfl
theorem wipe_0 : wipeE ρ [] = ρ := rfl
theorem wipe_1 {i : Nat} {r : List Nat} : wipeE ρ (i :: r) = (wipeE ρ r).set i none := rfl
theorem merge_0 {ρ0 : En} : mergeE ρ0 ρ [] = ρ := rfl
theorem merge_1 {ρ0 : En} {i : Nat} {r : List Nat} : mergeE ρ0 ρ (i :: r) = (mergeE ρ0 ρ r).set i (keepD ρ0[i]?) := rfl
theorem keep_d {x : D} : keepD (some (some (.d x))) = some (.d x) := rfl
theorem keep_n : keepD (some none) = none := rfl
end
end DL


set_option Elab.async false
set_option linter.all false
set_option maxRecDepth 100000
set_option maxHeartbeats 4000000
namespace DL
open PySem PySem.Spec PyProof.Rows L2
/-! Ratios as rational numbers, and how large they are -/
def qD (q : Rat) : D := .obj "Ratio" [("n", .int q.num), ("d", .int (q.den : Int))]
def Bn (i : Nat) : Nat := 2 ^ (32 * 2 ^ i)
theorem Bn_sq (i : Nat) : Bn (i + 1) = Bn i * Bn i := by
  unfold Bn; rw [← Nat.pow_add]; congr 1; rw [Nat.pow_succ]; omega
theorem Bn_big (i : Nat) : 4294967296 ≤ Bn i := by
  unfold Bn
  calc 4294967296 = 2 ^ 32 := rfl
    _ ≤ 2 ^ (32 * 2 ^ i) := Nat.pow_le_pow_right (by decide) (by have := Nat.one_le_two_pow (n := i); omega)
theorem Bn_mono {i j : Nat} (h : i ≤ j) : Bn i ≤ Bn j := Nat.pow_le_pow_right (by decide) (Nat.mul_le_mul_left _ (Nat.pow_le_pow_right (by decide) h))
/-- numerator and denominator below half of 2 to 32 times 2 to i -/
structure Lv (i : Nat) (q : Rat) : Prop where
  n : 2 * q.num.natAbs ≤ Bn i
  d : 2 * q.den ≤ Bn i
theorem Lv_mono {i j : Nat} {q : Rat} (h : Lv i q) (hij : i ≤ j) : Lv j q := ⟨Nat.le_trans h.n (Bn_mono hij), Nat.le_trans h.d (Bn_mono hij)⟩
theorem Lv_up {j : Nat} {q : Rat} (h : Lv 0 q) : Lv j q := Lv_mono h (Nat.zero_le _)
theorem Lv_div {i : Nat} {n d : Int} (hn : 2 * n.natAbs ≤ Bn i) (hd : 2 * d.natAbs ≤ Bn i) : Lv i (Rat.divInt n d) := by
  constructor
  · rw [Rat.num_divInt]
    refine Nat.le_trans (Nat.mul_le_mul_left 2 ?_) hn
    refine Nat.le_trans (Int.natAbs_ediv_le_natAbs _ _) ?_
    rw [Int.natAbs_mul, Int.natAbs_sign]
    split <;> omega
  · rw [Rat.den_divInt]
    split
    · have := Bn_big i; omega
    · exact Nat.le_trans (Nat.mul_le_mul_left 2 (Nat.div_le_self _ _)) hd
theorem half_mul {B a b : Nat} (ha : 2 * a ≤ B) (hb : 2 * b ≤ B) : 4 * (a * b) ≤ B * B := by
  have := Nat.mul_le_mul ha hb
  calc 4 * (a * b) = 2 * a * (2 * b) := by rw [Nat.mul_mul_mul_comm]
    _ ≤ B * B := this
theorem den_nz (x : Rat) : (x.den : Int) ≠ 0 := by have := x.den_nz; omega
theorem den_pos (x : Rat) : (0 : Int) < (x.den : Int) := by have := x.den_pos; omega
theorem add_divInt (x y : Rat) : Rat.divInt (x.num * y.den + y.num * x.den) ((x.den : Int) * y.den) = x + y := by
  rw [Rat.add_def', ← Rat.divInt_ofNat]; simp
theorem sub_divInt (x y : Rat) : Rat.divInt (x.num * y.den - y.num * x.den) ((x.den : Int) * y.den) = x - y := by
  rw [Rat.sub_def', ← Rat.divInt_ofNat]; simp
theorem mul_divInt (x y : Rat) : Rat.divInt (x.num * y.num) ((x.den : Int) * y.den) = x * y := by
  rw [Rat.mul_def', ← Rat.divInt_ofNat]; simp
theorem neg_divInt' (x : Rat) : Rat.divInt (-x.num) (x.den : Int) = -x := by
  rw [← Rat.neg_divInt, Rat.num_divInt_den]
theorem Lv_add {i : Nat} {x y : Rat} (hx : Lv i x) (hy : Lv i y) : Lv (i + 1) (x + y) := by
  rw [← add_divInt]
  have h1 := half_mul hx.n hy.d
  have h2 := half_mul hy.n hx.d
  have h3 := half_mul hx.d hy.d
  refine Lv_div ?_ ?_ <;> rw [Bn_sq]
  · have := Int.natAbs_add_le (x.num * y.den) (y.num * x.den)
    rw [Int.natAbs_mul, Int.natAbs_mul, Int.natAbs_natCast, Int.natAbs_natCast] at this
    omega
  · rw [Int.natAbs_mul, Int.natAbs_natCast, Int.natAbs_natCast]; omega
theorem Lv_sub {i : Nat} {x y : Rat} (hx : Lv i x) (hy : Lv i y) : Lv (i + 1) (x - y) := by
  rw [← sub_divInt]
  have h1 := half_mul hx.n hy.d
  have h2 := half_mul hy.n hx.d
  have h3 := half_mul hx.d hy.d
  refine Lv_div ?_ ?_ <;> rw [Bn_sq]
  · have := Int.natAbs_sub_le (x.num * y.den) (y.num * x.den)
    rw [Int.natAbs_mul, Int.natAbs_mul, Int.natAbs_natCast, Int.natAbs_natCast] at this
    omega
  · rw [Int.natAbs_mul, Int.natAbs_natCast, Int.natAbs_natCast]; omega
theorem Lv_mul {i : Nat} {x y : Rat} (hx : Lv i x) (hy : Lv i y) : Lv (i + 1) (x * y) := by
  rw [← mul_divInt]
  have h1 := half_mul hx.n hy.n
  have h3 := half_mul hx.d hy.d
  refine Lv_div ?_ ?_ <;> rw [Bn_sq]
  · rw [Int.natAbs_mul]; omega
  · rw [Int.natAbs_mul, Int.natAbs_natCast, Int.natAbs_natCast]; omega
theorem Lv_neg {i : Nat} {x : Rat} (hx : Lv i x) : Lv i (-x) := ⟨by rw [Rat.neg_num, Int.natAbs_neg]; exact hx.n, hx.d⟩
theorem Lv_ite {i : Nat} {p : Prop} [Decidable p] {x y : Rat} (hx : Lv i x) (hy : Lv i y) : Lv i (if p then x else y) := by split <;> assumption
theorem mulOk_of {i j : Int} (h : i.natAbs.log2 + j.natAbs.log2 < 1000000) : mulOk i j = true := by
  unfold mulOk
  have : Nat.blt (i.natAbs.log2 + j.natAbs.log2) 1000000 = true := Nat.blt_eq.mpr h
  rw [this]; simp
theorem log2_le {n k : Nat} (h : n ≤ 2 ^ k) : n.log2 ≤ k := by
  by_cases h0 : n = 0
  · subst h0; rw [Nat.log2_zero]; omega
  · have := (Nat.le_log2 h0 (k := n.log2)).mp (Nat.le_refl _)
    exact (Nat.pow_le_pow_iff_right (by decide)).mp (Nat.le_trans this h)
theorem log2_Bn7 {n : Nat} (h : 2 * n ≤ Bn 7) : n.log2 < 4097 := by
  have : n ≤ 2 ^ 4096 := by unfold Bn at h; omega
  have := log2_le this
  omega
theorem log2_Bn8 {n : Nat} (h : 4 * n ≤ Bn 7 * Bn 7) : n.log2 < 8200 := by
  rw [← Bn_sq] at h
  have : n ≤ 2 ^ 8192 := by
    have e : Bn 8 = 2 ^ 8192 := by unfold Bn; rfl
    rw [e] at h; omega
  have := log2_le this
  omega
theorem mulOk_7 {i j : Int} (h : 2 * i.natAbs ≤ Bn 7) (h' : 2 * j.natAbs ≤ Bn 7) : mulOk i j = true := mulOk_of (by
  have := log2_Bn7 h; have := log2_Bn7 h'; omega)
theorem divOk_of {j : Int} (h0 : j ≠ 0) (h : j.natAbs.log2 < 9000) : divOk j = true := by
  unfold divOk
  have : Nat.blt j.natAbs.log2 9000 = true := Nat.blt_eq.mpr h
  rw [this, decide_eq_false h0]; rfl
theorem log2_mono {a b : Nat} (h : a ≤ b) (hb : b ≠ 0) : a.log2 ≤ b.log2 := by
  by_cases ha : a = 0
  · subst ha; rw [Nat.log2_zero]; omega
  · exact (Nat.le_log2 hb).mpr (Nat.le_trans ((Nat.le_log2 ha (k := a.log2)).mp (Nat.le_refl _)) h)
theorem gcd_divOk {n d : Int} (hd : d ≠ 0) (hb : d.natAbs.log2 < 9000) : divOk ((Int.gcd n d : Nat) : Int) = true := by
  have h0 : d.natAbs ≠ 0 := by omega
  have hle : Int.gcd n d ≤ d.natAbs := Nat.le_of_dvd (by omega) (Nat.gcd_dvd_right _ _)
  have hne : Int.gcd n d ≠ 0 := by
    intro h; have := Int.gcd_eq_zero_iff.mp h; exact hd this.2
  refine divOk_of (by omega) ?_
  rw [Int.natAbs_natCast]
  exact Nat.lt_of_le_of_lt (log2_mono hle h0) hb
theorem num_pos_form {n d : Int} (hd : d ≠ 0) : (Rat.divInt n d).num = if 0 < d then n.fdiv (Int.gcd n d : Nat) else (-n).fdiv (Int.gcd n d : Nat) := by
  rw [Rat.num_divInt, Int.gcd_comm d n]
  have hg : (0 : Int) ≤ ((Int.gcd n d : Nat) : Int) := Int.natCast_nonneg _
  split
  · rename_i h
    rw [Int.fdiv_eq_ediv_of_nonneg _ hg, Int.sign_eq_one_of_pos h, Int.one_mul]
  · rename_i h
    rw [Int.fdiv_eq_ediv_of_nonneg _ hg, Int.sign_eq_neg_one_of_neg (by omega), Int.neg_one_mul]
theorem den_form {n d : Int} (hd : d ≠ 0) : (((Rat.divInt n d).den : Nat) : Int) = (d.natAbs : Int).fdiv (Int.gcd n d : Nat) := by
  rw [Rat.den_divInt, if_neg hd, Int.gcd_comm d n, Int.fdiv_eq_ediv_of_nonneg _ (Int.natCast_nonneg _), Int.natCast_ediv]
theorem lt_cross (x y : Rat) : (decide (x.num * y.den < y.num * x.den)) = decide (x < y) := by
  apply decide_eq_decide.mpr; exact (Rat.lt_iff x y).symm
theorem eq_parts (x y : Rat) : (decide (x.num = y.num) && decide ((x.den : Int) = (y.den : Int))) = decide (x = y) := by
  by_cases h : x = y
  · subst h; simp
  · rw [decide_eq_false h]
    rw [← Bool.decide_and]
    apply decide_eq_false
    intro ⟨h1, h2⟩
    exact h (Rat.ext h1 (by omega))
theorem num_pos (x : Rat) : (decide ((0 : Int) < x.num)) = decide (0 < x) := by
  apply decide_eq_decide.mpr
  have := Rat.lt_iff 0 x
  simp at this
  exact this.symm
theorem num_neg (x : Rat) : (decide (x.num < (0 : Int))) = decide (x < 0) := by
  apply decide_eq_decide.mpr
  have := Rat.lt_iff x 0
  simp at this
  exact this.symm
theorem size_divInt (x : Rat) : Rat.divInt (x.num.natAbs : Int) x.den = if 0 ≤ x then x else -x := by
  split
  · rename_i h
    have := Rat.num_nonneg.mpr h
    rw [Int.natAbs_of_nonneg this, Rat.num_divInt_den]
  · rename_i h
    have : x.num < 0 := by
      have := mt Rat.num_nonneg.mp h
      omega
    rw [Int.ofNat_natAbs_of_nonpos (by omega), neg_divInt']
/-! ints and other plain values under == -/
def kEq (neg : Bool) (u : OpF) (x y : D) : Option (PyData × PyData) → M D := fun o => match o with
  | some (p, q) => chk (SeqAt.shaped p && SeqAt.shaped q) (rt (.bl (xor neg (PyData.eqv p q))))
  | none => u x y
theorem eqP_eq {neg : Bool} {u : OpF} {x y : D} {ρ : En} : eqP neg u x y ρ = kEq neg u x y (two_py x y) ρ := by
  unfold eqP kEq; cases two_py x y with
  | none => rfl
  | some p => cases p; rfl
theorem kEq_n {neg : Bool} {u : OpF} {x y : D} {ρ : En} : kEq neg u x y none ρ = u x y ρ := rfl
theorem eqP_ii {u : OpF} {i j : Int} {ρ : En} : eqP false u (.int i) (.int j) ρ = .ok (.bl (decide (i = j))) ρ := by
  show Res.ok (D.bl (xor false (i == j))) ρ = _
  rw [Bool.false_xor]; rfl
theorem neP_ii {u : OpF} {i j : Int} {ρ : En} : eqP true u (.int i) (.int j) ρ = .ok (.bl (!decide (i = j))) ρ := by
  show Res.ok (D.bl (xor true (i == j))) ρ = _
  rw [Bool.true_xor]; rfl
theorem eqP_bb {u : OpF} {a b : Bool} {ρ : En} : eqP false u (.bl a) (.bl b) ρ = .ok (.bl (a == b)) ρ := by
  show Res.ok (D.bl (xor false (a == b))) ρ = _
  rw [Bool.false_xor]
theorem neP_bb {u : OpF} {a b : Bool} {ρ : En} : eqP true u (.bl a) (.bl b) ρ = .ok (.bl (!(a == b))) ρ := by
  show Res.ok (D.bl (xor true (a == b))) ρ = _
  rw [Bool.true_xor]
theorem eqP_ss {u : OpF} {a b : Str} {ρ : En} (ha : SeqAt.shaped (.str a) = true) (hb : SeqAt.shaped (.str b) = true) : eqP false u (.str a) (.str b) ρ = .ok (.bl (a == b)) ρ := by
  show chk (SeqAt.shaped (.str a) && SeqAt.shaped (.str b)) _ ρ = _
  rw [ha, hb]
  show Res.ok (D.bl (xor false (a == b))) ρ = _
  rw [Bool.false_xor]
theorem neP_ss {u : OpF} {a b : Str} {ρ : En} (ha : SeqAt.shaped (.str a) = true) (hb : SeqAt.shaped (.str b) = true) : eqP true u (.str a) (.str b) ρ = .ok (.bl (!(a == b))) ρ := by
  show chk (SeqAt.shaped (.str a) && SeqAt.shaped (.str b)) _ ρ = _
  rw [ha, hb]
  show Res.ok (D.bl (xor true (a == b))) ρ = _
  rw [Bool.true_xor]
/-! lookups in tables of classes -/
def kOwn (p : Option (Fm × List D)) (u : OpF) (x y : D) : M D := match p with
  | some p => rsM (p.1 ([x, y] ++ p.2))
  | none => u x y
theorem ownO_eq {T : MT} {u : OpF} {x y : D} {ρ : En} : ownO T u x y ρ = kOwn (ownT T x y) u x y ρ := by
  unfold ownO kOwn; cases ownT T x y with
  | none => rfl
  | some p => exact callM_eq
theorem kOwn_eq {m : Fm} {dvs : List D} {u : OpF} {x y : D} {ρ : En} : kOwn (some (m, dvs)) u x y ρ = rsM (m (x :: y :: dvs)) ρ := rfl
theorem kOwn_n {u : OpF} {x y : D} {ρ : En} : kOwn none u x y ρ = u x y ρ := rfl
def kOwnN (p : Option (Fm × List D)) (u : D → M D) (x : D) : M D := match p with
  | some p => rsM (p.1 ([x] ++ p.2))
  | none => u x
theorem ownN_eq {T : MT} {u : D → M D} {x : D} {ρ : En} : ownN T u x ρ = kOwnN (mlook "__neg__" T x) u x ρ := by
  unfold ownN kOwnN; cases mlook "__neg__" T x with
  | none => rfl
  | some p => exact callM_eq
theorem kOwnN_eq {m : Fm} {dvs : List D} {u : D → M D} {x : D} {ρ : En} : kOwnN (some (m, dvs)) u x ρ = rsM (m (x :: dvs)) ρ := rfl
theorem kOwnN_n {u : D → M D} {x : D} {ρ : En} : kOwnN none u x ρ = u x ρ := rfl
theorem eqO_eq {T : MT} {u : OpF} {x y : D} {ρ : En} : eqO T u x y ρ = kOwn (ownE T x y) u x y ρ := by
  unfold eqO kOwn; cases ownE T x y with
  | none => rfl
  | some p => exact callM_eq
def kNotD : D → M D := fun z => match z with
  | .bl b => rt (.bl (!b))
  | _ => stk
def kOwnE (p : Option (Fm × List D)) (u : OpF) (x y : D) : M D := match p with
  | some p => fun ρ => (rsM (p.1 ([x, y] ++ p.2)) ρ).bd kNotD
  | none => u x y
theorem neO_eq {T : MT} {u : OpF} {x y : D} {ρ : En} : neO T u x y ρ = kOwnE (ownE T x y) u x y ρ := by
  unfold neO kOwnE; cases ownE T x y with
  | none => rfl
  | some p => simp only [bd_eq, callM_eq]; rfl
theorem kOwnE_eq {m : Fm} {dvs : List D} {u : OpF} {x y : D} {ρ : En} : kOwnE (some (m, dvs)) u x y ρ = (rsM (m (x :: y :: dvs)) ρ).bd kNotD := rfl
theorem kOwnE_n {u : OpF} {x y : D} {ρ : En} : kOwnE none u x y ρ = u x y ρ := rfl
theorem kNotD_eq {b : Bool} {ρ : En} : kNotD (.bl b) ρ = .ok (.bl (!b)) ρ := rfl
/-! a while loop that runs Euclid's steps is shown law by law; here its measure -/
theorem whileF_succ {c : M Bool} {F : FS} {n : Nat} {ρ : En} : whileF c F (n + 1) ρ = (c ρ).bs (fun b => match b with | true => fun ρ => loopS (whileF c F n) (F ρ) | false => nxS) := bdS_eq
theorem whileS_eq {μ : En → Nat} {c : M Bool} {F : FS} {ρ : En} : whileS μ c F ρ = whileF c F (μ ρ) ρ := rfl
/-! setting fields, the ends of calls -/
def kSetF3 (ρ1 : En) (i : Nat) : Option Lt → Out := fun o => match o with
  | some t' => .nx (setL ρ1 i t')
  | none => .stuck
def kSetF2 (ρ1 : En) (i : Nat) (T : CT) (f : Str) (x : D) : Option Lt → Out := fun o => match o with
  | none => .stuck
  | some t => kSetF3 ρ1 i (setFt T f x t)
def kSetF1 (i : Nat) (T : CT) (f : Str) : D → FS := fun x ρ1 => kSetF2 ρ1 i T f x (getL ρ1 i)
def kSetF (i : Nat) (T : CT) (f : Str) (fv : M D) : Option Lt → FS := fun o => match o with
  | none => fun _ => .stuck
  | some _ => fun ρ => (fv ρ).bs (kSetF1 i T f)
theorem setF_eq {i : Nat} {T : CT} {f : Str} {fv : M D} {ρ : En} : setF i T f fv ρ = kSetF i T f fv (getL ρ i) ρ := by
  unfold setF kSetF
  cases getL ρ i with
  | none => rfl
  | some t =>
    simp only [Res.bs]
    cases fv ρ with
    | ok x ρ1 =>
      simp only [kSetF1, kSetF2]
      cases getL ρ1 i with
      | none => rfl
      | some t => (simp only [kSetF3]) <;> (cases setFt T f x t <;> rfl)
    | _ => rfl
theorem kSetF_eq {i : Nat} {T : CT} {f : Str} {fv : M D} {t : Lt} {ρ : En} : kSetF i T f fv (some t) ρ = (fv ρ).bs (kSetF1 i T f) := rfl
theorem kSetF1_eq {i : Nat} {T : CT} {f : Str} {x : D} {ρ : En} : kSetF1 i T f x ρ = kSetF2 ρ i T f x (getL ρ i) := rfl
theorem kSetF2_eq {i : Nat} {T : CT} {f : Str} {x : D} {t : Lt} {ρ : En} : kSetF2 ρ i T f x (some t) = kSetF3 ρ i (setFt T f x t) := rfl
theorem kSetF3_eq {i : Nat} {t : Lt} {ρ : En} : kSetF3 ρ i (some t) = .nx (setL ρ i t) := rfl
theorem outR_nx {ρ : En} : outR (.nx ρ) = .ok .non := rfl
theorem outR_rt {x : D} {ρ : En} : outR (.rt x ρ) = .ok x := rfl
theorem outR_ro {x : List D} {ρ : En} : outR (.ro x ρ) = .ow x := rfl
theorem outR_er {x : Ex} {ρ : En} : outR (.er x ρ) = .er x := rfl
theorem outB_nx {t : Lt} {r : En} : outB (.nx (some (.bor t) :: r)) = .ok .non t := rfl
theorem outB_rt {x : D} {t : Lt} {r : En} : outB (.rt x (some (.bor t) :: r)) = .ok x t := rfl
theorem outB_er {x : Ex} {ρ : En} : outB (.er x ρ) = .er x := rfl
theorem raiseS_eq {c : Str} {ρ : En} : raiseS c ρ = .er ⟨c, []⟩ ρ := rfl
def kRaise (c f : Str) : List D → FS := fun xs ρ => match xs with
  | [y] => .er ⟨c, [(f, y)]⟩ ρ
  | _ => .stuck
theorem raiseX_eq {c f : Str} {fs : M (List D)} {ρ : En} : raiseX c f fs ρ = (fs ρ).bs (kRaise c f) := by unfold raiseX; rw [bdS_eq]; rfl
theorem kRaise_eq {c f : Str} {y : D} {ρ : En} : kRaise c f [y] ρ = .er ⟨c, [(f, y)]⟩ ρ := rfl
end DL


set_option Elab.async false
set_option linter.all false
set_option maxRecDepth 100000
set_option maxHeartbeats 4000000
namespace DL
open PySem PySem.Spec PyProof.Rows L2
/-! chains of comparisons, slices, changed lists, tries, held functions, texts -/
def kCh3 (fc : M D) (h : OpF) (y : D) : D → M D := fun t => match t with
  | .bl b => fun ρ => tif b ((fc ρ).bd (h y)) (.ok (.bl false) ρ)
  | _ => stk
def kCh2 (fc : M D) (g h : OpF) (x : D) : D → M D := fun y ρ => (g x y ρ).bd (kCh3 fc h y)
def kCh1 (fb fc : M D) (g h : OpF) : D → M D := fun x ρ => (fb ρ).bd (kCh2 fc g h x)
def kSl3 (x : D) (lo : Option Int) : Option Int → M D := fun hi => slM x lo hi
def kSl2 (h : PMO) (x : D) : Option Int → M D := fun lo ρ => (h ρ).bd (kSl3 x lo)
def kSl1 (l h : PMO) : D → M D := fun x ρ => (l ρ).bd (kSl2 h x)
def kPart : D → PMO := fun x => match x with
  | .int i => rt (some i)
  | _ => stk
def kHoldL {α : Type} (f : M α) : Option Lt → M α := fun o => match o with
  | some (.lst _) => f
  | _ => stk
def kChg2 (i : Nat) : Option (D × List D) → M D := fun o ρ => match o with
  | some p => .ok p.1 (setL ρ i (.lst p.2))
  | none => .stuck
def kChg (i : Nat) (g : List D → Option (D × List D)) : Option Lt → M D := fun o => match o with
  | some (.lst xs) => kChg2 i (g xs)
  | _ => stk
def kApp (i : Nat) : D → M D := fun y => chgM i (appG y)
def kExt (i : Nat) : D → M D := fun y => chgM i (extG y)
def kSix2 (i : Nat) (z : D) : D → M D := fun y => chgM i (sixG y z)
def kSix1 (fi : M D) (i : Nat) : D → M D := fun z ρ => (fi ρ).bd (kSix2 i z)
def kNx : D → FS := fun _ => nxS
def kTry (T : ST) (hs : List Hd) : Out → Out := fun o => match o with
  | .er x ρ1 => catchS T hs x ρ1
  | o => o
def kCatch (T : ST) (h : Hd) (r : List Hd) (x : Ex) : Option Bool → FS := fun o => match o with
  | some true => runX h x
  | some false => catchS T r x
  | none => fun _ => .stuck
def kRetX (tag : Str) : Option D → FS := fun o ρ => match o with
  | some v => .rt (.tup [.str tag, v]) ρ
  | none => .stuck
def kHeld2 (fs : M (List D)) : Option (Fm × List D) → M D := fun o => match o with
  | some p => fun ρ => (fs ρ).bd (callM p.1 p.2)
  | none => stk
def kHeld (T : MT) (fs : M (List D)) : Option (Option Cl) → M D := fun c => match c with
  | some (some (.d (.glo g))) => kHeld2 fs (T g)
  | _ => stk
def kStr : D → M D := fun z => match z with
  | .str y => rt (.str y)
  | _ => stk
def kStrO (u : List D → M D) (x : D) : Option (Fm × List D) → M D := fun o => match o with
  | some p => fun ρ => (rsM (p.1 ([x] ++ p.2)) ρ).bd kStr
  | none => u [x]
def kJoin (a : Str) : List D → M D := fun ds => match ds with
  | [y] => optM (joinO a y)
  | _ => stk
def kJs (fs : List (M D)) (acc : Str) : D → M D := fun x => match x with
  | .str y => chk (szOk (acc ++ y).length) (jsM fs (acc ++ y))
  | _ => stk
section
variable {α : Type} {ρ : En}
theorem chainM_eq {fa fb fc : M D} {g h : OpF} : chainM fa fb fc g h ρ = (fa ρ).bd (kCh1 fb fc g h) := by
  unfold chainM; rw [bd_eq]
  congr 1; funext x ρ1; rw [bd_eq]; unfold kCh1
  congr 1; funext y ρ2; rw [bd_eq]; unfold kCh2
  congr 1; funext t ρ3; unfold kCh3
  cases t with
  | bl b => cases b with
    | false => rfl
    | true => exact bd_eq
  | _ => rfl
theorem kCh1_eq {fb fc : M D} {g h : OpF} {x : D} : kCh1 fb fc g h x ρ = (fb ρ).bd (kCh2 fc g h x) := rfl
theorem kCh2_eq {fc : M D} {g h : OpF} {x y : D} : kCh2 fc g h x y ρ = (g x y ρ).bd (kCh3 fc h y) := rfl
theorem kCh3_t {fc : M D} {h : OpF} {y : D} : kCh3 fc h y (.bl true) ρ = (fc ρ).bd (h y) := rfl
theorem kCh3_f {fc : M D} {h : OpF} {y : D} : kCh3 fc h y (.bl false) ρ = .ok (.bl false) ρ := rfl
theorem kCh3_g {fc : M D} {h : OpF} {y : D} {b : Bool} : kCh3 fc h y (.bl b) ρ = tif b ((fc ρ).bd (h y)) (.ok (.bl false) ρ) := rfl
theorem slF_eq {f : M D} {l h : PMO} : slF f l h ρ = (f ρ).bd (kSl1 l h) := by
  unfold slF; rw [bd_eq]
  congr 1; funext x ρ1; rw [bd_eq]; unfold kSl1
  congr 1; funext y ρ2; rw [bd_eq]; rfl
theorem kSl1_eq {l h : PMO} {x : D} : kSl1 l h x ρ = (l ρ).bd (kSl2 h x) := rfl
theorem kSl2_eq {h : PMO} {x : D} {lo : Option Int} : kSl2 h x lo ρ = (h ρ).bd (kSl3 x lo) := rfl
theorem kSl3_t {xs : List D} {lo hi : Option Int} : kSl3 (.tup xs) lo hi ρ = .ok (.tup (cutD xs lo hi)) ρ := rfl
theorem kSl3_l {xs : List D} {lo hi : Option Int} : kSl3 (.lst xs) lo hi ρ = .ok (.lst (cutD xs lo hi)) ρ := rfl
theorem kSl3_s {xs : List D} {lo hi : Option Int} : kSl3 (.scr xs) lo hi ρ = .ok (.lst (cutD xs lo hi)) ρ := rfl
theorem partF_eq {f : M D} : partF f ρ = (f ρ).bd kPart := by unfold partF; rw [bd_eq]; rfl
theorem kPart_eq {i : Int} : kPart (.int i) ρ = .ok (some i) ρ := rfl
theorem holdL_eq {i : Nat} {f : M α} : holdL i f ρ = kHoldL f (getL ρ i) ρ := by
  unfold holdL kHoldL; cases getL ρ i with
  | none => rfl
  | some t => cases t <;> rfl
theorem kHoldL_eq {f : M α} {xs : List D} : kHoldL f (some (.lst xs)) ρ = f ρ := rfl
theorem chgM_eq {i : Nat} {g : List D → Option (D × List D)} : chgM i g ρ = kChg i g (getL ρ i) ρ := by
  unfold chgM kChg; cases getL ρ i with
  | none => rfl
  | some t => cases t with
    | lst xs => (simp only [kChg2]) <;> (cases g xs <;> rfl)
    | ins c fs => rfl
theorem kChg_eq {i : Nat} {g : List D → Option (D × List D)} {xs : List D} : kChg i g (some (.lst xs)) ρ = kChg2 i (g xs) ρ := rfl
theorem kChg2_eq {i : Nat} {x : D} {l : List D} : kChg2 i (some (x, l)) ρ = .ok x (setL ρ i (.lst l)) := rfl
theorem appM_eq {i : Nat} {f : M D} : appM i f ρ = kHoldL (bd f (kApp i)) (getL ρ i) ρ := holdL_eq
theorem kApp_eq {i : Nat} {y : D} : kApp i y ρ = kChg i (appG y) (getL ρ i) ρ := chgM_eq
theorem appG_0 {y : D} : appG y [] = some (.non, [y]) := rfl
theorem appG_1 {a y : D} : appG y [a] = some (.non, [a, y]) := rfl
theorem appG_2 {a b y : D} : appG y [a, b] = some (.non, [a, b, y]) := rfl
theorem appG_3 {a b c y : D} : appG y [a, b, c] = some (.non, [a, b, c, y]) := rfl
theorem extM_eq {i : Nat} {f : M D} : extM i f ρ = kHoldL (bd f (kExt i)) (getL ρ i) ρ := holdL_eq
theorem kExt_eq {i : Nat} {y : D} : kExt i y ρ = kChg i (extG y) (getL ρ i) ρ := chgM_eq
theorem sixS_eq {i : Nat} {fv fi : M D} : sixS i fv fi ρ = (kHoldL (bd fv (kSix1 fi i)) (getL ρ i) ρ).bs kNx := by
  unfold sixS; rw [bdS_eq, holdL_eq]
  have e : (fun z => bd fi fun y => chgM i (sixG y z)) = kSix1 fi i := by
    funext z ρ1; rw [bd_eq]; rfl
  rw [e]; rfl
theorem kSix1_eq {i : Nat} {fi : M D} {z : D} : kSix1 fi i z ρ = (fi ρ).bd (kSix2 i z) := rfl
theorem kSix2_eq {i : Nat} {y z : D} : kSix2 i z y ρ = kChg i (sixG y z) (getL ρ i) ρ := chgM_eq
theorem kNx_eq {x : D} : kNx x ρ = .nx ρ := rfl
theorem sixG_0 {a z : D} {r : List D} : sixG (.int 0) z (a :: r) = some (.non, z :: r) := by
  have h : decide ((0 : Int) < ((a :: r).length : Nat)) = true := decide_eq_true (by simp only [List.length_cons]; omega)
  simp only [sixG, ixP, h, decide_true]; rfl
theorem sixG_1 {a b z : D} {r : List D} : sixG (.int 1) z (a :: b :: r) = some (.non, a :: z :: r) := by
  have h : decide ((1 : Int) < ((a :: b :: r).length : Nat)) = true := decide_eq_true (by simp only [List.length_cons]; omega)
  simp only [sixG, ixP, h, show decide ((0 : Int) ≤ 1) = true from rfl]; rfl
theorem sixG_2 {a b c z : D} {r : List D} : sixG (.int 2) z (a :: b :: c :: r) = some (.non, a :: b :: z :: r) := by
  have h : decide ((2 : Int) < ((a :: b :: c :: r).length : Nat)) = true := decide_eq_true (by simp only [List.length_cons]; omega)
  simp only [sixG, ixP, h, show decide ((0 : Int) ≤ 2) = true from rfl]; rfl
theorem listO_t {xs : List D} : listO [.tup xs] ρ = .ok xs ρ := rfl
theorem listO_l {xs : List D} : listO [.lst xs] ρ = .ok xs ρ := rfl
theorem tupF_t {xs : List D} : tupF [.tup xs] ρ = .ok (.tup xs) ρ := rfl
theorem tupF_l {xs : List D} : tupF [.lst xs] ρ = .ok (.tup xs) ρ := rfl
theorem rng_0 : rngF1 [.int 0] ρ = .ok [] ρ := rfl
theorem rng_1 : rngF1 [.int 1] ρ = .ok [.int 0] ρ := rfl
theorem rng_2 : rngF1 [.int 2] ρ = .ok [.int 0, .int 1] ρ := rfl
theorem rng_3 : rngF1 [.int 3] ρ = .ok [.int 0, .int 1, .int 2] ρ := rfl
theorem rng_4 : rngF1 [.int 4] ρ = .ok [.int 0, .int 1, .int 2, .int 3] ρ := rfl
theorem rng_5 : rngF1 [.int 5] ρ = .ok [.int 0, .int 1, .int 2, .int 3, .int 4] ρ := rfl
theorem rng_6 : rngF1 [.int 6] ρ = .ok [.int 0, .int 1, .int 2, .int 3, .int 4, .int 5] ρ := rfl
theorem tryS_eq {T : ST} {F : FS} {hs : List Hd} : tryS T F hs ρ = kTry T hs (F ρ) := by unfold tryS kTry; cases F ρ <;> rfl
theorem kTry_er {T : ST} {hs : List Hd} {x : Ex} : kTry T hs (.er x ρ) = catchS T hs x ρ := rfl
theorem kTry_rt {T : ST} {hs : List Hd} {x : D} : kTry T hs (.rt x ρ) = .rt x ρ := rfl
theorem kTry_ro {T : ST} {hs : List Hd} {x : List D} : kTry T hs (.ro x ρ) = .ro x ρ := rfl
theorem kTry_nx {T : ST} {hs : List Hd} : kTry T hs (.nx ρ) = .nx ρ := rfl
theorem catchS_nil {T : ST} {x : Ex} : catchS T [] x ρ = .er x ρ := rfl
theorem catchS_cons {T : ST} {h : Hd} {r : List Hd} {x : Ex} : catchS T (h :: r) x ρ = kCatch T h r x (subT T x.c h.c) ρ := by
  unfold kCatch
  show (match subT T x.c h.c with | some true => runX h x | some false => catchS T r x | none => fun _ => .stuck) ρ = _
  cases subT T x.c h.c with
  | none => rfl
  | some b => cases b <;> rfl
theorem kCatch_t {T : ST} {h : Hd} {r : List Hd} {x : Ex} : kCatch T h r x (some true) ρ = runX h x ρ := rfl
theorem kCatch_f {T : ST} {h : Hd} {r : List Hd} {x : Ex} : kCatch T h r x (some false) ρ = catchS T r x ρ := rfl
theorem runX_n {c : Str} {F : Ex → FS} {x : Ex} : runX ⟨c, none, F⟩ x ρ = endX none (F x ρ) := rfl
theorem runX_3 {c : Str} {F : Ex → FS} {x : Ex} {a b d : Option Cl} : runX ⟨c, some 2, F⟩ x [a, b, d] = endX (some 2) (F x [a, b, none]) := rfl
theorem endX_rt {o : Option Nat} {x : D} : endX o (.rt x ρ) = .rt x ρ := rfl
theorem retX_eq {tag : Str} {T : CT} {f : Str} {x : Ex} : retX tag T f x ρ = kRetX tag (fldX T f x) ρ := by unfold retX kRetX; cases fldX T f x <;> rfl
theorem kRetX_eq {tag : Str} {v : D} : kRetX tag (some v) ρ = .rt (.tup [.str tag, v]) ρ := rfl
theorem fldX_r {y : D} : fldX (ct1 "Refused" ct0) "reason" ⟨"Refused", [("reason", y)]⟩ = some y := rfl
theorem heldM_eq {T : MT} {i : Nat} {fs : M (List D)} : heldM T i fs ρ = kHeld T fs ρ[i]? ρ := by
  unfold heldM kHeld
  cases ρ[i]? with
  | none => rfl
  | some c => cases c with
    | none => rfl
    | some c => cases c with
      | d x => cases x with
        | glo g =>
          simp only [kHeld2]
          cases T g with
          | none => rfl
          | some p => exact bd_eq
        | _ => rfl
      | _ => rfl
theorem kHeld_eq {T : MT} {fs : M (List D)} {g : Str} : kHeld T fs (some (some (.d (.glo g)))) ρ = kHeld2 fs (T g) ρ := rfl
theorem kHeld2_eq {fs : M (List D)} {m : Fm} {dvs : List D} : kHeld2 fs (some (m, dvs)) ρ = (fs ρ).bd (callM m dvs) := rfl
theorem anyF_0 : anyF [.lst []] ρ = .ok (.bl false) ρ := rfl
theorem anyF_1 {a : Bool} : anyF [.lst [.bl a]] ρ = .ok (.bl (a || false)) ρ := rfl
theorem anyF_2 {a b : Bool} : anyF [.lst [.bl a, .bl b]] ρ = .ok (.bl (a || (b || false))) ρ := rfl
theorem anyF_3 {a b c : Bool} : anyF [.lst [.bl a, .bl b, .bl c]] ρ = .ok (.bl (a || (b || (c || false)))) ρ := rfl
theorem anyF_4 {a b c d : Bool} : anyF [.lst [.bl a, .bl b, .bl c, .bl d]] ρ = .ok (.bl (a || (b || (c || (d || false))))) ρ := rfl
theorem allF_0 : allF [.lst []] ρ = .ok (.bl true) ρ := rfl
theorem allF_1 {a : Bool} : allF [.lst [.bl a]] ρ = .ok (.bl (a && true)) ρ := rfl
theorem allF_2 {a b : Bool} : allF [.lst [.bl a, .bl b]] ρ = .ok (.bl (a && (b && true))) ρ := rfl
theorem allF_3 {a b c : Bool} : allF [.lst [.bl a, .bl b, .bl c]] ρ = .ok (.bl (a && (b && (c && true)))) ρ := rfl
theorem allF_4 {a b c d : Bool} : allF [.lst [.bl a, .bl b, .bl c, .bl d]] ρ = .ok (.bl (a && (b && (c && (d && true))))) ρ := rfl
theorem strO_eq {T : MT} {u : List D → M D} {x : D} : strO T u [x] ρ = kStrO u x (mlook "__str__" T x) ρ := by
  unfold kStrO
  show (match mlook "__str__" T x with | some p => _ | none => u [x]) ρ = _
  cases mlook "__str__" T x with
  | none => rfl
  | some p =>
    show bd (callM p.1 p.2 [x]) _ ρ = _
    rw [bd_eq, callM_eq]; rfl
theorem kStrO_eq {u : List D → M D} {x : D} {m : Fm} {dvs : List D} : kStrO u x (some (m, dvs)) ρ = (rsM (m (x :: dvs)) ρ).bd kStr := rfl
theorem kStr_eq {y : Str} : kStr (.str y) ρ = .ok (.str y) ρ := rfl
theorem mlook_i {n : Str} {T : MT} {i : Int} : mlook n T (.int i) = none := rfl
theorem kStrO_n {u : List D → M D} {x : D} : kStrO u x none ρ = u [x] ρ := rfl
theorem joinM_eq {fs : M (List D)} {a : Str} : joinM fs (.str a) ρ = (fs ρ).bd (kJoin a) := bd_eq
theorem jsM_nil {acc : Str} : jsM [] acc ρ = .ok (.str acc) ρ := rfl
theorem jsM_cons {f : M D} {fs : List (M D)} {acc : Str} : jsM (f :: fs) acc ρ = (f ρ).bd (kJs fs acc) := bd_eq
theorem kJs_eq {fs : List (M D)} {acc y : Str} (h : (acc ++ y).length ≤ 16777216) : kJs fs acc (.str y) ρ = jsM fs (acc ++ y) ρ := by
  show chk (szOk (acc ++ y).length) _ ρ = _
  have : szOk (acc ++ y).length = true := Nat.ble_eq.mpr h
  rw [this]; rfl
theorem addS_ss {u : OpF} {x y : Str} (h : x.length + y.length ≤ 16777216) : addS u (.str x) (.str y) ρ = .ok (.str (x ++ y)) ρ := by
  show chk (szOk (x.length + y.length)) _ ρ = _
  have : szOk (x.length + y.length) = true := Nat.ble_eq.mpr h
  rw [this]; rfl
theorem addI_s {u : OpF} {x : Str} {y : D} : addI u (.str x) y ρ = u (.str x) y ρ := rfl
theorem fmtD_i {i : Int} (h : i.natAbs.log2 < 1920) : fmtD (.int i) ρ = .ok (.str (toString i)) ρ := by
  show chk (Nat.blt i.natAbs.log2 1920) _ ρ = _
  have : Nat.blt i.natAbs.log2 1920 = true := Nat.blt_eq.mpr h
  rw [this]; rfl
theorem strF_i {u : List D → M D} {i : Int} (h : i.natAbs.log2 < 1920) : strF u [.int i] ρ = .ok (.str (toString i)) ρ := by
  show chk (Nat.blt i.natAbs.log2 1920) _ ρ = _
  have : Nat.blt i.natAbs.log2 1920 = true := Nat.blt_eq.mpr h
  rw [this]; rfl
theorem len_t0 : kLenC (some (some (.d (.tup [])))) ρ = .ok (.int 0) ρ := rfl
theorem len_l0 : kLenC (some (some (.d (.lst [])))) ρ = .ok (.int 0) ρ := rfl
theorem len_o0 : kLenC (some (some (.own (.lst [])))) ρ = .ok (.int 0) ρ := rfl
theorem lenF_t0 : lenF [.tup []] ρ = .ok (.int 0) ρ := rfl
theorem lenF_l0 : lenF [.lst []] ρ = .ok (.int 0) ρ := rfl
theorem len_t1 {a0 : D} : kLenC (some (some (.d (.tup [a0])))) ρ = .ok (.int 1) ρ := rfl
theorem len_l1 {a0 : D} : kLenC (some (some (.d (.lst [a0])))) ρ = .ok (.int 1) ρ := rfl
theorem len_o1 {a0 : D} : kLenC (some (some (.own (.lst [a0])))) ρ = .ok (.int 1) ρ := rfl
theorem lenF_t1 {a0 : D} : lenF [.tup [a0]] ρ = .ok (.int 1) ρ := rfl
theorem lenF_l1 {a0 : D} : lenF [.lst [a0]] ρ = .ok (.int 1) ρ := rfl
theorem len_t2 {a0 a1 : D} : kLenC (some (some (.d (.tup [a0, a1])))) ρ = .ok (.int 2) ρ := rfl
theorem len_l2 {a0 a1 : D} : kLenC (some (some (.d (.lst [a0, a1])))) ρ = .ok (.int 2) ρ := rfl
theorem len_o2 {a0 a1 : D} : kLenC (some (some (.own (.lst [a0, a1])))) ρ = .ok (.int 2) ρ := rfl
theorem lenF_t2 {a0 a1 : D} : lenF [.tup [a0, a1]] ρ = .ok (.int 2) ρ := rfl
theorem lenF_l2 {a0 a1 : D} : lenF [.lst [a0, a1]] ρ = .ok (.int 2) ρ := rfl
theorem len_t3 {a0 a1 a2 : D} : kLenC (some (some (.d (.tup [a0, a1, a2])))) ρ = .ok (.int 3) ρ := rfl
theorem len_l3 {a0 a1 a2 : D} : kLenC (some (some (.d (.lst [a0, a1, a2])))) ρ = .ok (.int 3) ρ := rfl
theorem len_o3 {a0 a1 a2 : D} : kLenC (some (some (.own (.lst [a0, a1, a2])))) ρ = .ok (.int 3) ρ := rfl
theorem lenF_t3 {a0 a1 a2 : D} : lenF [.tup [a0, a1, a2]] ρ = .ok (.int 3) ρ := rfl
theorem lenF_l3 {a0 a1 a2 : D} : lenF [.lst [a0, a1, a2]] ρ = .ok (.int 3) ρ := rfl
theorem len_t4 {a0 a1 a2 a3 : D} : kLenC (some (some (.d (.tup [a0, a1, a2, a3])))) ρ = .ok (.int 4) ρ := rfl
theorem len_l4 {a0 a1 a2 a3 : D} : kLenC (some (some (.d (.lst [a0, a1, a2, a3])))) ρ = .ok (.int 4) ρ := rfl
theorem len_o4 {a0 a1 a2 a3 : D} : kLenC (some (some (.own (.lst [a0, a1, a2, a3])))) ρ = .ok (.int 4) ρ := rfl
theorem lenF_t4 {a0 a1 a2 a3 : D} : lenF [.tup [a0, a1, a2, a3]] ρ = .ok (.int 4) ρ := rfl
theorem lenF_l4 {a0 a1 a2 a3 : D} : lenF [.lst [a0, a1, a2, a3]] ρ = .ok (.int 4) ρ := rfl
theorem len_t5 {a0 a1 a2 a3 a4 : D} : kLenC (some (some (.d (.tup [a0, a1, a2, a3, a4])))) ρ = .ok (.int 5) ρ := rfl
theorem len_l5 {a0 a1 a2 a3 a4 : D} : kLenC (some (some (.d (.lst [a0, a1, a2, a3, a4])))) ρ = .ok (.int 5) ρ := rfl
theorem len_o5 {a0 a1 a2 a3 a4 : D} : kLenC (some (some (.own (.lst [a0, a1, a2, a3, a4])))) ρ = .ok (.int 5) ρ := rfl
theorem lenF_t5 {a0 a1 a2 a3 a4 : D} : lenF [.tup [a0, a1, a2, a3, a4]] ρ = .ok (.int 5) ρ := rfl
theorem lenF_l5 {a0 a1 a2 a3 a4 : D} : lenF [.lst [a0, a1, a2, a3, a4]] ρ = .ok (.int 5) ρ := rfl
theorem len_t6 {a0 a1 a2 a3 a4 a5 : D} : kLenC (some (some (.d (.tup [a0, a1, a2, a3, a4, a5])))) ρ = .ok (.int 6) ρ := rfl
theorem len_l6 {a0 a1 a2 a3 a4 a5 : D} : kLenC (some (some (.d (.lst [a0, a1, a2, a3, a4, a5])))) ρ = .ok (.int 6) ρ := rfl
theorem len_o6 {a0 a1 a2 a3 a4 a5 : D} : kLenC (some (some (.own (.lst [a0, a1, a2, a3, a4, a5])))) ρ = .ok (.int 6) ρ := rfl
theorem lenF_t6 {a0 a1 a2 a3 a4 a5 : D} : lenF [.tup [a0, a1, a2, a3, a4, a5]] ρ = .ok (.int 6) ρ := rfl
theorem lenF_l6 {a0 a1 a2 a3 a4 a5 : D} : lenF [.lst [a0, a1, a2, a3, a4, a5]] ρ = .ok (.int 6) ρ := rfl
theorem tif_and {b c : Bool} : tif b (Res.ok (D.bl c) ρ) (Res.ok (D.bl false) ρ) = Res.ok (D.bl (b && c)) ρ := by cases b <;> rfl
theorem tif_or {b c : Bool} : tif b (Res.ok (D.bl true) ρ) (Res.ok (D.bl c) ρ) = Res.ok (D.bl (b || c)) ρ := by cases b <;> rfl
theorem tif_andB {b c : Bool} : tif b (Res.ok c ρ) (Res.ok false ρ) = Res.ok (b && c) ρ := by cases b <;> rfl
theorem tif_orB {b c : Bool} : tif b (Res.ok true ρ) (Res.ok c ρ) = Res.ok (b || c) ρ := by cases b <;> rfl
theorem mal_mal {u : OpF} : eqP true u (.tup [.str "malformed", .non]) (.tup [.str "malformed", .non]) ρ = .ok (.bl false) ρ := by
  show chk (SeqAt.shaped (.tuple [.str "malformed", .none]) && SeqAt.shaped (.tuple [.str "malformed", .none])) (rt (D.bl (xor true (PyData.eqv (.tuple [.str "malformed", .none]) (.tuple [.str "malformed", .none]))))) ρ = _
  have h : SeqAt.shaped (.tuple [.str "malformed", .none]) = true := by decide +kernel
  have e : PyData.eqv (.tuple [.str "malformed", .none]) (.tuple [.str "malformed", .none]) = true := by decide +kernel
  rw [h, e]; rfl
def kEqT (neg : Bool) (u : OpF) (x y : D) : Option Bool → M D := fun o => match o with
  | some b => rt (.bl (xor neg b))
  | none => u x y
theorem eqT_eq {T : MT} {n : Nat} {neg : Bool} {u : OpF} {xs ys : List D} : eqT T n neg u (.tup xs) (.tup ys) ρ = kEqT neg u (.tup xs) (.tup ys) (eqzs (eqz T n) xs ys) ρ := by
  unfold kEqT
  show (match eqzs (eqz T n) xs ys with | some b => rt (D.bl (xor neg b)) | none => u (.tup xs) (.tup ys)) ρ = _
  cases eqzs (eqz T n) xs ys <;> rfl
theorem kEqT_f {u : OpF} {x y : D} {b : Bool} : kEqT false u x y (some b) ρ = Res.ok (D.bl b) ρ := by show Res.ok (D.bl (xor false b)) ρ = _; rw [Bool.false_xor]
theorem kEqT_t {u : OpF} {x y : D} {b : Bool} : kEqT true u x y (some b) ρ = Res.ok (D.bl (!b)) ρ := by show Res.ok (D.bl (xor true b)) ρ = _; rw [Bool.true_xor]
def kZ : Option Bool → Option Bool → Option Bool := fun a r => match a with
  | some true => r
  | a => a
theorem eqzs_nil {f : D → D → Option Bool} : eqzs f [] [] = some true := rfl
theorem eqzs_cons {f : D → D → Option Bool} {x y : D} {xs ys : List D} : eqzs f (x :: xs) (y :: ys) = kZ (f x y) (eqzs f xs ys) := by
  show (match f x y with | some true => eqzs f xs ys | r => r) = _
  unfold kZ; cases f x y with
  | none => rfl
  | some b => cases b <;> rfl
theorem lstM_7 {a0 a1 a2 a3 a4 a5 a6 : D} : lstM [a0, a1, a2, a3, a4, a5, a6] ρ = .ok (.lst [a0, a1, a2, a3, a4, a5, a6]) ρ := rfl
theorem tupM_7 {a0 a1 a2 a3 a4 a5 a6 : D} : tupM [a0, a1, a2, a3, a4, a5, a6] ρ = .ok (.tup [a0, a1, a2, a3, a4, a5, a6]) ρ := rfl
theorem lstM_8 {a0 a1 a2 a3 a4 a5 a6 a7 : D} : lstM [a0, a1, a2, a3, a4, a5, a6, a7] ρ = .ok (.lst [a0, a1, a2, a3, a4, a5, a6, a7]) ρ := rfl
theorem tupM_8 {a0 a1 a2 a3 a4 a5 a6 a7 : D} : tupM [a0, a1, a2, a3, a4, a5, a6, a7] ρ = .ok (.tup [a0, a1, a2, a3, a4, a5, a6, a7]) ρ := rfl
theorem lstM_9 {a0 a1 a2 a3 a4 a5 a6 a7 a8 : D} : lstM [a0, a1, a2, a3, a4, a5, a6, a7, a8] ρ = .ok (.lst [a0, a1, a2, a3, a4, a5, a6, a7, a8]) ρ := rfl
theorem tupM_9 {a0 a1 a2 a3 a4 a5 a6 a7 a8 : D} : tupM [a0, a1, a2, a3, a4, a5, a6, a7, a8] ρ = .ok (.tup [a0, a1, a2, a3, a4, a5, a6, a7, a8]) ρ := rfl
theorem lstM_10 {a0 a1 a2 a3 a4 a5 a6 a7 a8 a9 : D} : lstM [a0, a1, a2, a3, a4, a5, a6, a7, a8, a9] ρ = .ok (.lst [a0, a1, a2, a3, a4, a5, a6, a7, a8, a9]) ρ := rfl
theorem tupM_10 {a0 a1 a2 a3 a4 a5 a6 a7 a8 a9 : D} : tupM [a0, a1, a2, a3, a4, a5, a6, a7, a8, a9] ρ = .ok (.tup [a0, a1, a2, a3, a4, a5, a6, a7, a8, a9]) ρ := rfl
theorem lstM_11 {a0 a1 a2 a3 a4 a5 a6 a7 a8 a9 a10 : D} : lstM [a0, a1, a2, a3, a4, a5, a6, a7, a8, a9, a10] ρ = .ok (.lst [a0, a1, a2, a3, a4, a5, a6, a7, a8, a9, a10]) ρ := rfl
theorem tupM_11 {a0 a1 a2 a3 a4 a5 a6 a7 a8 a9 a10 : D} : tupM [a0, a1, a2, a3, a4, a5, a6, a7, a8, a9, a10] ρ = .ok (.tup [a0, a1, a2, a3, a4, a5, a6, a7, a8, a9, a10]) ρ := rfl
theorem lstM_12 {a0 a1 a2 a3 a4 a5 a6 a7 a8 a9 a10 a11 : D} : lstM [a0, a1, a2, a3, a4, a5, a6, a7, a8, a9, a10, a11] ρ = .ok (.lst [a0, a1, a2, a3, a4, a5, a6, a7, a8, a9, a10, a11]) ρ := rfl
theorem tupM_12 {a0 a1 a2 a3 a4 a5 a6 a7 a8 a9 a10 a11 : D} : tupM [a0, a1, a2, a3, a4, a5, a6, a7, a8, a9, a10, a11] ρ = .ok (.tup [a0, a1, a2, a3, a4, a5, a6, a7, a8, a9, a10, a11]) ρ := rfl
theorem lstM_13 {a0 a1 a2 a3 a4 a5 a6 a7 a8 a9 a10 a11 a12 : D} : lstM [a0, a1, a2, a3, a4, a5, a6, a7, a8, a9, a10, a11, a12] ρ = .ok (.lst [a0, a1, a2, a3, a4, a5, a6, a7, a8, a9, a10, a11, a12]) ρ := rfl
theorem tupM_13 {a0 a1 a2 a3 a4 a5 a6 a7 a8 a9 a10 a11 a12 : D} : tupM [a0, a1, a2, a3, a4, a5, a6, a7, a8, a9, a10, a11, a12] ρ = .ok (.tup [a0, a1, a2, a3, a4, a5, a6, a7, a8, a9, a10, a11, a12]) ρ := rfl
theorem ownE_t {T : MT} {xs : List D} {y : D} : ownE T (.tup xs) y = none := rfl
theorem ownE_l {T : MT} {xs : List D} {y : D} : ownE T (.lst xs) y = none := rfl
theorem ownE_i {T : MT} {i : Int} {y : D} : ownE T (.int i) y = none := rfl
theorem ownE_b {T : MT} {i : Bool} {y : D} : ownE T (.bl i) y = none := rfl
theorem ownE_s {T : MT} {i : Str} {y : D} : ownE T (.str i) y = none := rfl
theorem ownE_n {T : MT} {y : D} : ownE T .non y = none := rfl
theorem tif_q {p : Prop} [Decidable p] {x y : Rat} : tif (decide p) (Res.ok (qD x) ρ) (Res.ok (qD y) ρ) = Res.ok (qD (if p then x else y)) ρ := by by_cases h : p <;> simp [h, tif]
theorem tif_i {p : Prop} [Decidable p] {x y : Int} : tif (decide p) (Res.ok (D.int x) ρ) (Res.ok (D.int y) ρ) = Res.ok (D.int (if p then x else y)) ρ := by by_cases h : p <;> simp [h, tif]
theorem sg_ge (x : Rat) : decide ((0 : Int) ≤ (if 0 < x then 1 else if x < 0 then -1 else 0)) = decide (0 ≤ x) := by
  by_cases h : 0 < x
  · simp [h, Rat.le_of_lt h]
  · by_cases h2 : x < 0
    · have := Rat.not_le.mpr h2
      simp [h, h2, this]
    · have := Rat.not_lt.mp h2
      simp [h, h2, this]
theorem kZ_ss {b c : Bool} : kZ (some b) (some c) = some (b && c) := by cases b <;> rfl
def l2d (vs vs1 : List Nat) (g : Tgm) (ft : M Bool) (fi1 : M (List D)) (g1 : Tgm) (ft1 : M Bool) (fe : M D) (ds : List D) : Res (List D) → Res (List D) := fun r => match r with
  | .ok l ρ4 => lcF2 vs vs1 g ft fi1 g1 ft1 fe ds l (wipeE ρ4 vs)
  | _ => .stuck
def l2c (vs vs1 : List Nat) (g : Tgm) (ft : M Bool) (fi1 : M (List D)) (g1 : Tgm) (ft1 : M Bool) (fe : M D) (ds : List D) (acc : List D) : Res (List D) → Res (List D) := fun r => match r with
  | .ok es ρ3 => l2d vs vs1 g ft fi1 g1 ft1 fe ds (lcF vs1 g1 ft1 fe es acc (wipeE ρ3 vs1))
  | _ => .stuck
def l2b (vs vs1 : List Nat) (g : Tgm) (ft : M Bool) (fi1 : M (List D)) (g1 : Tgm) (ft1 : M Bool) (fe : M D) (ds : List D) (acc : List D) : Res Bool → Res (List D) := fun r => match r with
  | .ok true ρ2 => l2c vs vs1 g ft fi1 g1 ft1 fe ds acc (fi1 ρ2)
  | .ok false ρ2 => lcF2 vs vs1 g ft fi1 g1 ft1 fe ds acc (wipeE ρ2 vs)
  | _ => .stuck
def l2a (vs vs1 : List Nat) (g : Tgm) (ft : M Bool) (fi1 : M (List D)) (g1 : Tgm) (ft1 : M Bool) (fe : M D) (ds : List D) (acc : List D) : Option En → Res (List D) := fun o => match o with
  | none => .stuck
  | some ρ1 => l2b vs vs1 g ft fi1 g1 ft1 fe ds acc (ft ρ1)
theorem lcF2_nil {vs vs1 : List Nat} {g : Tgm} {ft : M Bool} {fi1 : M (List D)} {g1 : Tgm} {ft1 : M Bool} {fe : M D} {acc : List D} : lcF2 vs vs1 g ft fi1 g1 ft1 fe [] acc ρ = .ok acc ρ := rfl
theorem lcF2_cons {vs vs1 : List Nat} {g : Tgm} {ft : M Bool} {fi1 : M (List D)} {g1 : Tgm} {ft1 : M Bool} {fe : M D} {ds : List D} {d : D} {acc : List D} : lcF2 vs vs1 g ft fi1 g1 ft1 fe (d :: ds) acc ρ = l2a vs vs1 g ft fi1 g1 ft1 fe ds acc (g d ρ) := by
  show (match g d ρ with | none => _ | some ρ1 => _) = _
  cases g d ρ with
  | none => rfl
  | some ρ1 =>
    simp only [l2a, l2b]
    cases ft ρ1 with
    | ok b ρ2 => cases b with
      | false => rfl
      | true =>
        simp only [l2c]
        cases fi1 ρ2 with
        | ok es ρ3 => (simp only [l2d]) <;> (cases lcF vs1 g1 ft1 fe es acc (wipeE ρ3 vs1) <;> rfl)
        | _ => rfl
    | _ => rfl
theorem l2a_eq {vs vs1 : List Nat} {g : Tgm} {ft : M Bool} {fi1 : M (List D)} {g1 : Tgm} {ft1 : M Bool} {fe : M D} {ds : List D} {acc : List D} : l2a vs vs1 g ft fi1 g1 ft1 fe ds acc (some ρ) = l2b vs vs1 g ft fi1 g1 ft1 fe ds acc (ft ρ) := rfl
theorem l2b_t {vs vs1 : List Nat} {g : Tgm} {ft : M Bool} {fi1 : M (List D)} {g1 : Tgm} {ft1 : M Bool} {fe : M D} {ds : List D} {acc : List D} : l2b vs vs1 g ft fi1 g1 ft1 fe ds acc (.ok true ρ) = l2c vs vs1 g ft fi1 g1 ft1 fe ds acc (fi1 ρ) := rfl
theorem l2b_f {vs vs1 : List Nat} {g : Tgm} {ft : M Bool} {fi1 : M (List D)} {g1 : Tgm} {ft1 : M Bool} {fe : M D} {ds : List D} {acc : List D} : l2b vs vs1 g ft fi1 g1 ft1 fe ds acc (.ok false ρ) = lcF2 vs vs1 g ft fi1 g1 ft1 fe ds acc (wipeE ρ vs) := rfl
theorem l2c_eq {vs vs1 : List Nat} {g : Tgm} {ft : M Bool} {fi1 : M (List D)} {g1 : Tgm} {ft1 : M Bool} {fe : M D} {ds : List D} {acc es : List D} : l2c vs vs1 g ft fi1 g1 ft1 fe ds acc (.ok es ρ) = l2d vs vs1 g ft fi1 g1 ft1 fe ds (lcF vs1 g1 ft1 fe es acc (wipeE ρ vs1)) := rfl
theorem l2d_eq {vs vs1 : List Nat} {g : Tgm} {ft : M Bool} {fi1 : M (List D)} {g1 : Tgm} {ft1 : M Bool} {fe : M D} {ds : List D} {l : List D} : l2d vs vs1 g ft fi1 g1 ft1 fe ds (.ok l ρ) = lcF2 vs vs1 g ft fi1 g1 ft1 fe ds l (wipeE ρ vs) := rfl
end
/-! lengths and signs of texts of integers -/
theorem itx_len {i : Int} (h : i.natAbs < 10 ^ 30) : (Str.ofString (toString i)).length ≤ 31 := by
  rw [PySem.ofString_length]; exact int_text_length_le10 (by decide) h
theorem log2_lt_of {n k : Nat} (h : n < 2 ^ k) : n.log2 < k + 1 := by have := log2_le (Nat.le_of_lt h); omega
theorem itx_log {i : Int} (h : i.natAbs < 10 ^ 30) : i.natAbs.log2 < 1920 := by
  have : i.natAbs < 2 ^ 100 := Nat.lt_trans h (by decide)
  have := log2_lt_of this
  omega
theorem join_2 (a x y : Str) : Txt.join a [x, y] = x ++ a ++ y := by
  show Builtin.Str.glued a [x, y] = _
  rw [StrLaws.glued_eq_join]; rfl
theorem kJoin_2 {a x y : Str} {ρ : En} (h : x.length + y.length + 2 * a.length ≤ 16777216) : kJoin a [.lst [.str x, .str y]] ρ = .ok (.str (x ++ a ++ y)) ρ := by
  have h' : Nat.ble (([x, y].map (·.length)).sum + [x, y].length * a.length) 16777216 = true := by
    apply Nat.ble_eq.mpr
    simp; omega
  have e : joinO a (.lst [.str x, .str y]) = some (.str (x ++ a ++ y)) := by
    show (match Nat.ble (([x, y].map (·.length)).sum + [x, y].length * a.length) 16777216 with | true => some (D.str (Txt.join a [x, y])) | false => none) = _
    rw [h', join_2]
  show optM (joinO a (.lst [.str x, .str y])) ρ = _
  rw [e]; rfl
theorem str_app_len (a b : Str) : (a ++ b).length = a.length + b.length := PySem.Str.length_append a b
theorem shaped_str (x : Str) : SeqAt.shaped (.str x) = PyData.strOk x := by
  simp [SeqAt.shaped, PyData.canLay0, PyData.depth]
theorem strOk_app {a b : Str} (ha : PyData.strOk a = true) (hb : PyData.strOk b = true) : PyData.strOk (a ++ b) = true := by
  unfold PyData.strOk at *
  rw [PySem.Str.cps_append, Array.all_append, ha, hb]; rfl
theorem strOk_of (s : String) : PyData.strOk (Str.ofString s) = true := by
  rw [Str.ofString_eq_toList]
  unfold PyData.strOk
  rw [Array.all_eq_true']
  intro c hc
  simp only [List.mem_toArray, List.mem_map] at hc
  obtain ⟨x, _, rfl⟩ := hc
  apply decide_eq_true
  have := x.valid
  have h2 : x.toNat < 0x110000 := by
    rcases x.valid with h | h
    · exact Nat.lt_trans h (by decide)
    · exact h.2
  exact h2
theorem strOk_empty : PyData.strOk Str.empty = true := by decide +kernel
theorem neP_same {u : OpF} {a : Str} {ρ : En} (ha : PyData.strOk a = true) : eqP true u (.str a) (.str a) ρ = .ok (.bl false) ρ := by
  rw [neP_ss (by rw [shaped_str]; exact ha) (by rw [shaped_str]; exact ha)]; simp
theorem ten_fourteen : (4294967296 : Nat) < 10 ^ 30 := by decide
theorem Lv0_num {x : Rat} (h : Lv 0 x) : x.num.natAbs < 10 ^ 30 := by have := h.n; have e : Bn 0 = 4294967296 := rfl; rw [e] at this; have := ten_fourteen; omega
theorem Lv0_den {x : Rat} (h : Lv 0 x) : (x.den : Int).natAbs < 10 ^ 30 := by have := h.d; have e : Bn 0 = 4294967296 := rfl; rw [e] at this; have := ten_fourteen; omega
/-- the text of a Ratio -/
def qtxt (x : Rat) : Str := if x.den = 1 then Str.ofString (toString x.num) else Str.empty ++ Str.ofString (toString x.num) ++ Str.ofString "/" ++ Str.ofString (toString (x.den : Int))
theorem qtxt_len {x : Rat} (h : Lv 0 x) : (qtxt x).length ≤ 63 := by
  have h1 := itx_len (Lv0_num h)
  have h2 := itx_len (Lv0_den h)
  unfold qtxt
  split
  · omega
  · simp only [str_app_len]
    have e1 : Str.empty.length = 0 := rfl
    have e2 : (Str.ofString "/").length = 1 := by decide +kernel
    omega
theorem qtxt_ok (x : Rat) : PyData.strOk (qtxt x) = true := by
  unfold qtxt
  split
  · exact strOk_of _
  · exact strOk_app (strOk_app (strOk_app strOk_empty (strOk_of _)) (strOk_of _)) (strOk_of _)
theorem eqz_own2 {T : MT} {n : Nat} {x y : D} {m : Fm} {b : Bool} (h1 : two_py x y = none) (h2 : ownE T x y = some (m, [])) (h3 : m [x, y] = .ok (.bl b)) (h4 : b = false → sameD x y = false) : eqz T n x y = some b := by
  unfold eqz
  rw [h1]; simp only []; rw [h2]; simp only []
  show (blR (m [x, y])).bind (sureB x y) = _
  rw [h3]
  show sureB x y b = _
  unfold sureB
  cases b with
  | true => rfl
  | false => rw [h4 rfl]; rfl
theorem sameD_q {x y : Rat} (h : decide (x = y) = false) : sameD (qD x) (qD y) = false := by
  rw [← eq_parts] at h
  have e : sameD (qD x) (qD y) = ((x.num == y.num) && (((x.den : Int) == (y.den : Int)) && true)) := rfl
  rw [e, Bool.and_true]; exact h
theorem mulOk_r {i j : Int} (h : j.natAbs < 18446744073709551616) : mulOk i j = true := by
  unfold mulOk
  have : Nat.blt j.natAbs 18446744073709551616 = true := Nat.blt_eq.mpr h
  rw [this]; simp
theorem mulOk_l {i j : Int} (h : i.natAbs < 18446744073709551616) : mulOk i j = true := by
  unfold mulOk
  have : Nat.blt i.natAbs 18446744073709551616 = true := Nat.blt_eq.mpr h
  rw [this]; simp
theorem divOk_s {j : Int} (h0 : j ≠ 0) (h : j.natAbs < 18446744073709551616) : divOk j = true := divOk_of h0 (by
  have := log2_lt_of (n := j.natAbs) (k := 64) h
  omega)
/-! loops by an invariant -/
theorem forF_inv {g : Tgm} {F : FS} (I : En → Prop) : ∀ (ds : List D) (ρ : En), I ρ → (∀ d ∈ ds, ∀ ρ, I ρ → ∃ ρ1 ρ2, g d ρ = some ρ1 ∧ F ρ1 = .nx ρ2 ∧ I ρ2) → ∃ ρ', forF g F ds ρ = .nx ρ' ∧ I ρ'
  | [], ρ, h, _ => ⟨ρ, rfl, h⟩
  | d :: ds, ρ, h, hs => by
    obtain ⟨ρ1, ρ2, h1, h2, h3⟩ := hs d (by simp) ρ h
    obtain ⟨ρ', h4, h5⟩ := forF_inv I ds ρ2 h3 (fun d' hd => hs d' (List.mem_cons_of_mem _ hd))
    exact ⟨ρ', by rw [forF_cons, h1, kFor_eq, h2, Out.lp_nx, h4], h5⟩
theorem cut_int {ns : List Int} {d : D} {lo hi : Option Int} (h : d ∈ cutD (ns.map D.int) lo hi) : ∃ n : Int, d = .int n := by
  unfold cutD at h
  have h := List.mem_of_mem_drop (List.mem_of_mem_take h)
  obtain ⟨n, _, e⟩ := List.mem_map.mp h
  exact ⟨n, e.symm⟩
theorem seq_nx {F G : FS} {ρ ρ1 : En} {o : Out} (h : F ρ = .nx ρ1) (h2 : G ρ1 = o) : seqS F G ρ = o := by rw [seqS_eq, h]; exact h2
theorem seq_ex {F G : FS} {ρ : En} {o : Out} (J : En → Prop) (h : ∃ ρ1, F ρ = .nx ρ1 ∧ J ρ1) (h2 : ∀ ρ1, J ρ1 → G ρ1 = o) : seqS F G ρ = o := by
  obtain ⟨ρ1, e, j⟩ := h
  exact seq_nx e (h2 ρ1 j)
theorem ex_seq {F G : FS} {ρ ρ1 : En} {J : En → Prop} (h : F ρ = .nx ρ1) (h2 : ∃ ρ2, G ρ1 = .nx ρ2 ∧ J ρ2) : ∃ ρ2, seqS F G ρ = .nx ρ2 ∧ J ρ2 := by rw [seqS_eq, h]; exact h2
theorem ex_seqJ {F G : FS} {ρ : En} {J : En → Prop} (I : En → Prop) (h : ∃ ρ1, F ρ = .nx ρ1 ∧ I ρ1) (h2 : ∀ ρ1, I ρ1 → ∃ ρ2, G ρ1 = .nx ρ2 ∧ J ρ2) : ∃ ρ2, seqS F G ρ = .nx ρ2 ∧ J ρ2 := by
  obtain ⟨ρ1, e, i⟩ := h
  exact ex_seq e (h2 ρ1 i)
theorem seqS_assoc {F G K : FS} : seqS (seqS F G) K = seqS F (seqS G K) := by
  funext ρ; simp only [seqS_eq]; cases F ρ with
  | nx ρ1 => simp only [Out.sq_nx, seqS_eq]
  | _ => rfl
theorem ex_grp2 {A B G : FS} {ρ : En} {J : En → Prop} (I : En → Prop) (h : ∃ ρ1, seqS A B ρ = .nx ρ1 ∧ I ρ1) (h2 : ∀ ρ1, I ρ1 → ∃ ρ2, G ρ1 = .nx ρ2 ∧ J ρ2) : ∃ ρ2, seqS A (seqS B G) ρ = .nx ρ2 ∧ J ρ2 := by
  rw [← seqS_assoc]; exact ex_seqJ I h h2
theorem ex_grp3 {A B C G : FS} {ρ : En} {J : En → Prop} (I : En → Prop) (h : ∃ ρ1, seqS A (seqS B C) ρ = .nx ρ1 ∧ I ρ1) (h2 : ∀ ρ1, I ρ1 → ∃ ρ2, G ρ1 = .nx ρ2 ∧ J ρ2) : ∃ ρ2, seqS A (seqS B (seqS C G)) ρ = .nx ρ2 ∧ J ρ2 := by
  rw [← seqS_assoc, ← seqS_assoc]; refine ex_seqJ I ?_ h2; rw [seqS_assoc]; exact h
theorem ex_grp4 {A B C E G : FS} {ρ : En} {J : En → Prop} (I : En → Prop) (h : ∃ ρ1, seqS A (seqS B (seqS C E)) ρ = .nx ρ1 ∧ I ρ1) (h2 : ∀ ρ1, I ρ1 → ∃ ρ2, G ρ1 = .nx ρ2 ∧ J ρ2) : ∃ ρ2, seqS A (seqS B (seqS C (seqS E G))) ρ = .nx ρ2 ∧ J ρ2 := by
  have e : seqS A (seqS B (seqS C (seqS E G))) = seqS (seqS A (seqS B (seqS C E))) G := by simp only [seqS_assoc]
  rw [e]; exact ex_seqJ I h h2
theorem out_rt {o : Out} {x : D} (h : ∃ ρ, o = .rt x ρ) : outR o = .ok x := by obtain ⟨ρ, rfl⟩ := h; rfl
theorem rt_seq {F G : FS} {ρ ρ1 : En} {x : D} (h : F ρ = .nx ρ1) (h2 : ∃ ρ2, G ρ1 = .rt x ρ2) : ∃ ρ2, seqS F G ρ = .rt x ρ2 := by rw [seqS_eq, h]; exact h2
theorem rt_seqJ {F G : FS} {ρ : En} {x : D} (I : En → Prop) (h : ∃ ρ1, F ρ = .nx ρ1 ∧ I ρ1) (h2 : ∀ ρ1, I ρ1 → ∃ ρ2, G ρ1 = .rt x ρ2) : ∃ ρ2, seqS F G ρ = .rt x ρ2 := by
  obtain ⟨ρ1, e, i⟩ := h
  exact rt_seq e (h2 ρ1 i)
theorem rt_one {F : FS} {ρ ρ1 : En} {x : D} (h : F ρ = .rt x ρ1) : ∃ ρ2, F ρ = .rt x ρ2 := ⟨ρ1, h⟩
theorem ex_one {F : FS} {ρ ρ1 : En} {J : En → Prop} (h : F ρ = .nx ρ1) (h2 : J ρ1) : ∃ ρ2, F ρ = .nx ρ2 ∧ J ρ2 := ⟨ρ1, h, h2⟩
theorem hs_of {g : Tgm} {F : FS} {d : D} {ρ ρ1 : En} {J : En → Prop} (hg : g d ρ = some ρ1) (h : ∃ ρ2, F ρ1 = .nx ρ2 ∧ J ρ2) : ∃ ρ1 ρ2, g d ρ = some ρ1 ∧ F ρ1 = .nx ρ2 ∧ J ρ2 := by
  obtain ⟨ρ2, e, j⟩ := h
  exact ⟨ρ1, ρ2, hg, e, j⟩
theorem for_ex {f : M (List D)} {g : Tgm} {F : FS} {ρ ρ1 : En} {ds : List D} (I : En → Prop) (h : f ρ = .ok ds ρ1) (h0 : I ρ1) (hs : ∀ d ∈ ds, ∀ ρ, I ρ → ∃ ρ1 ρ2, g d ρ = some ρ1 ∧ F ρ1 = .nx ρ2 ∧ I ρ2) : ∃ ρ', forS f g F ρ = .nx ρ' ∧ I ρ' := by
  rw [forS_eq, h]; exact forF_inv I ds ρ1 h0 hs
/-- a loop that runs once at least: what its body brings about holds behind it -/
theorem for_ex1 {f : M (List D)} {g : Tgm} {F : FS} {ρ ρ1 : En} {d0 : D} {ds : List D} (I J : En → Prop) (h : f ρ = .ok (d0 :: ds) ρ1) (h0 : I ρ1) (hJ : ∀ ρ, J ρ → I ρ)
    (hs : ∀ d ∈ d0 :: ds, ∀ ρ, I ρ → ∃ ρ1 ρ2, g d ρ = some ρ1 ∧ F ρ1 = .nx ρ2 ∧ J ρ2) : ∃ ρ', forS f g F ρ = .nx ρ' ∧ J ρ' := by
  rw [forS_eq, h, Res.bs_ok, forF_cons]
  obtain ⟨ρ2, ρ3, e1, e2, j⟩ := hs d0 (by simp) ρ1 h0
  rw [e1, kFor_eq, e2, Out.lp_nx]
  exact forF_inv J ds ρ3 j fun d hd ρ hρ => hs d (List.mem_cons_of_mem _ hd) ρ (hJ ρ hρ)
/-! draws -/
def stD (s : Int × Int) : Lt := .lst [.int s.1, .int s.2]
def tkV (s : Int × Int) (m : Int) : Int := if 0 < s.1 then s.1.fmod m else (((s.2 * 48271 + 11).fmod 2147483647).fdiv 7).fmod m
def tkS (s : Int × Int) (m : Int) : Int × Int := if 0 < s.1 then (s.1.fdiv m, s.2) else (s.1, (s.2 * 48271 + 11).fmod 2147483647)
theorem tkV_b (s : Int × Int) {m : Int} (h : 0 < m) : 0 ≤ tkV s m ∧ tkV s m < m := by
  unfold tkV
  split
  · exact ⟨Int.fmod_nonneg_of_pos _ h, Int.fmod_lt_of_pos _ h⟩
  · exact ⟨Int.fmod_nonneg_of_pos _ h, Int.fmod_lt_of_pos _ h⟩
/-! sizes by a number -/
structure Sm (k : Nat) (q : Rat) : Prop where
  n : q.num.natAbs ≤ k
  d : q.den ≤ k
theorem Sm_div {k : Nat} {n d : Int} (hn : n.natAbs ≤ k) (hd : d.natAbs ≤ k) (h1 : 1 ≤ k) : Sm k (Rat.divInt n d) := by
  constructor
  · rw [Rat.num_divInt]
    refine Nat.le_trans (Int.natAbs_ediv_le_natAbs _ _) ?_
    rw [Int.natAbs_mul, Int.natAbs_sign]
    split <;> omega
  · rw [Rat.den_divInt]
    split
    · exact h1
    · exact Nat.le_trans (Nat.div_le_self _ _) hd
theorem Sm_add {a b : Nat} {x y : Rat} (hx : Sm a x) (hy : Sm b y) (h1 : 1 ≤ a * b) : Sm (2 * (a * b)) (x + y) := by
  rw [← add_divInt]
  have h2 := Nat.mul_le_mul hx.n hy.d
  have h3 := Nat.mul_le_mul hy.n hx.d
  have h4 := Nat.mul_le_mul hx.d hy.d
  rw [Nat.mul_comm b a] at h3
  refine Sm_div ?_ ?_ (by omega)
  · have := Int.natAbs_add_le (x.num * y.den) (y.num * x.den)
    rw [Int.natAbs_mul, Int.natAbs_mul, Int.natAbs_natCast, Int.natAbs_natCast] at this
    omega
  · rw [Int.natAbs_mul, Int.natAbs_natCast, Int.natAbs_natCast]; omega
theorem Sm_lv {k : Nat} {x : Rat} (h : Sm k x) (hk : k ≤ 2147483648) : Lv 0 x := by
  have e : Bn 0 = 4294967296 := rfl
  constructor <;> rw [e]
  · have := h.n; omega
  · have := h.d; omega
theorem Lv0_div {n d : Int} (hn : n.natAbs ≤ 2147483648) (hd : d.natAbs ≤ 2147483648) : Lv 0 (Rat.divInt n d) := by
  have e : Bn 0 = 4294967296 := rfl
  refine Lv_div ?_ ?_ <;> rw [e] <;> omega
theorem divInt_le {n d : Int} (hd : 0 < d) (hn : 0 ≤ n) : 0 ≤ Rat.divInt n d := Rat.divInt_nonneg hn (by omega)
end DL


set_option Elab.async false
set_option linter.all false
set_option maxRecDepth 100000
set_option maxHeartbeats 4000000
namespace DL
open PySem PySem.Spec PyProof.Rows L2
/-! sizes in bits -/
structure Bz (k : Nat) (q : Rat) : Prop where
  n : q.num.natAbs ≤ 2 ^ k
  d : q.den ≤ 2 ^ k
theorem Bz_mono {k l : Nat} {q : Rat} (h : Bz k q) (hkl : k ≤ l) : Bz l q := ⟨Nat.le_trans h.n (Nat.pow_le_pow_right (by decide) hkl), Nat.le_trans h.d (Nat.pow_le_pow_right (by decide) hkl)⟩
theorem Bz_lv {j k : Nat} {q : Rat} (h : Bz k q) (hk : k + 1 ≤ 32 * 2 ^ j) : Lv j q := by
  have e : 2 * 2 ^ k ≤ Bn j := by
    rw [Nat.mul_comm, ← Nat.pow_succ]; exact Nat.pow_le_pow_right (by decide) hk
  exact ⟨Nat.le_trans (Nat.mul_le_mul_left 2 h.n) e, Nat.le_trans (Nat.mul_le_mul_left 2 h.d) e⟩
theorem Bz_div {k : Nat} {n d : Int} (hn : n.natAbs ≤ 2 ^ k) (hd : d.natAbs ≤ 2 ^ k) : Bz k (Rat.divInt n d) := by
  have h1 : 1 ≤ 2 ^ k := Nat.one_le_two_pow
  have := Sm_div (n := n) (d := d) hn hd h1
  exact ⟨this.n, this.d⟩
theorem Bz_lit {n d : Int} (hn : n.natAbs ≤ 1048576) (hd : d.natAbs ≤ 1048576) : Bz 20 (Rat.divInt n d) := Bz_div hn hd
theorem mul_two_pow {a b k l : Nat} (ha : a ≤ 2 ^ k) (hb : b ≤ 2 ^ l) : a * b ≤ 2 ^ (k + l) := by rw [Nat.pow_add]; exact Nat.mul_le_mul ha hb
theorem Bz_add {k l : Nat} {x y : Rat} (hx : Bz k x) (hy : Bz l y) : Bz (k + l + 1) (x + y) := by
  have h1 := mul_two_pow hx.n hy.d
  have h2 := mul_two_pow hy.n hx.d
  have h3 := mul_two_pow hx.d hy.d
  rw [Nat.add_comm l k] at h2
  rw [← add_divInt]
  have e : 2 ^ (k + l + 1) = 2 ^ (k + l) + 2 ^ (k + l) := by rw [Nat.pow_succ]; omega
  refine Bz_div ?_ ?_ <;> rw [e]
  · have := Int.natAbs_add_le (x.num * y.den) (y.num * x.den)
    rw [Int.natAbs_mul, Int.natAbs_mul, Int.natAbs_natCast, Int.natAbs_natCast] at this
    omega
  · rw [Int.natAbs_mul, Int.natAbs_natCast, Int.natAbs_natCast]; omega
theorem Bz_neg {k : Nat} {x : Rat} (hx : Bz k x) : Bz k (-x) := ⟨by rw [Rat.neg_num, Int.natAbs_neg]; exact hx.n, hx.d⟩
theorem Bz_sub {k l : Nat} {x y : Rat} (hx : Bz k x) (hy : Bz l y) : Bz (k + l + 1) (x - y) := by
  rw [Rat.sub_eq_add_neg]; exact Bz_add hx (Bz_neg hy)
theorem Bz_mul {k l : Nat} {x y : Rat} (hx : Bz k x) (hy : Bz l y) : Bz (k + l) (x * y) := by
  have h1 := mul_two_pow hx.n hy.n
  have h3 := mul_two_pow hx.d hy.d
  rw [← mul_divInt]
  refine Bz_div ?_ ?_
  · rw [Int.natAbs_mul]; exact h1
  · rw [Int.natAbs_mul, Int.natAbs_natCast, Int.natAbs_natCast]; exact h3
theorem Bz_inv {k : Nat} {x : Rat} (hx : Bz k x) : Bz k (x⁻¹) := by
  rw [Rat.inv_def]
  exact Bz_div (by rw [Int.natAbs_natCast]; exact hx.d) hx.n
theorem Bz_quo {k l : Nat} {x y : Rat} (hx : Bz k x) (hy : Bz l y) : Bz (k + l) (x / y) := by
  rw [Rat.div_def]; exact Bz_mul hx (Bz_inv hy)
theorem Bz_ite {k l : Nat} {p : Prop} [Decidable p] {x y : Rat} (hx : Bz k x) (hy : Bz l y) : Bz (k + l) (if p then x else y) := by
  split
  · exact Bz_mono hx (Nat.le_add_right _ _)
  · exact Bz_mono hy (Nat.le_add_left _ _)
theorem Bz_cast {k : Nat} {n : Int} (h : n.natAbs ≤ 2 ^ k) : Bz k ((n : Int) : Rat) := ⟨h, Nat.one_le_two_pow⟩
theorem Bz_0 : Bz 0 (0 : Rat) := ⟨by decide, by decide⟩
theorem Bz_1 : Bz 0 (1 : Rat) := ⟨by decide, by decide⟩
theorem over_divInt {x y : Rat} : Rat.divInt (x.num * y.den) ((x.den : Int) * y.num) = x / y := by
  rw [Rat.div_def, Rat.inv_def]
  conv => rhs; lhs; rw [← Rat.num_divInt_den x]
  rw [Rat.divInt_mul_divInt]
theorem divInt_1 (n : Int) : Rat.divInt n 1 = (n : Rat) := by
  rw [Rat.divInt_eq_div]; simp; grind
/-! less and greater of two -/
def lsr (x y : Rat) : Rat := if x < y then x else y
def grt (x y : Rat) : Rat := if x < y then y else x
theorem lsr_alt (x y : Rat) : (if y < x then y else x) = lsr x y := by unfold lsr; grind
theorem lsr_l (x y : Rat) : lsr x y ≤ x := by unfold lsr; grind
theorem lsr_r (x y : Rat) : lsr x y ≤ y := by unfold lsr; grind
theorem grt_l (x y : Rat) : x ≤ grt x y := by unfold grt; grind
theorem grt_r (x y : Rat) : y ≤ grt x y := by unfold grt; grind
theorem Bz_lsr {k : Nat} {x y : Rat} (hx : Bz k x) (hy : Bz k y) : Bz k (lsr x y) := by unfold lsr; split <;> assumption
theorem Bz_grt {k : Nat} {x y : Rat} (hx : Bz k x) (hy : Bz k y) : Bz k (grt x y) := by unfold grt; split <;> assumption
theorem Lv_lsr {k : Nat} {x y : Rat} (hx : Lv k x) (hy : Lv k y) : Lv k (lsr x y) := by unfold lsr; split <;> assumption
theorem Lv_grt {k : Nat} {x y : Rat} (hx : Lv k x) (hy : Lv k y) : Lv k (grt x y) := by unfold grt; split <;> assumption
theorem eqP_sd {neg : Bool} {u : OpF} {a b : Str} {r : Bool} {ρ : En} (h : (PyData.strOk a && PyData.strOk b) = true) (e : (xor neg (a == b)) = r) : eqP neg u (.str a) (.str b) ρ = .ok (.bl r) ρ := by
  obtain ⟨ha, hb⟩ := Bool.and_eq_true_iff.mp h
  cases neg with
  | false => rw [eqP_ss (by rw [shaped_str]; exact ha) (by rw [shaped_str]; exact hb)]; rw [Bool.false_xor] at e; rw [e]
  | true => rw [neP_ss (by rw [shaped_str]; exact ha) (by rw [shaped_str]; exact hb)]; rw [Bool.true_xor] at e; rw [e]
theorem ixM_t52 {a0 a1 a2 a3 a4 : D} {ρ : En} : ixM (.tup [a0, a1, a2, a3, a4]) (.int 2) ρ = .ok a2 ρ := rfl
theorem ixM_l52 {a0 a1 a2 a3 a4 : D} {ρ : En} : ixM (.lst [a0, a1, a2, a3, a4]) (.int 2) ρ = .ok a2 ρ := rfl
theorem ixM_t53 {a0 a1 a2 a3 a4 : D} {ρ : En} : ixM (.tup [a0, a1, a2, a3, a4]) (.int 3) ρ = .ok a3 ρ := rfl
theorem ixM_l53 {a0 a1 a2 a3 a4 : D} {ρ : En} : ixM (.lst [a0, a1, a2, a3, a4]) (.int 3) ρ = .ok a3 ρ := rfl
theorem ixM_t54 {a0 a1 a2 a3 a4 : D} {ρ : En} : ixM (.tup [a0, a1, a2, a3, a4]) (.int 4) ρ = .ok a4 ρ := rfl
theorem ixM_l54 {a0 a1 a2 a3 a4 : D} {ρ : En} : ixM (.lst [a0, a1, a2, a3, a4]) (.int 4) ρ = .ok a4 ρ := rfl
theorem ixM_t62 {a0 a1 a2 a3 a4 a5 : D} {ρ : En} : ixM (.tup [a0, a1, a2, a3, a4, a5]) (.int 2) ρ = .ok a2 ρ := rfl
theorem ixM_l62 {a0 a1 a2 a3 a4 a5 : D} {ρ : En} : ixM (.lst [a0, a1, a2, a3, a4, a5]) (.int 2) ρ = .ok a2 ρ := rfl
theorem ixM_t63 {a0 a1 a2 a3 a4 a5 : D} {ρ : En} : ixM (.tup [a0, a1, a2, a3, a4, a5]) (.int 3) ρ = .ok a3 ρ := rfl
theorem ixM_l63 {a0 a1 a2 a3 a4 a5 : D} {ρ : En} : ixM (.lst [a0, a1, a2, a3, a4, a5]) (.int 3) ρ = .ok a3 ρ := rfl
theorem ixM_t64 {a0 a1 a2 a3 a4 a5 : D} {ρ : En} : ixM (.tup [a0, a1, a2, a3, a4, a5]) (.int 4) ρ = .ok a4 ρ := rfl
theorem ixM_l64 {a0 a1 a2 a3 a4 a5 : D} {ρ : En} : ixM (.lst [a0, a1, a2, a3, a4, a5]) (.int 4) ρ = .ok a4 ρ := rfl
theorem ixM_t65 {a0 a1 a2 a3 a4 a5 : D} {ρ : En} : ixM (.tup [a0, a1, a2, a3, a4, a5]) (.int 5) ρ = .ok a5 ρ := rfl
theorem ixM_l65 {a0 a1 a2 a3 a4 a5 : D} {ρ : En} : ixM (.lst [a0, a1, a2, a3, a4, a5]) (.int 5) ρ = .ok a5 ρ := rfl
theorem ixM_t72 {a0 a1 a2 a3 a4 a5 a6 : D} {ρ : En} : ixM (.tup [a0, a1, a2, a3, a4, a5, a6]) (.int 2) ρ = .ok a2 ρ := rfl
theorem ixM_l72 {a0 a1 a2 a3 a4 a5 a6 : D} {ρ : En} : ixM (.lst [a0, a1, a2, a3, a4, a5, a6]) (.int 2) ρ = .ok a2 ρ := rfl
theorem ixM_t73 {a0 a1 a2 a3 a4 a5 a6 : D} {ρ : En} : ixM (.tup [a0, a1, a2, a3, a4, a5, a6]) (.int 3) ρ = .ok a3 ρ := rfl
theorem ixM_l73 {a0 a1 a2 a3 a4 a5 a6 : D} {ρ : En} : ixM (.lst [a0, a1, a2, a3, a4, a5, a6]) (.int 3) ρ = .ok a3 ρ := rfl
theorem ixM_t74 {a0 a1 a2 a3 a4 a5 a6 : D} {ρ : En} : ixM (.tup [a0, a1, a2, a3, a4, a5, a6]) (.int 4) ρ = .ok a4 ρ := rfl
theorem ixM_l74 {a0 a1 a2 a3 a4 a5 a6 : D} {ρ : En} : ixM (.lst [a0, a1, a2, a3, a4, a5, a6]) (.int 4) ρ = .ok a4 ρ := rfl
theorem ixM_t75 {a0 a1 a2 a3 a4 a5 a6 : D} {ρ : En} : ixM (.tup [a0, a1, a2, a3, a4, a5, a6]) (.int 5) ρ = .ok a5 ρ := rfl
theorem ixM_l75 {a0 a1 a2 a3 a4 a5 a6 : D} {ρ : En} : ixM (.lst [a0, a1, a2, a3, a4, a5, a6]) (.int 5) ρ = .ok a5 ρ := rfl
theorem ixM_t76 {a0 a1 a2 a3 a4 a5 a6 : D} {ρ : En} : ixM (.tup [a0, a1, a2, a3, a4, a5, a6]) (.int 6) ρ = .ok a6 ρ := rfl
theorem ixM_l76 {a0 a1 a2 a3 a4 a5 a6 : D} {ρ : En} : ixM (.lst [a0, a1, a2, a3, a4, a5, a6]) (.int 6) ρ = .ok a6 ρ := rfl
theorem ixM_t82 {a0 a1 a2 a3 a4 a5 a6 a7 : D} {ρ : En} : ixM (.tup [a0, a1, a2, a3, a4, a5, a6, a7]) (.int 2) ρ = .ok a2 ρ := rfl
theorem ixM_l82 {a0 a1 a2 a3 a4 a5 a6 a7 : D} {ρ : En} : ixM (.lst [a0, a1, a2, a3, a4, a5, a6, a7]) (.int 2) ρ = .ok a2 ρ := rfl
theorem ixM_t83 {a0 a1 a2 a3 a4 a5 a6 a7 : D} {ρ : En} : ixM (.tup [a0, a1, a2, a3, a4, a5, a6, a7]) (.int 3) ρ = .ok a3 ρ := rfl
theorem ixM_l83 {a0 a1 a2 a3 a4 a5 a6 a7 : D} {ρ : En} : ixM (.lst [a0, a1, a2, a3, a4, a5, a6, a7]) (.int 3) ρ = .ok a3 ρ := rfl
theorem ixM_t84 {a0 a1 a2 a3 a4 a5 a6 a7 : D} {ρ : En} : ixM (.tup [a0, a1, a2, a3, a4, a5, a6, a7]) (.int 4) ρ = .ok a4 ρ := rfl
theorem ixM_l84 {a0 a1 a2 a3 a4 a5 a6 a7 : D} {ρ : En} : ixM (.lst [a0, a1, a2, a3, a4, a5, a6, a7]) (.int 4) ρ = .ok a4 ρ := rfl
theorem ixM_t85 {a0 a1 a2 a3 a4 a5 a6 a7 : D} {ρ : En} : ixM (.tup [a0, a1, a2, a3, a4, a5, a6, a7]) (.int 5) ρ = .ok a5 ρ := rfl
theorem ixM_l85 {a0 a1 a2 a3 a4 a5 a6 a7 : D} {ρ : En} : ixM (.lst [a0, a1, a2, a3, a4, a5, a6, a7]) (.int 5) ρ = .ok a5 ρ := rfl
theorem ixM_t86 {a0 a1 a2 a3 a4 a5 a6 a7 : D} {ρ : En} : ixM (.tup [a0, a1, a2, a3, a4, a5, a6, a7]) (.int 6) ρ = .ok a6 ρ := rfl
theorem ixM_l86 {a0 a1 a2 a3 a4 a5 a6 a7 : D} {ρ : En} : ixM (.lst [a0, a1, a2, a3, a4, a5, a6, a7]) (.int 6) ρ = .ok a6 ρ := rfl
theorem ixM_t87 {a0 a1 a2 a3 a4 a5 a6 a7 : D} {ρ : En} : ixM (.tup [a0, a1, a2, a3, a4, a5, a6, a7]) (.int 7) ρ = .ok a7 ρ := rfl
theorem ixM_l87 {a0 a1 a2 a3 a4 a5 a6 a7 : D} {ρ : En} : ixM (.lst [a0, a1, a2, a3, a4, a5, a6, a7]) (.int 7) ρ = .ok a7 ρ := rfl
theorem seq_P1 {P : Out → Prop} {F G : FS} {ρ ρ1 : En} (h : F ρ = .nx ρ1) (h2 : P (G ρ1)) : P (seqS F G ρ) := by rw [seqS_eq, h]; exact h2
theorem seq_P {P : Out → Prop} {F G : FS} {ρ : En} (I : En → Prop) (h : ∃ ρ1, F ρ = .nx ρ1 ∧ I ρ1) (h2 : ∀ ρ1, I ρ1 → P (G ρ1)) : P (seqS F G ρ) := by
  obtain ⟨ρ1, e, i⟩ := h
  exact seq_P1 e (h2 ρ1 i)
end DL


set_option Elab.async false
set_option linter.all false
set_option maxRecDepth 100000
set_option maxHeartbeats 4000000
namespace DL
open PySem PySem.Spec PyProof.Rows L2
/-! loops and comprehensions over lists of any length -/
theorem forF_ind {g : Tgm} {F : FS} (R : List D → En → Prop) (hs : ∀ d r ρ, R (d :: r) ρ → ∃ ρ1 ρ2, g d ρ = some ρ1 ∧ F ρ1 = .nx ρ2 ∧ R r ρ2) : ∀ (ds : List D) (ρ : En), R ds ρ → ∃ ρ', forF g F ds ρ = .nx ρ' ∧ R [] ρ'
  | [], ρ, h => ⟨ρ, rfl, h⟩
  | d :: ds, ρ, h => by
    obtain ⟨ρ1, ρ2, h1, h2, h3⟩ := hs d ds ρ h
    obtain ⟨ρ', h4, h5⟩ := forF_ind R hs ds ρ2 h3
    exact ⟨ρ', by rw [forF_cons, h1, kFor_eq, h2, Out.lp_nx, h4], h5⟩
theorem for_ind {f : M (List D)} {g : Tgm} {F : FS} {ρ ρ1 : En} {ds : List D} (R : List D → En → Prop) (h : f ρ = .ok ds ρ1) (h0 : R ds ρ1) (hs : ∀ d r ρ, R (d :: r) ρ → ∃ ρ1 ρ2, g d ρ = some ρ1 ∧ F ρ1 = .nx ρ2 ∧ R r ρ2) : ∃ ρ', forS f g F ρ = .nx ρ' ∧ R [] ρ' := by
  rw [forS_eq, h]; exact forF_ind R hs ds ρ1 h0
/-- a comprehension without changes of the state: each item is mapped -/
theorem lcF_map {vs : List Nat} {g : Tgm} {ft : M Bool} {fe : M D} {ρ0 : En} (φ : D → D) : ∀ (ds acc : List D), acc.length + ds.length ≤ 16777216 →
    (∀ d ∈ ds, ∃ ρ1 ρ2 ρ3, g d ρ0 = some ρ1 ∧ ft ρ1 = .ok true ρ2 ∧ fe ρ2 = .ok (φ d) ρ3 ∧ wipeE ρ3 vs = ρ0) → lcF vs g ft fe ds acc ρ0 = .ok (acc ++ ds.map φ) ρ0
  | [], acc, _, _ => by rw [lcF_nil]; simp
  | d :: ds, acc, hl, h => by
    obtain ⟨ρ1, ρ2, ρ3, h1, h2, h3, h4⟩ := h d (by simp)
    rw [lcF_cons, h1, lk2_eq, h2, lk3_t, h3]
    simp only [List.length_cons] at hl
    have hb : Nat.blt acc.length 16777216 = true := Nat.blt_eq.mpr (by omega)
    simp only [lk4, hb, h4]
    rw [lcF_map φ ds (acc ++ [φ d]) (by simp; omega) (fun d hd => h d (List.mem_cons_of_mem _ hd))]
    simp
/-- the same with a condition -/
theorem lcF_filter {vs : List Nat} {g : Tgm} {ft : M Bool} {fe : M D} {ρ0 : En} (φ : D → D) (p : D → Bool) : ∀ (ds acc : List D), acc.length + ds.length ≤ 16777216 →
    (∀ d ∈ ds, ∃ ρ1 ρ2, g d ρ0 = some ρ1 ∧ ft ρ1 = .ok (p d) ρ2 ∧ (p d = false → wipeE ρ2 vs = ρ0) ∧ (p d = true → ∃ ρ3, fe ρ2 = .ok (φ d) ρ3 ∧ wipeE ρ3 vs = ρ0)) → lcF vs g ft fe ds acc ρ0 = .ok (acc ++ (ds.filter p).map φ) ρ0
  | [], acc, _, _ => by rw [lcF_nil]; simp
  | d :: ds, acc, hl, h => by
    obtain ⟨ρ1, ρ2, h1, h2, h3, h4⟩ := h d (by simp)
    rw [lcF_cons, h1, lk2_eq, h2]
    simp only [List.length_cons] at hl
    cases hp : p d with
    | false =>
      rw [lk3_f, h3 hp, lcF_filter φ p ds acc (by omega) (fun d hd => h d (List.mem_cons_of_mem _ hd))]
      simp [hp]
    | true =>
      obtain ⟨ρ3, h5, h6⟩ := h4 hp
      rw [lk3_t, h5]
      have hb : Nat.blt acc.length 16777216 = true := Nat.blt_eq.mpr (by omega)
      simp only [lk4, hb, h6]
      rw [lcF_filter φ p ds (acc ++ [φ d]) (by simp; omega) (fun d hd => h d (List.mem_cons_of_mem _ hd))]
      simp [hp]
/-- a comprehension whose items change the state -/
theorem lcF_ind {vs : List Nat} {g : Tgm} {ft : M Bool} {fe : M D} (R : List D → List D → En → Prop)
    (hs : ∀ d r acc ρ, R (d :: r) acc ρ → acc.length < 16777216 ∧ ∃ ρ1 ρ2 x ρ3, g d ρ = some ρ1 ∧ ft ρ1 = .ok true ρ2 ∧ fe ρ2 = .ok x ρ3 ∧ R r (acc ++ [x]) (wipeE ρ3 vs)) :
    ∀ (ds acc : List D) (ρ : En), R ds acc ρ → ∃ l ρ', lcF vs g ft fe ds acc ρ = .ok l ρ' ∧ R [] l ρ'
  | [], acc, ρ, h => ⟨acc, ρ, rfl, h⟩
  | d :: ds, acc, ρ, h => by
    obtain ⟨hl, ρ1, ρ2, x, ρ3, h1, h2, h3, h4⟩ := hs d ds acc ρ h
    obtain ⟨l, ρ', h5, h6⟩ := lcF_ind R hs ds (acc ++ [x]) (wipeE ρ3 vs) h4
    refine ⟨l, ρ', ?_, h6⟩
    have hb : Nat.blt acc.length 16777216 = true := Nat.blt_eq.mpr hl
    rw [lcF_cons, h1, lk2_eq, h2, lk3_t, h3]
    simp only [lk4, hb]
    exact h5
theorem blsD_map {α : Type} (φ : α → Bool) : ∀ l : List α, blsD (l.map fun a => .bl (φ a)) = some (l.map φ)
  | [] => rfl
  | a :: l => by
    show (match blsD (l.map fun a => .bl (φ a)) with | some bs => some (φ a :: bs) | none => none) = _
    rw [blsD_map φ l]; rfl
theorem allF_map {α : Type} {φ : α → Bool} {l : List α} {ρ : En} : allF [.lst (l.map fun a => .bl (φ a))] ρ = .ok (.bl (l.all φ)) ρ := by
  show (match blsD (l.map fun a => .bl (φ a)) with | some bs => rt (D.bl (bs.all id)) | none => stk) ρ = _
  rw [blsD_map]; simp [rt_eq]
theorem anyF_map {α : Type} {φ : α → Bool} {l : List α} {ρ : En} : anyF [.lst (l.map fun a => .bl (φ a))] ρ = .ok (.bl (l.any φ)) ρ := by
  show (match blsD (l.map fun a => .bl (φ a)) with | some bs => rt (D.bl (bs.any id)) | none => stk) ρ = _
  rw [blsD_map]; simp [rt_eq]
theorem rng_ok {j : Int} {ρ : En} (e : rgOk j = true) : rngF1 [.int j] ρ = .ok (rgL 0 j.toNat) ρ := by
  unfold rngF1
  dsimp only
  rw [e]
  rfl
theorem rgOk_of {j : Int} (h1 : -1000000 ≤ j) (h2 : j ≤ 1000000) : rgOk j = true := Bool.and_eq_true_iff.mpr ⟨decide_eq_true (by omega), decide_eq_true (by omega)⟩
theorem rng_nat {k : Nat} {ρ : En} (h : k ≤ 1000000) : rngF1 [.int (k : Int)] ρ = .ok (rgL 0 k) ρ := by
  rw [rng_ok (rgOk_of (by omega) (by omega)), Int.toNat_natCast]
theorem rgL_len (lo : Int) (n : Nat) : (rgL lo n).length = n := by unfold rgL; simp
theorem at_nat {α : Type} {xs : List α} {i : Nat} {x : α} (h : xs[i]? = some x) : atD xs (i : Int) = some x := by
  have hi : i < xs.length := by
    rcases Nat.lt_or_ge i xs.length with h1 | h1
    · exact h1
    · rw [List.getElem?_eq_none h1] at h; cases h
  unfold atD ixP
  have h1 : decide ((0 : Int) ≤ (i : Int)) = true := decide_eq_true (by omega)
  have h2 : decide ((i : Int) < (xs.length : Nat)) = true := decide_eq_true (by omega)
  simp only [h1, h2, Int.toNat_natCast]
  exact h
theorem ixM_nat_t {xs : List D} {i : Nat} {x : D} {ρ : En} (h : xs[i]? = some x) : ixM (.tup xs) (.int (i : Int)) ρ = .ok x ρ := ixM_h (at_nat h)
theorem ixM_nat_l {xs : List D} {i : Nat} {x : D} {ρ : En} (h : xs[i]? = some x) : ixM (.lst xs) (.int (i : Int)) ρ = .ok x ρ := ixM_h (at_nat h)
/-- n - 1, n - 2, .., 0 -/
def dwn : Nat → List D
  | 0 => []
  | n + 1 => .int (n : Int) :: dwn n
theorem rng3_down {n : Nat} {ρ : En} (h : n ≤ 8) : rngF3 [.int ((n : Int) - 1), .int (-1), .int (-1)] ρ = .ok (dwn n) ρ := by
  match n, h with
  | 0, _ => rfl
  | 1, _ => rfl
  | 2, _ => rfl
  | 3, _ => rfl
  | 4, _ => rfl
  | 5, _ => rfl
  | 6, _ => rfl
  | 7, _ => rfl
  | 8, _ => rfl
theorem lcM_map {vs : List Nat} {fi : M (List D)} {g : Tgm} {ft : M Bool} {fe : M D} {ρ ρ1 : En} {ds : List D} (φ : D → D) (h : fi ρ = .ok ds ρ1) (hl : ds.length ≤ 16777216)
    (hs : ∀ d ∈ ds, ∃ ρ2 ρ3 ρ4, g d (wipeE ρ1 vs) = some ρ2 ∧ ft ρ2 = .ok true ρ3 ∧ fe ρ3 = .ok (φ d) ρ4 ∧ wipeE ρ4 vs = wipeE ρ1 vs) : lcM vs fi g ft fe ρ = .ok (ds.map φ) (mergeE ρ1 (wipeE ρ1 vs) vs) := by
  rw [lcM_eq, h, Res.bd_ok, kLc_eq, lcF_map φ ds [] (by simpa using hl) hs, lcE_ok]; rfl
def kRev : D → M D := fun x => optM (revD x)
/-! rows of integers -/
def iD (p : List Int) : List D := p.map D.int
theorem iD_len (p : List Int) : (iD p).length = p.length := List.length_map ..
theorem iD_rev (p : List Int) : (iD p).reverse = iD p.reverse := by unfold iD; rw [List.map_reverse]
theorem iD_mem {p : List Int} {d : D} (h : d ∈ iD p) : ∃ c, c ∈ p ∧ d = .int c := by
  obtain ⟨c, hc, e⟩ := List.mem_map.mp h
  exact ⟨c, hc, e.symm⟩
theorem atD_last {α : Type} (xs : List α) (x : α) : atD (xs ++ [x]) (-1) = some x := by
  unfold atD ixP
  have h1 : decide ((0 : Int) ≤ -1) = false := rfl
  have h2 : decide (-(((xs ++ [x]).length : Nat) : Int) ≤ -1) = true := decide_eq_true (by simp; omega)
  simp only [h1, h2]
  have : ((-1 : Int) + ((xs ++ [x]).length : Nat)).toNat = xs.length := by simp; omega
  rw [this]; simp
theorem ixM_last_t {xs : List D} {x : D} {ρ : En} : ixM (.tup (xs ++ [x])) (.int (-1)) ρ = .ok x ρ := ixM_h (atD_last xs x)
theorem ixM_last_l {xs : List D} {x : D} {ρ : En} : ixM (.lst (xs ++ [x])) (.int (-1)) ρ = .ok x ρ := ixM_h (atD_last xs x)
theorem cutD_init (xs : List D) (x : D) : cutD (xs ++ [x]) none (some (-1)) = xs := by
  have h1 : HT.sIx (xs ++ [x]).length 0 none = 0 := rfl
  have h2 : HT.sIx (xs ++ [x]).length (xs ++ [x]).length (some (-1)) = xs.length := by
    show (if (-1 : Int) < 0 then ((-1 : Int) + ((xs ++ [x]).length : Nat)).toNat else min (-1 : Int).toNat (xs ++ [x]).length) = _
    rw [if_pos (by decide)]; simp; omega
  unfold cutD
  rw [h1, h2]; simp
theorem kLenC_iD {p : List Int} {ρ : En} : kLenC (some (some (.d (.tup (iD p))))) ρ = .ok (.int (p.length : Int)) ρ := by rw [kLenC_t, iD_len]
theorem kLenC_iDl {p : List Int} {ρ : En} : kLenC (some (some (.d (.lst (iD p))))) ρ = .ok (.int (p.length : Int)) ρ := by rw [kLenC_l, iD_len]
theorem kLenC_iDo {p : List Int} {ρ : En} : kLenC (some (some (.own (.lst (iD p))))) ρ = .ok (.int (p.length : Int)) ρ := by rw [kLenC_o, iD_len]
theorem revM_eq {f : M D} {ρ : En} : revM f ρ = (f ρ).bd kRev := by unfold revM kRev; rw [bd_eq]
theorem kRev_t {xs : List D} {ρ : En} : kRev (.tup xs) ρ = .ok (.tup xs.reverse) ρ := rfl
theorem kRev_l {xs : List D} {ρ : En} : kRev (.lst xs) ρ = .ok (.lst xs.reverse) ρ := rfl
theorem enuF_l {xs : List D} {ρ : En} : enuF2 [.lst xs] ρ = .ok (enumD xs 0) ρ := rfl
theorem enuF_t {xs : List D} {ρ : En} : enuF2 [.tup xs] ρ = .ok (enumD xs 0) ρ := rfl
/-- a polynomial's row -/
structure IsP (p : List Int) : Prop where
  l : p.length ≤ 61
  e : p = [] ∨ ∃ q c, p = q ++ [c] ∧ c ≠ 0
theorem list_snoc {α : Type} : ∀ (l : List α), l ≠ [] → ∃ xs x, l = xs ++ [x]
  | [], h => (h rfl).elim
  | [a], _ => ⟨[], a, rfl⟩
  | a :: b :: l, _ => by
    obtain ⟨xs, x, e⟩ := list_snoc (b :: l) (by simp)
    exact ⟨a :: xs, x, by rw [e]; rfl⟩
end DL


set_option Elab.async false
set_option linter.all false
set_option maxRecDepth 100000
set_option maxHeartbeats 4000000
namespace DL
open PySem PySem.Spec PyProof.Rows L2
/-! powers, spans of products, ranges of polynomials: plain laws of rational numbers -/
theorem one_eq : Rat.divInt 1 1 = 1 := by decide +kernel
theorem zero_eq : Rat.divInt 0 1 = 0 := by decide +kernel
def pw (x : Rat) : Nat → Rat
  | 0 => Rat.divInt 1 1
  | k + 1 => pw x k * x
theorem pw_0 (x : Rat) : pw x 0 = 1 := one_eq
theorem pw_s (x : Rat) (k : Nat) : pw x (k + 1) = pw x k * x := rfl
theorem pw_nn {x : Rat} (h : 0 ≤ x) : ∀ k, 0 ≤ pw x k
  | 0 => by rw [pw_0]; decide
  | k + 1 => Rat.mul_nonneg (pw_nn h k) h
theorem pw_mono {x y : Rat} (h : 0 ≤ x) (hxy : x ≤ y) : ∀ k, pw x k ≤ pw y k
  | 0 => by rw [pw_0, pw_0]; exact Rat.le_refl
  | k + 1 => by
    rw [pw_s, pw_s]
    have h1 := Rat.mul_le_mul_of_nonneg_right (pw_mono h hxy k) h
    have h2 := Rat.mul_le_mul_of_nonneg_left hxy (pw_nn (Rat.le_trans h hxy) k)
    exact Rat.le_trans h1 h2
theorem pw_neg (x : Rat) : ∀ k, pw (-x) k = if k % 2 = 0 then pw x k else -pw x k
  | 0 => by rw [pw_0, pw_0]; rfl
  | k + 1 => by
    rw [pw_s, pw_s, pw_neg x k]
    by_cases h : k % 2 = 0
    · have h2 : ¬ (k + 1) % 2 = 0 := by omega
      rw [if_pos h, if_neg h2]; grind
    · have h2 : (k + 1) % 2 = 0 := by omega
      rw [if_neg h, if_pos h2]; grind
theorem pw_even_nn {k : Nat} (hk : k % 2 = 0) (x : Rat) : 0 ≤ pw x k := by
  by_cases h : 0 ≤ x
  · exact pw_nn h k
  · have h1 := pw_neg (-x) k
    rw [if_pos hk, Rat.neg_neg] at h1
    rw [h1]; exact pw_nn (by grind) k
theorem pw_even_np {k : Nat} (hk : k % 2 = 0) {x y : Rat} (h : x ≤ y) (h0 : y ≤ 0) : pw y k ≤ pw x k := by
  have h1 := pw_neg (-x) k
  have h2 := pw_neg (-y) k
  rw [if_pos hk, Rat.neg_neg] at h1 h2
  rw [h1, h2]
  exact pw_mono (by grind) (by grind) k
theorem pw_odd {k : Nat} (hk : k % 2 = 1) {x y : Rat} (h : x ≤ y) : pw x k ≤ pw y k := by
  have hk0 : ¬ k % 2 = 0 := by omega
  by_cases h0 : 0 ≤ x
  · exact pw_mono h0 h k
  · by_cases h1 : 0 ≤ y
    · have e := pw_neg (-x) k
      rw [if_neg hk0, Rat.neg_neg] at e
      have := pw_nn (x := -x) (by grind) k
      have := pw_nn h1 k
      rw [e]; grind
    · have e := pw_neg (-x) k
      have e2 := pw_neg (-y) k
      rw [if_neg hk0, Rat.neg_neg] at e e2
      have := pw_mono (x := -y) (y := -x) (by grind) (by grind) k
      rw [e, e2]; grind
/-- the span of the powers of a span -/
def pL (a b : Rat) (k : Nat) : Rat := if k % 2 = 1 ∨ 0 ≤ a then pw a k else if b ≤ 0 then pw b k else if 0 < k then Rat.divInt 0 1 else Rat.divInt 1 1
def pH (a b : Rat) (k : Nat) : Rat := if k % 2 = 1 ∨ 0 ≤ a then pw b k else if b ≤ 0 then pw a k else grt (pw a k) (pw b k)
theorem p_in {a b x : Rat} (h1 : a ≤ x) (h2 : x ≤ b) (k : Nat) : pL a b k ≤ pw x k ∧ pw x k ≤ pH a b k := by
  unfold pL pH
  by_cases c : k % 2 = 1 ∨ 0 ≤ a
  · rw [if_pos c, if_pos c]
    rcases c with c | c
    · exact ⟨pw_odd c h1, pw_odd c h2⟩
    · exact ⟨pw_mono c h1 k, pw_mono (Rat.le_trans c h1) h2 k⟩
  · rw [if_neg c, if_neg c]
    have hk : k % 2 = 0 := by omega
    by_cases hb : b ≤ 0
    · rw [if_pos hb, if_pos hb]
      exact ⟨pw_even_np hk h2 hb, pw_even_np hk h1 (Rat.le_trans h2 hb)⟩
    · rw [if_neg hb, if_neg hb]
      constructor
      · by_cases h0 : 0 < k
        · rw [if_pos h0, zero_eq]; exact pw_even_nn hk x
        · have : k = 0 := by omega
          subst this
          rw [if_neg h0, pw_0, one_eq]; exact Rat.le_refl
      · by_cases hx : 0 ≤ x
        · exact Rat.le_trans (pw_mono hx h2 k) (grt_r _ _)
        · exact Rat.le_trans (pw_even_np hk h1 (by grind)) (grt_l _ _)
theorem p_le {a b : Rat} (h : a ≤ b) (k : Nat) : pL a b k ≤ pH a b k := Rat.le_trans (p_in (Rat.le_refl) h k).1 (p_in (Rat.le_refl) h k).2
theorem Bz_pw {j : Nat} {x : Rat} (h : Bz j x) : ∀ k, Bz (k * j) (pw x k)
  | 0 => by
    rw [pw_0]; exact Bz_mono Bz_1 (Nat.zero_le _)
  | k + 1 => by
    rw [pw_s, Nat.succ_mul]; exact Bz_mul (Bz_pw h k) h
theorem Bz_pL {j : Nat} {a b : Rat} (ha : Bz j a) (hb : Bz j b) (k : Nat) : Bz (k * j) (pL a b k) := by
  unfold pL
  repeat' split
  · exact Bz_pw ha k
  · exact Bz_pw hb k
  · rw [zero_eq]; exact Bz_mono Bz_0 (Nat.zero_le _)
  · rw [one_eq]; exact Bz_mono Bz_1 (Nat.zero_le _)
theorem Bz_pH {j : Nat} {a b : Rat} (ha : Bz j a) (hb : Bz j b) (k : Nat) : Bz (k * j) (pH a b k) := by
  unfold pH
  repeat' split
  · exact Bz_pw hb k
  · exact Bz_pw ha k
  · exact Bz_grt (Bz_pw ha k) (Bz_pw hb k)
/-- least and greatest of four -/
def mn4 (p q r s : Rat) : Rat := lsr (lsr (lsr (lsr p p) q) r) s
def mx4 (p q r s : Rat) : Rat := grt (grt (grt (grt p p) q) r) s
theorem mn_mx (p q r s : Rat) : mn4 p q r s ≤ mx4 p q r s := by unfold mn4 mx4 lsr grt; grind
theorem mn4_le (p q r s : Rat) : mn4 p q r s ≤ p ∧ mn4 p q r s ≤ q ∧ mn4 p q r s ≤ r ∧ mn4 p q r s ≤ s := by unfold mn4 lsr; grind
theorem le_mx4 (p q r s : Rat) : p ≤ mx4 p q r s ∧ q ≤ mx4 p q r s ∧ r ≤ mx4 p q r s ∧ s ≤ mx4 p q r s := by unfold mx4 grt; grind
theorem Bz_mn4 {k : Nat} {p q r s : Rat} (h1 : Bz k p) (h2 : Bz k q) (h3 : Bz k r) (h4 : Bz k s) : Bz k (mn4 p q r s) := Bz_lsr (Bz_lsr (Bz_lsr (Bz_lsr h1 h1) h2) h3) h4
theorem Bz_mx4 {k : Nat} {p q r s : Rat} (h1 : Bz k p) (h2 : Bz k q) (h3 : Bz k r) (h4 : Bz k s) : Bz k (mx4 p q r s) := Bz_grt (Bz_grt (Bz_grt (Bz_grt h1 h1) h2) h3) h4
theorem seg {l v h : Rat} (h1 : l ≤ v) (h2 : v ≤ h) (x : Rat) : (l * x ≤ v * x ∧ v * x ≤ h * x) ∨ (h * x ≤ v * x ∧ v * x ≤ l * x) := by
  by_cases hx : 0 ≤ x
  · exact .inl ⟨Rat.mul_le_mul_of_nonneg_right h1 hx, Rat.mul_le_mul_of_nonneg_right h2 hx⟩
  · have e1 := Rat.mul_le_mul_of_nonneg_right h1 (c := -x) (by grind)
    have e2 := Rat.mul_le_mul_of_nonneg_right h2 (c := -x) (by grind)
    exact .inr ⟨by grind, by grind⟩
theorem in4 {l v h a x b : Rat} (h1 : l ≤ v) (h2 : v ≤ h) (h3 : a ≤ x) (h4 : x ≤ b) : mn4 (l * a) (l * b) (h * a) (h * b) ≤ v * x ∧ v * x ≤ mx4 (l * a) (l * b) (h * a) (h * b) := by
  have s1 := seg h1 h2 x
  have s2 := seg h3 h4 l
  have s3 := seg h3 h4 h
  rw [Rat.mul_comm a l, Rat.mul_comm x l, Rat.mul_comm b l] at s2
  rw [Rat.mul_comm a h, Rat.mul_comm x h, Rat.mul_comm b h] at s3
  have m := mn4_le (l * a) (l * b) (h * a) (h * b)
  have m2 := le_mx4 (l * a) (l * b) (h * a) (h * b)
  generalize mn4 (l * a) (l * b) (h * a) (h * b) = u at *
  generalize mx4 (l * a) (l * b) (h * a) (h * b) = w at *
  generalize l * a = p1 at *
  generalize l * b = p2 at *
  generalize h * a = p3 at *
  generalize h * b = p4 at *
  generalize l * x = p5 at *
  generalize h * x = p6 at *
  generalize v * x = p7 at *
  grind
theorem in2 {l v h : Rat} (h1 : l ≤ v) (h2 : v ≤ h) (x : Rat) : mn4 (l * x) (l * x) (h * x) (h * x) ≤ v * x ∧ v * x ≤ mx4 (l * x) (l * x) (h * x) (h * x) := in4 h1 h2 Rat.le_refl Rat.le_refl
/-- a step of the plain range, and of its value -/
def st1 (a b : Rat) (s : Rat × Rat) (c : Int) : Rat × Rat := (mn4 (s.1 * a) (s.1 * b) (s.2 * a) (s.2 * b) + Rat.divInt c 1, mx4 (s.1 * a) (s.1 * b) (s.2 * a) (s.2 * b) + Rat.divInt c 1)
def hn (x : Rat) : List Int → Rat → Rat
  | [], v => v
  | c :: q, v => hn x q (v * x + Rat.divInt c 1)
theorem st1_in {a x b : Rat} (h3 : a ≤ x) (h4 : x ≤ b) : ∀ (q : List Int) (s : Rat × Rat) (v : Rat), s.1 ≤ v → v ≤ s.2 → (q.foldl (st1 a b) s).1 ≤ hn x q v ∧ hn x q v ≤ (q.foldl (st1 a b) s).2
  | [], s, v, h1, h2 => ⟨h1, h2⟩
  | c :: q, s, v, h1, h2 => by
    have k := in4 h1 h2 h3 h4
    exact st1_in h3 h4 q _ _ (by show mn4 _ _ _ _ + _ ≤ _; grind) (by show _ ≤ mx4 _ _ _ _ + _; grind)
/-- a step of the range by powers -/
def st2 (a b : Rat) (k : Nat) (s : Rat × Rat) (c : Int) : Rat × Rat :=
  (s.1 + mn4 (pL a b k * Rat.divInt c 1) (pL a b k * Rat.divInt c 1) (pH a b k * Rat.divInt c 1) (pH a b k * Rat.divInt c 1), s.2 + mx4 (pL a b k * Rat.divInt c 1) (pL a b k * Rat.divInt c 1) (pH a b k * Rat.divInt c 1) (pH a b k * Rat.divInt c 1))
def fold2 (a b : Rat) : List Int → Nat → Rat × Rat → Rat × Rat
  | [], _, s => s
  | c :: q, k, s => fold2 a b q (k + 1) (st2 a b k s c)
def ps (x : Rat) : List Int → Nat → Rat → Rat
  | [], _, v => v
  | c :: q, k, v => ps x q (k + 1) (v + pw x k * Rat.divInt c 1)
theorem st2_in {a x b : Rat} (h3 : a ≤ x) (h4 : x ≤ b) : ∀ (q : List Int) (k : Nat) (s : Rat × Rat) (v : Rat), s.1 ≤ v → v ≤ s.2 → (fold2 a b q k s).1 ≤ ps x q k v ∧ ps x q k v ≤ (fold2 a b q k s).2
  | [], k, s, v, h1, h2 => ⟨h1, h2⟩
  | c :: q, k, s, v, h1, h2 => by
    have p := p_in h3 h4 k
    have e := in2 p.1 p.2 (Rat.divInt c 1)
    exact st2_in h3 h4 q (k + 1) _ _ (by show s.1 + mn4 _ _ _ _ ≤ _; grind) (by show _ ≤ s.2 + mx4 _ _ _ _; grind)
/-- Horner's value -/
def ev0 (x : Rat) : List Int → Rat
  | [] => 0
  | c :: q => Rat.divInt c 1 + x * ev0 x q
theorem hn_app (x : Rat) (c : Int) : ∀ (q : List Int) (v : Rat), hn x (q ++ [c]) v = hn x q v * x + Rat.divInt c 1
  | [], v => rfl
  | d :: q, v => hn_app x c q _
theorem hn_rev (x : Rat) : ∀ q : List Int, hn x q.reverse 0 = ev0 x q
  | [] => rfl
  | c :: q => by
    rw [List.reverse_cons, hn_app, hn_rev x q]
    show _ = Rat.divInt c 1 + x * ev0 x q
    grind
theorem ps_ev (x : Rat) : ∀ (q : List Int) (k : Nat) (v : Rat), ps x q k v = v + pw x k * ev0 x q
  | [], k, v => by show v = v + pw x k * 0; grind
  | c :: q, k, v => by
    show ps x q (k + 1) (v + pw x k * Rat.divInt c 1) = v + pw x k * (Rat.divInt c 1 + x * ev0 x q)
    rw [ps_ev x q (k + 1), pw_s]; grind
theorem ps_hn (x : Rat) (q : List Int) : ps x q 0 0 = hn x q.reverse 0 := by rw [ps_ev, hn_rev, pw_0]; grind
end DL


set_option Elab.async false
set_option linter.all false
set_option maxRecDepth 100000
set_option maxHeartbeats 4000000
namespace DL
open PySem PySem.Spec PyProof.Rows L2
/-! concatenations of short rows, more ranges -/
section
variable {ρ : En}
theorem addI_l {u : OpF} {xs : List D} {y : D} : addI u (.lst xs) y ρ = u (.lst xs) y ρ := rfl
theorem addS_l {u : OpF} {xs : List D} {y : D} : addS u (.lst xs) y ρ = u (.lst xs) y ρ := rfl
theorem addI_t {u : OpF} {xs : List D} {y : D} : addI u (.tup xs) y ρ = u (.tup xs) y ρ := rfl
theorem addS_t {u : OpF} {xs : List D} {y : D} : addS u (.tup xs) y ρ = u (.tup xs) y ρ := rfl
theorem rng_7 : rngF1 [.int 7] ρ = .ok [.int 0, .int 1, .int 2, .int 3, .int 4, .int 5, .int 6] ρ := rfl
theorem rng_8 : rngF1 [.int 8] ρ = .ok [.int 0, .int 1, .int 2, .int 3, .int 4, .int 5, .int 6, .int 7] ρ := rfl
theorem addT_l00 {u : OpF} : addT u (.lst []) (.lst []) ρ = .ok (.lst []) ρ := rfl
theorem addT_l01 {u : OpF} {b0 : D} : addT u (.lst []) (.lst [b0]) ρ = .ok (.lst [b0]) ρ := rfl
theorem addT_l02 {u : OpF} {b0 b1 : D} : addT u (.lst []) (.lst [b0, b1]) ρ = .ok (.lst [b0, b1]) ρ := rfl
theorem addT_l03 {u : OpF} {b0 b1 b2 : D} : addT u (.lst []) (.lst [b0, b1, b2]) ρ = .ok (.lst [b0, b1, b2]) ρ := rfl
theorem addT_l04 {u : OpF} {b0 b1 b2 b3 : D} : addT u (.lst []) (.lst [b0, b1, b2, b3]) ρ = .ok (.lst [b0, b1, b2, b3]) ρ := rfl
theorem addT_l10 {u : OpF} {a0 : D} : addT u (.lst [a0]) (.lst []) ρ = .ok (.lst [a0]) ρ := rfl
theorem addT_l11 {u : OpF} {a0 b0 : D} : addT u (.lst [a0]) (.lst [b0]) ρ = .ok (.lst [a0, b0]) ρ := rfl
theorem addT_l12 {u : OpF} {a0 b0 b1 : D} : addT u (.lst [a0]) (.lst [b0, b1]) ρ = .ok (.lst [a0, b0, b1]) ρ := rfl
theorem addT_l13 {u : OpF} {a0 b0 b1 b2 : D} : addT u (.lst [a0]) (.lst [b0, b1, b2]) ρ = .ok (.lst [a0, b0, b1, b2]) ρ := rfl
theorem addT_l14 {u : OpF} {a0 b0 b1 b2 b3 : D} : addT u (.lst [a0]) (.lst [b0, b1, b2, b3]) ρ = .ok (.lst [a0, b0, b1, b2, b3]) ρ := rfl
theorem addT_l20 {u : OpF} {a0 a1 : D} : addT u (.lst [a0, a1]) (.lst []) ρ = .ok (.lst [a0, a1]) ρ := rfl
theorem addT_l21 {u : OpF} {a0 a1 b0 : D} : addT u (.lst [a0, a1]) (.lst [b0]) ρ = .ok (.lst [a0, a1, b0]) ρ := rfl
theorem addT_l22 {u : OpF} {a0 a1 b0 b1 : D} : addT u (.lst [a0, a1]) (.lst [b0, b1]) ρ = .ok (.lst [a0, a1, b0, b1]) ρ := rfl
theorem addT_l23 {u : OpF} {a0 a1 b0 b1 b2 : D} : addT u (.lst [a0, a1]) (.lst [b0, b1, b2]) ρ = .ok (.lst [a0, a1, b0, b1, b2]) ρ := rfl
theorem addT_l24 {u : OpF} {a0 a1 b0 b1 b2 b3 : D} : addT u (.lst [a0, a1]) (.lst [b0, b1, b2, b3]) ρ = .ok (.lst [a0, a1, b0, b1, b2, b3]) ρ := rfl
theorem addT_l30 {u : OpF} {a0 a1 a2 : D} : addT u (.lst [a0, a1, a2]) (.lst []) ρ = .ok (.lst [a0, a1, a2]) ρ := rfl
theorem addT_l31 {u : OpF} {a0 a1 a2 b0 : D} : addT u (.lst [a0, a1, a2]) (.lst [b0]) ρ = .ok (.lst [a0, a1, a2, b0]) ρ := rfl
theorem addT_l32 {u : OpF} {a0 a1 a2 b0 b1 : D} : addT u (.lst [a0, a1, a2]) (.lst [b0, b1]) ρ = .ok (.lst [a0, a1, a2, b0, b1]) ρ := rfl
theorem addT_l33 {u : OpF} {a0 a1 a2 b0 b1 b2 : D} : addT u (.lst [a0, a1, a2]) (.lst [b0, b1, b2]) ρ = .ok (.lst [a0, a1, a2, b0, b1, b2]) ρ := rfl
theorem addT_l34 {u : OpF} {a0 a1 a2 b0 b1 b2 b3 : D} : addT u (.lst [a0, a1, a2]) (.lst [b0, b1, b2, b3]) ρ = .ok (.lst [a0, a1, a2, b0, b1, b2, b3]) ρ := rfl
theorem addT_l40 {u : OpF} {a0 a1 a2 a3 : D} : addT u (.lst [a0, a1, a2, a3]) (.lst []) ρ = .ok (.lst [a0, a1, a2, a3]) ρ := rfl
theorem addT_l41 {u : OpF} {a0 a1 a2 a3 b0 : D} : addT u (.lst [a0, a1, a2, a3]) (.lst [b0]) ρ = .ok (.lst [a0, a1, a2, a3, b0]) ρ := rfl
theorem addT_l42 {u : OpF} {a0 a1 a2 a3 b0 b1 : D} : addT u (.lst [a0, a1, a2, a3]) (.lst [b0, b1]) ρ = .ok (.lst [a0, a1, a2, a3, b0, b1]) ρ := rfl
theorem addT_l43 {u : OpF} {a0 a1 a2 a3 b0 b1 b2 : D} : addT u (.lst [a0, a1, a2, a3]) (.lst [b0, b1, b2]) ρ = .ok (.lst [a0, a1, a2, a3, b0, b1, b2]) ρ := rfl
theorem addT_l44 {u : OpF} {a0 a1 a2 a3 b0 b1 b2 b3 : D} : addT u (.lst [a0, a1, a2, a3]) (.lst [b0, b1, b2, b3]) ρ = .ok (.lst [a0, a1, a2, a3, b0, b1, b2, b3]) ρ := rfl
theorem addT_t00 {u : OpF} : addT u (.tup []) (.tup []) ρ = .ok (.tup []) ρ := rfl
theorem addT_t01 {u : OpF} {b0 : D} : addT u (.tup []) (.tup [b0]) ρ = .ok (.tup [b0]) ρ := rfl
theorem addT_t02 {u : OpF} {b0 b1 : D} : addT u (.tup []) (.tup [b0, b1]) ρ = .ok (.tup [b0, b1]) ρ := rfl
theorem addT_t03 {u : OpF} {b0 b1 b2 : D} : addT u (.tup []) (.tup [b0, b1, b2]) ρ = .ok (.tup [b0, b1, b2]) ρ := rfl
theorem addT_t04 {u : OpF} {b0 b1 b2 b3 : D} : addT u (.tup []) (.tup [b0, b1, b2, b3]) ρ = .ok (.tup [b0, b1, b2, b3]) ρ := rfl
theorem addT_t10 {u : OpF} {a0 : D} : addT u (.tup [a0]) (.tup []) ρ = .ok (.tup [a0]) ρ := rfl
theorem addT_t11 {u : OpF} {a0 b0 : D} : addT u (.tup [a0]) (.tup [b0]) ρ = .ok (.tup [a0, b0]) ρ := rfl
theorem addT_t12 {u : OpF} {a0 b0 b1 : D} : addT u (.tup [a0]) (.tup [b0, b1]) ρ = .ok (.tup [a0, b0, b1]) ρ := rfl
theorem addT_t13 {u : OpF} {a0 b0 b1 b2 : D} : addT u (.tup [a0]) (.tup [b0, b1, b2]) ρ = .ok (.tup [a0, b0, b1, b2]) ρ := rfl
theorem addT_t14 {u : OpF} {a0 b0 b1 b2 b3 : D} : addT u (.tup [a0]) (.tup [b0, b1, b2, b3]) ρ = .ok (.tup [a0, b0, b1, b2, b3]) ρ := rfl
theorem addT_t20 {u : OpF} {a0 a1 : D} : addT u (.tup [a0, a1]) (.tup []) ρ = .ok (.tup [a0, a1]) ρ := rfl
theorem addT_t21 {u : OpF} {a0 a1 b0 : D} : addT u (.tup [a0, a1]) (.tup [b0]) ρ = .ok (.tup [a0, a1, b0]) ρ := rfl
theorem addT_t22 {u : OpF} {a0 a1 b0 b1 : D} : addT u (.tup [a0, a1]) (.tup [b0, b1]) ρ = .ok (.tup [a0, a1, b0, b1]) ρ := rfl
theorem addT_t23 {u : OpF} {a0 a1 b0 b1 b2 : D} : addT u (.tup [a0, a1]) (.tup [b0, b1, b2]) ρ = .ok (.tup [a0, a1, b0, b1, b2]) ρ := rfl
theorem addT_t24 {u : OpF} {a0 a1 b0 b1 b2 b3 : D} : addT u (.tup [a0, a1]) (.tup [b0, b1, b2, b3]) ρ = .ok (.tup [a0, a1, b0, b1, b2, b3]) ρ := rfl
theorem addT_t30 {u : OpF} {a0 a1 a2 : D} : addT u (.tup [a0, a1, a2]) (.tup []) ρ = .ok (.tup [a0, a1, a2]) ρ := rfl
theorem addT_t31 {u : OpF} {a0 a1 a2 b0 : D} : addT u (.tup [a0, a1, a2]) (.tup [b0]) ρ = .ok (.tup [a0, a1, a2, b0]) ρ := rfl
theorem addT_t32 {u : OpF} {a0 a1 a2 b0 b1 : D} : addT u (.tup [a0, a1, a2]) (.tup [b0, b1]) ρ = .ok (.tup [a0, a1, a2, b0, b1]) ρ := rfl
theorem addT_t33 {u : OpF} {a0 a1 a2 b0 b1 b2 : D} : addT u (.tup [a0, a1, a2]) (.tup [b0, b1, b2]) ρ = .ok (.tup [a0, a1, a2, b0, b1, b2]) ρ := rfl
theorem addT_t34 {u : OpF} {a0 a1 a2 b0 b1 b2 b3 : D} : addT u (.tup [a0, a1, a2]) (.tup [b0, b1, b2, b3]) ρ = .ok (.tup [a0, a1, a2, b0, b1, b2, b3]) ρ := rfl
theorem addT_t40 {u : OpF} {a0 a1 a2 a3 : D} : addT u (.tup [a0, a1, a2, a3]) (.tup []) ρ = .ok (.tup [a0, a1, a2, a3]) ρ := rfl
theorem addT_t41 {u : OpF} {a0 a1 a2 a3 b0 : D} : addT u (.tup [a0, a1, a2, a3]) (.tup [b0]) ρ = .ok (.tup [a0, a1, a2, a3, b0]) ρ := rfl
theorem addT_t42 {u : OpF} {a0 a1 a2 a3 b0 b1 : D} : addT u (.tup [a0, a1, a2, a3]) (.tup [b0, b1]) ρ = .ok (.tup [a0, a1, a2, a3, b0, b1]) ρ := rfl
theorem addT_t43 {u : OpF} {a0 a1 a2 a3 b0 b1 b2 : D} : addT u (.tup [a0, a1, a2, a3]) (.tup [b0, b1, b2]) ρ = .ok (.tup [a0, a1, a2, a3, b0, b1, b2]) ρ := rfl
theorem addT_t44 {u : OpF} {a0 a1 a2 a3 b0 b1 b2 b3 : D} : addT u (.tup [a0, a1, a2, a3]) (.tup [b0, b1, b2, b3]) ρ = .ok (.tup [a0, a1, a2, a3, b0, b1, b2, b3]) ρ := rfl

end
def upL : Nat → Nat → List D
  | _, 0 => []
  | i, n + 1 => .int (i : Int) :: upL (i + 1) n
theorem upL_len : ∀ (n i : Nat), (upL i n).length = n
  | 0, _ => rfl
  | n + 1, i => by simp [upL, upL_len n]
theorem upL_range : ∀ (n i : Nat), upL i n = (List.range' i n).map fun j => D.int ((j : Nat) : Int)
  | 0, _ => rfl
  | n + 1, i => by rw [List.range'_succ, List.map_cons, ← upL_range n (i + 1)]; rfl
theorem rgL_up (n : Nat) : rgL 0 n = upL 0 n := by
  rw [upL_range, ← List.range_eq_range']; unfold rgL
  apply List.map_congr_left
  intro j _
  rw [Int.zero_add]
theorem at_in {a b : Rat} {t : Int} (h : a ≤ b) (h1 : 0 ≤ t) (h2 : t ≤ 6) : a ≤ a + (b - a) * Rat.divInt t 6 ∧ a + (b - a) * Rat.divInt t 6 ≤ b := by
  have q0 : 0 ≤ Rat.divInt t 6 := Rat.divInt_nonneg h1 (by decide)
  have q1 : 0 ≤ Rat.divInt (6 - t) 6 := Rat.divInt_nonneg (by omega) (by decide)
  have e : Rat.divInt t 6 + Rat.divInt (6 - t) 6 = 1 := by
    rw [Rat.divInt_add_divInt _ _ (by decide) (by decide)]
    have : t * 6 + (6 - t) * 6 = 36 := by omega
    rw [this]; decide +kernel
  have m1 := Rat.mul_nonneg (show 0 ≤ b - a by grind) q0
  have m2 := Rat.mul_nonneg (show 0 ≤ b - a by grind) q1
  have m3 : (b - a) * Rat.divInt t 6 + (b - a) * Rat.divInt (6 - t) 6 = b - a := by rw [← Rat.mul_add, e, Rat.mul_one]
  constructor <;> grind
end DL


set_option Elab.async false
set_option linter.all false
set_option maxRecDepth 100000
set_option maxHeartbeats 4000000
namespace DL
open PySem PySem.Spec PyProof.Rows L2 _root_.TL
/-! texts of numbers, read back -/
theorem tl_dash : tl (Str.ofString "-") = [45] := by decide +kernel
theorem tl_slash : tl (Str.ofString "/") = [47] := by decide +kernel
theorem tl_comma : tl (Str.ofString ",") = [44] := by decide +kernel
theorem of_app (a b : String) : Str.ofString (a ++ b) = Str.ofString a ++ Str.ofString b := by
  apply ext_tl
  rw [tl_append, tl_ofString, tl_ofString, tl_ofString, String.toList_append, List.map_append]
/-- the text of a natural number -/
def nT (m : Nat) : Str := Str.ofString (toString ((m : Nat) : Int))
theorem tl_nT (m : Nat) : tl (nT m) = numL m := tl_num m
theorem itx_pos {i : Int} (h : 0 ≤ i) : Str.ofString (toString i) = nT i.natAbs := by
  unfold nT; rw [Int.natAbs_of_nonneg h]
theorem itx_neg {i : Int} (h : i < 0) : Str.ofString (toString i) = Str.ofString "-" ++ nT i.natAbs := by
  obtain ⟨m, rfl⟩ : ∃ m : Nat, i = Int.negSucc m := ⟨i.natAbs - 1, by omega⟩
  have e : toString (Int.negSucc m) = "-" ++ Nat.repr (m + 1) := rfl
  rw [e, of_app]; rfl
theorem sub0 (x y : Str) : Builtin.Str.subAt x y 0 = ((tl x).take (tl y).length == tl y) := by
  rw [StrLaws.subAt_eq]
  have : y.length = (tl y).length := len_tl y
  simp [tl, Str.length]
theorem pre_dash (x : Str) : Txt.removeprefix (Str.ofString "-" ++ x) (Str.ofString "-") = x := by
  have h : Builtin.Str.subAt (Str.ofString "-" ++ x) (Str.ofString "-") 0 = true := by
    rw [sub0, tl_append, tl_dash]; simp
  have l1 : (Str.ofString "-").length = 1 := by rw [len_tl, tl_dash]; rfl
  unfold Txt.removeprefix Txt.affix
  rw [if_pos h]
  have l2 : (Str.ofString "-" ++ x).length = x.length + 1 := by rw [Str.length_append, l1]; omega
  dsimp only
  rw [l1, l2]
  have hne : ¬ ((x.length + 1 - 1 == x.length + 1) = true) := by simp
  rw [if_neg hne]
  apply ext_tl
  rw [← l2, tl_strSub_end, tl_append, tl_dash]; rfl
theorem pre_no {x : Str} {c : Nat} {r : List Nat} (h : tl x = c :: r) (hc : c ≠ 45) : Txt.removeprefix x (Str.ofString "-") = x := by
  have h : Builtin.Str.subAt x (Str.ofString "-") 0 = false := by
    rw [sub0, h, tl_dash]; simp [hc]
  unfold Txt.removeprefix
  rw [h]; rfl
theorem sw_dash (x : Str) : Txt.startswith (Str.ofString "-" ++ x) (Str.ofString "-") = true := by
  have h : Builtin.Str.subAt (Str.ofString "-" ++ x) (Str.ofString "-") 0 = true := by
    rw [sub0, tl_append, tl_dash]; simp
  unfold Txt.startswith
  rw [h, Str.length_append]; simp
theorem sw_no {x : Str} {c : Nat} {r : List Nat} (h : tl x = c :: r) (hc : c ≠ 45) : Txt.startswith x (Str.ofString "-") = false := by
  have h : Builtin.Str.subAt x (Str.ofString "-") 0 = false := by
    rw [sub0, h, tl_dash]; simp [hc]
  unfold Txt.startswith
  rw [h]; simp
theorem nT_cons (m : Nat) : ∃ c r, tl (nT m) = c :: r ∧ 48 ≤ c ∧ c ≤ 57 := by
  rw [tl_nT]
  cases e : numL m with
  | nil => exact absurd e (numL_ne m)
  | cons c r => exact ⟨c, r, rfl, numL_digits m c (by rw [e]; simp)⟩
theorem part_slash (m : Nat) (b : Str) : Txt.partition (nT m ++ Str.ofString "/" ++ b) (Str.ofString "/") = (nT m, Str.ofString "/", b) :=
  partition_app tl_slash (by rw [tl_nT]; exact numL_free (.inl (by decide)))
theorem part_whole (m : Nat) : Txt.partition (nT m) (Str.ofString "/") = (nT m, Str.empty, Str.empty) :=
  partition_none tl_slash (by rw [tl_nT]; exact numL_free (.inl (by decide)))
theorem int_nT {m : Nat} (h : m < 10 ^ 30) : PySem.intText? (nT m) = some (m : Int) := int_num (Nat.le_trans (numL_len (by decide) h) (by decide))
theorem split_two {x y : Str} (hx : 44 ∉ tl x) (hy : 44 ∉ tl y) : Txt.split (x ++ Str.ofString "," ++ y) (Str.ofString ",") = [x, y] := by
  have := split_join (y := Str.ofString ",") tl_comma (by decide +kernel) (parts := [x, y]) (by simp) (by
    intro p hp
    rcases List.mem_cons.mp hp with rfl | hp
    · exact hx
    · rw [List.mem_singleton.mp hp]; exact hy)
  rw [join_eq] at this
  exact this
/-! text methods -/
def kTx (g : Str → Str → Option D) (a : Str) : List D → M D := fun ds => match ds with
  | [.str b] => optM (g a b)
  | _ => stk
theorem tx1_eq {g : Str → Str → Option D} {fs : M (List D)} {a : Str} {ρ : En} : tx1 g fs (.str a) ρ = (fs ρ).bd (kTx g a) := bd_eq
theorem kTx_eq {g : Str → Str → Option D} {a b : Str} {ρ : En} : kTx g a [.str b] ρ = optM (g a b) ρ := rfl
theorem optM_s {α : Type} {x : α} {ρ : En} : optM (some x) ρ = .ok x ρ := rfl
theorem kLenC_s {x : Str} {ρ : En} (h : x.length ≤ 16777216) : kLenC (some (some (.d (.str x)))) ρ = .ok (.int x.length) ρ := by
  show chk (szOk x.length) _ ρ = _
  have : szOk x.length = true := Nat.ble_eq.mpr h
  rw [this]; rfl
theorem gRp_of {a b c : Str} (h : a.length ≤ 16777216) (e : Txt.removeprefix a b = c) : gRp a b = some (.str c) := by
  unfold gRp
  have : szOk a.length = true := Nat.ble_eq.mpr h
  rw [this, e]
theorem gPt_of {a b x y z : Str} (h : a.length ≤ 16777216) (hb : (b.length == 0) = false) (e : Txt.partition a b = (x, y, z)) : gPt a b = some (.tup [.str x, .str y, .str z]) := by
  unfold gPt
  have : szOk a.length = true := Nat.ble_eq.mpr h
  rw [this, hb, e]; rfl
theorem gSp_of {a b : Str} {l : List Str} (h : a.length + 2 ≤ 16777216) (hb : (b.length == 0) = false) (e : Txt.split a b = l) : gSp a b = some (.lst (l.map D.str)) := by
  unfold gSp
  have : szOk (a.length + 2) = true := Nat.ble_eq.mpr h
  rw [this, hb, e]; rfl
theorem itms_s {x : Str} {ρ : En} : itms (.str x) ρ = .ok (chrs x) ρ := rfl
theorem intF2_s {x : Str} {n : Int} {ρ : En} (h : PySem.intText? x = some n) (hl : x.length ≤ 640) : intF2 [.str x] ρ = .ok (.int n) ρ := by
  unfold intF2
  have : Nat.ble x.length 640 = true := Nat.ble_eq.mpr hl
  simp only [h, this]; rfl
theorem chrs_dig {m : Nat} {d : D} (h : d ∈ chrs (nT m)) : ∃ c : Nat, d = .str ⟨#[c]⟩ ∧ 48 ≤ c ∧ c ≤ 57 := by
  obtain ⟨c, hc, rfl⟩ := List.mem_map.mp h
  have e : (nT m).cps.toList = numL m := tl_nT m
  rw [e] at hc
  exact ⟨c, rfl, numL_digits m c hc⟩
theorem le_dig {u v : OpF} {c : Nat} {ρ : En} (h1 : 48 ≤ c) (h2 : c ≤ 57) : chainM (rt (.str "0")) (rt (.str ⟨#[c]⟩)) (rt (.str "9")) (cmpI (fun i j => decide (i ≤ j)) (leS u)) (cmpI (fun i j => decide (i ≤ j)) (leS v)) ρ = .ok (.bl true) ρ := by
  have e0 : (Str.ofString "0").cps.toList = [48] := by decide +kernel
  have e9 : (Str.ofString "9").cps.toList = [57] := by decide +kernel
  have k1 : (decide (([c] : List Nat) < [48])) = false := decide_eq_false (by
    intro h; rcases List.cons_lt_cons_iff.mp h with h | ⟨h, h'⟩
    · omega
    · exact absurd h' (by simp))
  have k2 : (decide (([57] : List Nat) < [c])) = false := decide_eq_false (by
    intro h; rcases List.cons_lt_cons_iff.mp h with h | ⟨h, h'⟩
    · omega
    · exact absurd h' (by simp))
  have a1 : leS u (.str (Str.ofString "0")) (.str ⟨#[c]⟩) ρ = .ok (.bl true) ρ := by
    show Res.ok (D.bl (!decide (([c] : List Nat) < (Str.ofString "0").cps.toList))) ρ = _
    rw [e0, k1]; rfl
  have a2 : leS v (.str ⟨#[c]⟩) (.str (Str.ofString "9")) ρ = .ok (.bl true) ρ := by
    show Res.ok (D.bl (!decide ((Str.ofString "9").cps.toList < [c]))) ρ = _
    rw [e9, k2]; rfl
  have b1 : cmpI (fun i j => decide (i ≤ j)) (leS u) (.str (Str.ofString "0")) (.str ⟨#[c]⟩) ρ = leS u (.str (Str.ofString "0")) (.str ⟨#[c]⟩) ρ := rfl
  have b2 : cmpI (fun i j => decide (i ≤ j)) (leS v) (.str ⟨#[c]⟩) (.str (Str.ofString "9")) ρ = leS v (.str ⟨#[c]⟩) (.str (Str.ofString "9")) ρ := rfl
  rw [chainM_eq, rt_eq, Res.bd_ok, kCh1_eq, rt_eq, Res.bd_ok, kCh2_eq, b1, a1, Res.bd_ok, kCh3_t, rt_eq, Res.bd_ok, b2, a2]
theorem nT_len {m : Nat} (h : m < 10 ^ 30) : (nT m).length ≤ 30 := by
  rw [len_tl, tl_nT]; exact numL_len (by decide) h
theorem nT_ok (m : Nat) : PyData.strOk (nT m) = true := strOk_of _
theorem nT_ne (m : Nat) : (nT m == Str.ofString "") = false := by
  obtain ⟨c, r, h, _⟩ := nT_cons m
  apply beq_eq_false_iff_ne.mpr
  intro e
  rw [e] at h
  have : tl (Str.ofString "") = [] := by decide +kernel
  rw [this] at h; cases h
end DL


set_option Elab.async false
set_option linter.all false
set_option maxRecDepth 100000
set_option maxHeartbeats 4000000
namespace DL
open PySem PySem.Spec PyProof.Rows L2
/-! comprehensions over rows of ints, over any encoded rows -/
theorem lcF_enc {α : Type} (enc : α → D) {vs : List Nat} {g : Tgm} {ft : M Bool} {fe : M D} {ρ0 : En} (φ : α → D) (p : α → Bool) (l : List α) (hl : l.length ≤ 16777216)
    (h : ∀ d ∈ l, ∃ ρ1 ρ2, g (enc d) ρ0 = some ρ1 ∧ ft ρ1 = .ok (p d) ρ2 ∧ (p d = false → wipeE ρ2 vs = ρ0) ∧ (p d = true → ∃ ρ3, fe ρ2 = .ok (φ d) ρ3 ∧ wipeE ρ3 vs = ρ0)) :
    lcF vs g ft fe (l.map enc) [] ρ0 = .ok ((l.filter p).map φ) ρ0 := by
  have key : ∀ (l : List α) (acc : List D), acc.length + l.length ≤ 16777216 → (∀ d ∈ l, ∃ ρ1 ρ2, g (enc d) ρ0 = some ρ1 ∧ ft ρ1 = .ok (p d) ρ2 ∧ (p d = false → wipeE ρ2 vs = ρ0) ∧ (p d = true → ∃ ρ3, fe ρ2 = .ok (φ d) ρ3 ∧ wipeE ρ3 vs = ρ0)) →
      lcF vs g ft fe (l.map enc) acc ρ0 = .ok (acc ++ (l.filter p).map φ) ρ0 := by
    intro l
    induction l with
    | nil => intro acc _ _; rw [List.map_nil, lcF_nil]; simp
    | cons d l ih =>
      intro acc hl h
      obtain ⟨ρ1, ρ2, h1, h2, h3, h4⟩ := h d (by simp)
      rw [List.map_cons, lcF_cons, h1, lk2_eq, h2]
      simp only [List.length_cons] at hl
      cases hp : p d with
      | false =>
        rw [lk3_f, h3 hp, ih acc (by omega) (fun d hd => h d (List.mem_cons_of_mem _ hd))]
        simp [hp]
      | true =>
        obtain ⟨ρ3, h5, h6⟩ := h4 hp
        rw [lk3_t, h5]
        have hb : Nat.blt acc.length 16777216 = true := Nat.blt_eq.mpr (by omega)
        simp only [lk4, hb, h6]
        rw [ih (acc ++ [φ d]) (by simp; omega) (fun d hd => h d (List.mem_cons_of_mem _ hd))]
        simp [hp]
  have := key l [] (by simpa using hl) h
  simpa using this
/-- .. without a condition -/
theorem lcF_encA {α : Type} (enc : α → D) {vs : List Nat} {g : Tgm} {ft : M Bool} {fe : M D} {ρ0 : En} (φ : α → D) (l : List α) (hl : l.length ≤ 16777216)
    (h : ∀ d ∈ l, ∃ ρ1 ρ2, g (enc d) ρ0 = some ρ1 ∧ ft ρ1 = .ok true ρ2 ∧ (∃ ρ3, fe ρ2 = .ok (φ d) ρ3 ∧ wipeE ρ3 vs = ρ0)) :
    lcF vs g ft fe (l.map enc) [] ρ0 = .ok (l.map φ) ρ0 := by
  have := lcF_enc enc φ (fun _ => true) l hl (fun d hd => by
    obtain ⟨ρ1, ρ2, h1, h2, h3⟩ := h d hd
    exact ⟨ρ1, ρ2, h1, h2, (fun z => absurd z (by decide)), fun _ => h3⟩)
  rwa [List.filter_eq_self.mpr (by simp)] at this
theorem pairs_enc {α β : Type} (e : α → D) (e' : β → D) : ∀ (l : List α) (r : List β), pairs (l.map e) (r.map e') = (l.zip r).map fun z => D.tup [e z.1, e' z.2]
  | [], _ => rfl
  | _ :: _, [] => rfl
  | a :: l, b :: r => by simp only [List.map_cons, List.zip_cons_cons, pairs, pairs_enc e e' l r]
theorem zip_l {xs ys : List D} {ρ : En} : zipF [.lst xs, .lst ys] ρ = .ok (pairs xs ys) ρ := rfl
theorem zip_t {xs ys : List D} {ρ : En} : zipF [.tup xs, .tup ys] ρ = .ok (pairs xs ys) ρ := rfl
theorem cutD_tail (xs : List D) : cutD xs (some 1) none = xs.drop 1 := by
  unfold cutD
  cases xs with
  | nil => rfl
  | cons a xs =>
    have e1 : HT.sIx (a :: xs).length 0 (some 1) = 1 := by simp [HT.sIx]
    have e2 : HT.sIx (a :: xs).length (a :: xs).length none = xs.length + 1 := rfl
    rw [e1, e2]; simp
/-- neighbours that differ -/
def difs {α : Type} [DecidableEq α] (l : List α) : Nat := ((l.zip (l.drop 1)).filter fun z => !decide (z.1 = z.2)).length
theorem difs_cons {α : Type} [DecidableEq α] (a b : α) (l : List α) : difs (a :: b :: l) = difs (b :: l) + if a = b then 0 else 1 := by
  unfold difs
  simp only [List.drop_succ_cons, List.drop_zero, List.zip_cons_cons, List.filter_cons]
  by_cases h : a = b
  · simp [h]
  · simp [h]
theorem difs_map {α β : Type} [DecidableEq α] [DecidableEq β] (f : α → β) (hf : ∀ a b, f a = f b ↔ a = b) : ∀ l : List α, difs (l.map f) = difs l
  | [] => rfl
  | [a] => rfl
  | a :: b :: l => by
    have := difs_map f hf (b :: l)
    simp only [List.map_cons] at this ⊢
    rw [difs_cons, difs_cons, this]; simp only [hf]
theorem difs_range {α : Type} [DecidableEq α] : ∀ l : List α, (((List.range (l.length - 1)).filter fun k => !decide (l[k]? = l[k + 1]?)).length) = difs l
  | [] => rfl
  | [a] => rfl
  | a :: b :: l => by
    have := difs_range (b :: l)
    rw [difs_cons, ← this]
    simp only [List.length_cons, Nat.add_sub_cancel, List.range_succ_eq_map, List.filter_cons, List.filter_map, List.getElem?_cons_zero, List.getElem?_cons_succ, Nat.zero_add]
    have e : ∀ (q : Nat → Bool), (List.map Nat.succ (List.filter q (List.range l.length))).length = (List.filter q (List.range l.length)).length := fun q => List.length_map _
    have hc : ((fun k => !decide ((a :: b :: l)[k]? = (b :: l)[k]?)) ∘ Nat.succ) = fun k => !decide ((b :: l)[k]? = l[k]?) := by
      funext k; simp
    rw [hc]
    by_cases h : a = b
    · simp [h]
    · simp [h]
theorem rgL_nat (n : Nat) : rgL 0 n = (List.range n).map fun k => D.int ((k : Nat) : Int) := by
  rw [rgL_up, upL_range, List.range_eq_range']
theorem joinO_of {a : Str} {l : List Str} (h : (l.map fun x : Str => x.length).sum + l.length * a.length ≤ 16777216) : joinO a (.lst (l.map D.str)) = some (.str (Txt.join a l)) := by
  have e : strsD (l.map D.str) = some l := by
    induction l with
    | nil => rfl
    | cons x l ih =>
      have := ih (by simp only [List.map_cons, List.sum_cons, List.length_cons, Nat.succ_mul] at h; omega)
      simp only [List.map_cons, strsD, this]
  show (match strsD (l.map D.str) with | some l => (match Nat.ble ((l.map fun x : Str => x.length).sum + l.length * a.length) 16777216 with | true => some (D.str (Txt.join a l)) | false => none) | none => none) = _
  rw [e]
  simp only [Nat.ble_eq.mpr h]
theorem kJoin_of {a : Str} {l : List Str} {ρ : En} (h : (l.map fun x : Str => x.length).sum + l.length * a.length ≤ 16777216) : kJoin a [.lst (l.map D.str)] ρ = .ok (.str (Txt.join a l)) ρ := by
  show optM (joinO a (.lst (l.map D.str))) ρ = _
  rw [joinO_of h]; rfl
theorem sum_len_le {l : List Str} {n : Nat} (h : ∀ x : Str, x ∈ l → x.length ≤ n) : (l.map fun x : Str => x.length).sum ≤ l.length * n := by
  induction l with
  | nil => simp
  | cons x l ih =>
    have h1 := h x (by simp)
    have := ih fun x hx => h x (List.mem_cons_of_mem _ hx)
    simp only [List.map_cons, List.sum_cons, List.length_cons, Nat.succ_mul]; omega
theorem join_ok {a : Str} (ha : PyData.strOk a = true) : ∀ {l : List Str}, (∀ x : Str, x ∈ l → PyData.strOk x = true) → PyData.strOk (Txt.join a l) = true := by
  intro l h
  rw [_root_.TL.join_eq]
  match l, h with
  | [], _ => exact strOk_empty
  | [x], h => exact h x (by simp)
  | x :: y :: l, h =>
    have := join_ok ha (l := y :: l) fun z hz => h z (List.mem_cons_of_mem _ hz)
    rw [_root_.TL.join_eq] at this
    show PyData.strOk (x ++ a ++ PySem.Str.join a (y :: l)) = true
    exact strOk_app (strOk_app (h x (by simp)) ha) this
end DL


set_option Elab.async false
set_option linter.all false
set_option maxRecDepth 100000
set_option maxHeartbeats 4000000
namespace G00
open PySem PySem.Spec PyProof.Rows L2 DL
theorem i_Ratio_non  : isi vcls .non (.glo "Ratio") = some false := rfl
theorem i_Ratio_bl {bb : Bool} : isi vcls (.bl bb) (.glo "Ratio") = some false := rfl
theorem i_Ratio_int {i : Int} : isi vcls (.int i) (.glo "Ratio") = some false := rfl
theorem i_Ratio_str {s : Str} : isi vcls (.str s) (.glo "Ratio") = some false := rfl
theorem i_Ratio_tup {xs : List D} : isi vcls (.tup xs) (.glo "Ratio") = some false := rfl
theorem i_Ratio_lst {xs : List D} : isi vcls (.lst xs) (.glo "Ratio") = some false := rfl
theorem i_Ratio_qD {q : Rat} : isi vcls (qD q) (.glo "Ratio") = some true := rfl
theorem i_int_non  : isi vcls .non (.ty "int") = some false := rfl
theorem i_int_bl {bb : Bool} : isi vcls (.bl bb) (.ty "int") = some true := rfl
theorem i_int_int {i : Int} : isi vcls (.int i) (.ty "int") = some true := rfl
theorem i_int_str {s : Str} : isi vcls (.str s) (.ty "int") = some false := rfl
theorem i_int_tup {xs : List D} : isi vcls (.tup xs) (.ty "int") = some false := rfl
theorem i_int_lst {xs : List D} : isi vcls (.lst xs) (.ty "int") = some false := rfl
theorem i_int_qD {q : Rat} : isi vcls (qD q) (.ty "int") = some false := rfl
theorem i_bool_non  : isi vcls .non (.ty "bool") = some false := rfl
theorem i_bool_bl {bb : Bool} : isi vcls (.bl bb) (.ty "bool") = some true := rfl
theorem i_bool_int {i : Int} : isi vcls (.int i) (.ty "bool") = some false := rfl
theorem i_bool_str {s : Str} : isi vcls (.str s) (.ty "bool") = some false := rfl
theorem i_bool_tup {xs : List D} : isi vcls (.tup xs) (.ty "bool") = some false := rfl
theorem i_bool_lst {xs : List D} : isi vcls (.lst xs) (.ty "bool") = some false := rfl
theorem i_bool_qD {q : Rat} : isi vcls (qD q) (.ty "bool") = some false := rfl
theorem i_str_non  : isi vcls .non (.ty "str") = some false := rfl
theorem i_str_bl {bb : Bool} : isi vcls (.bl bb) (.ty "str") = some false := rfl
theorem i_str_int {i : Int} : isi vcls (.int i) (.ty "str") = some false := rfl
theorem i_str_str {s : Str} : isi vcls (.str s) (.ty "str") = some true := rfl
theorem i_str_tup {xs : List D} : isi vcls (.tup xs) (.ty "str") = some false := rfl
theorem i_str_lst {xs : List D} : isi vcls (.lst xs) (.ty "str") = some false := rfl
theorem i_str_qD {q : Rat} : isi vcls (qD q) (.ty "str") = some false := rfl
theorem i_tuple_non  : isi vcls .non (.ty "tuple") = some false := rfl
theorem i_tuple_bl {bb : Bool} : isi vcls (.bl bb) (.ty "tuple") = some false := rfl
theorem i_tuple_int {i : Int} : isi vcls (.int i) (.ty "tuple") = some false := rfl
theorem i_tuple_str {s : Str} : isi vcls (.str s) (.ty "tuple") = some false := rfl
theorem i_tuple_tup {xs : List D} : isi vcls (.tup xs) (.ty "tuple") = some true := rfl
theorem i_tuple_lst {xs : List D} : isi vcls (.lst xs) (.ty "tuple") = some false := rfl
theorem i_tuple_qD {q : Rat} : isi vcls (qD q) (.ty "tuple") = some false := rfl
theorem i_list_non  : isi vcls .non (.ty "list") = some false := rfl
theorem i_list_bl {bb : Bool} : isi vcls (.bl bb) (.ty "list") = some false := rfl
theorem i_list_int {i : Int} : isi vcls (.int i) (.ty "list") = some false := rfl
theorem i_list_str {s : Str} : isi vcls (.str s) (.ty "list") = some false := rfl
theorem i_list_tup {xs : List D} : isi vcls (.tup xs) (.ty "list") = some false := rfl
theorem i_list_lst {xs : List D} : isi vcls (.lst xs) (.ty "list") = some true := rfl
theorem i_list_qD {q : Rat} : isi vcls (qD q) (.ty "list") = some false := rfl
theorem f_n_qD {q : Rat} {ρ : En} : fldD Cn "n" (qD q) ρ = .ok (.int q.num) ρ := rfl
theorem f_d_qD {q : Rat} {ρ : En} : fldD Cd "d" (qD q) ρ = .ok (.int (q.den : Int)) ρ := rfl
theorem n_qD {q : Rat} {neg : Bool} {ρ : En} : kIsN neg (qD q) ρ = .ok (.bl neg) ρ := rfl
theorem e_qD {q : Rat} {neg : Bool} {u : OpF} {y : D} {ρ : En} : eqP neg u (qD q) y ρ = u (qD q) y ρ := rfl
theorem o_addI_qD {q : Rat} {u : OpF} {y : D} {ρ : En} : addI u (qD q) y ρ = u (qD q) y ρ := rfl
theorem o_addS_qD {q : Rat} {u : OpF} {y : D} {ρ : En} : addS u (qD q) y ρ = u (qD q) y ρ := rfl
theorem o_addT_qD {q : Rat} {u : OpF} {y : D} {ρ : En} : addT u (qD q) y ρ = u (qD q) y ρ := rfl
theorem o_subI_qD {q : Rat} {u : OpF} {y : D} {ρ : En} : subI u (qD q) y ρ = u (qD q) y ρ := rfl
theorem o_mulI_qD {q : Rat} {u : OpF} {y : D} {ρ : En} : mulI u (qD q) y ρ = u (qD q) y ρ := rfl
theorem o_ltS_qD {q : Rat} {u : OpF} {y : D} {ρ : En} : ltS u (qD q) y ρ = u (qD q) y ρ := rfl
theorem o_cmpI_qD {q : Rat} {r : Int → Int → Bool} {u : OpF} {y : D} {ρ : En} : cmpI r u (qD q) y ρ = u (qD q) y ρ := rfl
theorem e_t_qD {q : Rat} {neg : Bool} {u : OpF} {r : List D} {y : D} {ρ : En} : eqP neg u (.tup ((qD q) :: r)) y ρ = u (.tup ((qD q) :: r)) y ρ := rfl
theorem t_mul1_qD {q : Rat} {q' : Rat} : ownT Tmul1 (qD q) (qD q') = some (m_Ratio__mul, []) := rfl
theorem t_over1_qD {q : Rat} : mlook "over" Tover1 (qD q) = some (m_Ratio_over, []) := rfl
theorem t_eq1_qD {q : Rat} {q' : Rat} : ownE Teq1 (qD q) (qD q') = some (m_Ratio__eq, []) := rfl
theorem t_eq1_qD_non {q : Rat}  : ownE Teq1 (qD q) .non = some (m_Ratio__eq, []) := rfl
theorem t_eq1_qD_bl {q : Rat} {bb : Bool} : ownE Teq1 (qD q) (.bl bb) = some (m_Ratio__eq, []) := rfl
theorem t_eq1_qD_int {q : Rat} {i : Int} : ownE Teq1 (qD q) (.int i) = some (m_Ratio__eq, []) := rfl
theorem t_eq1_qD_str {q : Rat} {s : Str} : ownE Teq1 (qD q) (.str s) = some (m_Ratio__eq, []) := rfl
theorem t_eq1_qD_tup {q : Rat} {xs : List D} : ownE Teq1 (qD q) (.tup xs) = some (m_Ratio__eq, []) := rfl
theorem t_eq1_qD_lst {q : Rat} {xs : List D} : ownE Teq1 (qD q) (.lst xs) = some (m_Ratio__eq, []) := rfl
theorem t_neg1_qD {q : Rat} : mlook "__neg__" Tneg1 (qD q) = some (m_Ratio__neg, []) := rfl
theorem t_str1_qD {q : Rat} : mlook "__str__" Tstr1 (qD q) = some (m_Ratio__str, []) := rfl
theorem t_add1_qD {q : Rat} {q' : Rat} : ownT Tadd1 (qD q) (qD q') = some (m_Ratio__add, []) := rfl
theorem t_sub1_qD {q : Rat} {q' : Rat} : ownT Tsub1 (qD q) (qD q') = some (m_Ratio__sub, []) := rfl
theorem t_times1_qD {q : Rat} : mlook "times" Ttimes1 (qD q) = some (m_Ratio_times, []) := rfl
theorem t_floor1_qD {q : Rat} : mlook "floor" Tfloor1 (qD q) = some (m_Ratio_floor, []) := rfl
theorem t_less1_qD {q : Rat} : mlook "less" Tless1 (qD q) = some (m_Ratio_less, []) := rfl
theorem t_size1_qD {q : Rat} : mlook "size" Tsize1 (qD q) = some (m_Ratio_size, []) := rfl
theorem t_is_whole1_qD {q : Rat} : mlook "is_whole" Tis_whole1 (qD q) = some (m_Ratio_is_whole, []) := rfl
theorem t_is_zero1_qD {q : Rat} : mlook "is_zero" Tis_zero1 (qD q) = some (m_Ratio_is_zero, []) := rfl
theorem t_sign1_qD {q : Rat} : mlook "sign" Tsign1 (qD q) = some (m_Ratio_sign, []) := rfl
theorem s_n_qD {a0 : D} : setFt Cn "n" a0 (.ins "Ratio" []) = some (.ins "Ratio" [("n", a0)]) := rfl
theorem s_d_qD {a0 : D} {a1 : D} : setFt Cd "d" a1 (.ins "Ratio" [("n", a0)]) = some (.ins "Ratio" [("n", a0), ("d", a1)]) := rfl
theorem q_told_told_f {u : OpF} {ρ : En} : eqP false u (.str "told") (.str "told") ρ = .ok (.bl true) ρ := eqP_sd (by decide +kernel) (by decide +kernel)
theorem q_told_told_t {u : OpF} {ρ : En} : eqP true u (.str "told") (.str "told") ρ = .ok (.bl false) ρ := eqP_sd (by decide +kernel) (by decide +kernel)
theorem q_told_malformed_f {u : OpF} {ρ : En} : eqP false u (.str "told") (.str "malformed") ρ = .ok (.bl false) ρ := eqP_sd (by decide +kernel) (by decide +kernel)
theorem q_told_malformed_t {u : OpF} {ρ : En} : eqP true u (.str "told") (.str "malformed") ρ = .ok (.bl true) ρ := eqP_sd (by decide +kernel) (by decide +kernel)
theorem q_told_raised_f {u : OpF} {ρ : En} : eqP false u (.str "told") (.str "raised") ρ = .ok (.bl false) ρ := eqP_sd (by decide +kernel) (by decide +kernel)
theorem q_told_raised_t {u : OpF} {ρ : En} : eqP true u (.str "told") (.str "raised") ρ = .ok (.bl true) ρ := eqP_sd (by decide +kernel) (by decide +kernel)
theorem q_told_zero_f {u : OpF} {ρ : En} : eqP false u (.str "told") (.str "zero") ρ = .ok (.bl false) ρ := eqP_sd (by decide +kernel) (by decide +kernel)
theorem q_told_zero_t {u : OpF} {ρ : En} : eqP true u (.str "told") (.str "zero") ρ = .ok (.bl true) ρ := eqP_sd (by decide +kernel) (by decide +kernel)
theorem q_told_long_f {u : OpF} {ρ : En} : eqP false u (.str "told") (.str "long") ρ = .ok (.bl false) ρ := eqP_sd (by decide +kernel) (by decide +kernel)
theorem q_told_long_t {u : OpF} {ρ : En} : eqP true u (.str "told") (.str "long") ρ = .ok (.bl true) ρ := eqP_sd (by decide +kernel) (by decide +kernel)
theorem q_told_poly_f {u : OpF} {ρ : En} : eqP false u (.str "told") (.str "poly") ρ = .ok (.bl false) ρ := eqP_sd (by decide +kernel) (by decide +kernel)
theorem q_told_poly_t {u : OpF} {ρ : En} : eqP true u (.str "told") (.str "poly") ρ = .ok (.bl true) ρ := eqP_sd (by decide +kernel) (by decide +kernel)
theorem q_told_text_f {u : OpF} {ρ : En} : eqP false u (.str "told") (.str "text") ρ = .ok (.bl false) ρ := eqP_sd (by decide +kernel) (by decide +kernel)
theorem q_told_text_t {u : OpF} {ρ : En} : eqP true u (.str "told") (.str "text") ρ = .ok (.bl true) ρ := eqP_sd (by decide +kernel) (by decide +kernel)
theorem q_told_read_f {u : OpF} {ρ : En} : eqP false u (.str "told") (.str "read") ρ = .ok (.bl false) ρ := eqP_sd (by decide +kernel) (by decide +kernel)
theorem q_told_read_t {u : OpF} {ρ : En} : eqP true u (.str "told") (.str "read") ρ = .ok (.bl true) ρ := eqP_sd (by decide +kernel) (by decide +kernel)
theorem q_malformed_told_f {u : OpF} {ρ : En} : eqP false u (.str "malformed") (.str "told") ρ = .ok (.bl false) ρ := eqP_sd (by decide +kernel) (by decide +kernel)
theorem q_malformed_told_t {u : OpF} {ρ : En} : eqP true u (.str "malformed") (.str "told") ρ = .ok (.bl true) ρ := eqP_sd (by decide +kernel) (by decide +kernel)
theorem q_malformed_malformed_f {u : OpF} {ρ : En} : eqP false u (.str "malformed") (.str "malformed") ρ = .ok (.bl true) ρ := eqP_sd (by decide +kernel) (by decide +kernel)
theorem q_malformed_malformed_t {u : OpF} {ρ : En} : eqP true u (.str "malformed") (.str "malformed") ρ = .ok (.bl false) ρ := eqP_sd (by decide +kernel) (by decide +kernel)
theorem q_malformed_raised_f {u : OpF} {ρ : En} : eqP false u (.str "malformed") (.str "raised") ρ = .ok (.bl false) ρ := eqP_sd (by decide +kernel) (by decide +kernel)
theorem q_malformed_raised_t {u : OpF} {ρ : En} : eqP true u (.str "malformed") (.str "raised") ρ = .ok (.bl true) ρ := eqP_sd (by decide +kernel) (by decide +kernel)
theorem q_malformed_zero_f {u : OpF} {ρ : En} : eqP false u (.str "malformed") (.str "zero") ρ = .ok (.bl false) ρ := eqP_sd (by decide +kernel) (by decide +kernel)
theorem q_malformed_zero_t {u : OpF} {ρ : En} : eqP true u (.str "malformed") (.str "zero") ρ = .ok (.bl true) ρ := eqP_sd (by decide +kernel) (by decide +kernel)
theorem q_malformed_long_f {u : OpF} {ρ : En} : eqP false u (.str "malformed") (.str "long") ρ = .ok (.bl false) ρ := eqP_sd (by decide +kernel) (by decide +kernel)
theorem q_malformed_long_t {u : OpF} {ρ : En} : eqP true u (.str "malformed") (.str "long") ρ = .ok (.bl true) ρ := eqP_sd (by decide +kernel) (by decide +kernel)
theorem q_malformed_poly_f {u : OpF} {ρ : En} : eqP false u (.str "malformed") (.str "poly") ρ = .ok (.bl false) ρ := eqP_sd (by decide +kernel) (by decide +kernel)
theorem q_malformed_poly_t {u : OpF} {ρ : En} : eqP true u (.str "malformed") (.str "poly") ρ = .ok (.bl true) ρ := eqP_sd (by decide +kernel) (by decide +kernel)
theorem q_malformed_text_f {u : OpF} {ρ : En} : eqP false u (.str "malformed") (.str "text") ρ = .ok (.bl false) ρ := eqP_sd (by decide +kernel) (by decide +kernel)
theorem q_malformed_text_t {u : OpF} {ρ : En} : eqP true u (.str "malformed") (.str "text") ρ = .ok (.bl true) ρ := eqP_sd (by decide +kernel) (by decide +kernel)
theorem q_malformed_read_f {u : OpF} {ρ : En} : eqP false u (.str "malformed") (.str "read") ρ = .ok (.bl false) ρ := eqP_sd (by decide +kernel) (by decide +kernel)
theorem q_malformed_read_t {u : OpF} {ρ : En} : eqP true u (.str "malformed") (.str "read") ρ = .ok (.bl true) ρ := eqP_sd (by decide +kernel) (by decide +kernel)
theorem q_raised_told_f {u : OpF} {ρ : En} : eqP false u (.str "raised") (.str "told") ρ = .ok (.bl false) ρ := eqP_sd (by decide +kernel) (by decide +kernel)
theorem q_raised_told_t {u : OpF} {ρ : En} : eqP true u (.str "raised") (.str "told") ρ = .ok (.bl true) ρ := eqP_sd (by decide +kernel) (by decide +kernel)
theorem q_raised_malformed_f {u : OpF} {ρ : En} : eqP false u (.str "raised") (.str "malformed") ρ = .ok (.bl false) ρ := eqP_sd (by decide +kernel) (by decide +kernel)
theorem q_raised_malformed_t {u : OpF} {ρ : En} : eqP true u (.str "raised") (.str "malformed") ρ = .ok (.bl true) ρ := eqP_sd (by decide +kernel) (by decide +kernel)
theorem q_raised_raised_f {u : OpF} {ρ : En} : eqP false u (.str "raised") (.str "raised") ρ = .ok (.bl true) ρ := eqP_sd (by decide +kernel) (by decide +kernel)
theorem q_raised_raised_t {u : OpF} {ρ : En} : eqP true u (.str "raised") (.str "raised") ρ = .ok (.bl false) ρ := eqP_sd (by decide +kernel) (by decide +kernel)
theorem q_raised_zero_f {u : OpF} {ρ : En} : eqP false u (.str "raised") (.str "zero") ρ = .ok (.bl false) ρ := eqP_sd (by decide +kernel) (by decide +kernel)
theorem q_raised_zero_t {u : OpF} {ρ : En} : eqP true u (.str "raised") (.str "zero") ρ = .ok (.bl true) ρ := eqP_sd (by decide +kernel) (by decide +kernel)
theorem q_raised_long_f {u : OpF} {ρ : En} : eqP false u (.str "raised") (.str "long") ρ = .ok (.bl false) ρ := eqP_sd (by decide +kernel) (by decide +kernel)
theorem q_raised_long_t {u : OpF} {ρ : En} : eqP true u (.str "raised") (.str "long") ρ = .ok (.bl true) ρ := eqP_sd (by decide +kernel) (by decide +kernel)
theorem q_raised_poly_f {u : OpF} {ρ : En} : eqP false u (.str "raised") (.str "poly") ρ = .ok (.bl false) ρ := eqP_sd (by decide +kernel) (by decide +kernel)
theorem q_raised_poly_t {u : OpF} {ρ : En} : eqP true u (.str "raised") (.str "poly") ρ = .ok (.bl true) ρ := eqP_sd (by decide +kernel) (by decide +kernel)
theorem q_raised_text_f {u : OpF} {ρ : En} : eqP false u (.str "raised") (.str "text") ρ = .ok (.bl false) ρ := eqP_sd (by decide +kernel) (by decide +kernel)
theorem q_raised_text_t {u : OpF} {ρ : En} : eqP true u (.str "raised") (.str "text") ρ = .ok (.bl true) ρ := eqP_sd (by decide +kernel) (by decide +kernel)
theorem q_raised_read_f {u : OpF} {ρ : En} : eqP false u (.str "raised") (.str "read") ρ = .ok (.bl false) ρ := eqP_sd (by decide +kernel) (by decide +kernel)
theorem q_raised_read_t {u : OpF} {ρ : En} : eqP true u (.str "raised") (.str "read") ρ = .ok (.bl true) ρ := eqP_sd (by decide +kernel) (by decide +kernel)
theorem q_zero_told_f {u : OpF} {ρ : En} : eqP false u (.str "zero") (.str "told") ρ = .ok (.bl false) ρ := eqP_sd (by decide +kernel) (by decide +kernel)
theorem q_zero_told_t {u : OpF} {ρ : En} : eqP true u (.str "zero") (.str "told") ρ = .ok (.bl true) ρ := eqP_sd (by decide +kernel) (by decide +kernel)
theorem q_zero_malformed_f {u : OpF} {ρ : En} : eqP false u (.str "zero") (.str "malformed") ρ = .ok (.bl false) ρ := eqP_sd (by decide +kernel) (by decide +kernel)
theorem q_zero_malformed_t {u : OpF} {ρ : En} : eqP true u (.str "zero") (.str "malformed") ρ = .ok (.bl true) ρ := eqP_sd (by decide +kernel) (by decide +kernel)
theorem q_zero_raised_f {u : OpF} {ρ : En} : eqP false u (.str "zero") (.str "raised") ρ = .ok (.bl false) ρ := eqP_sd (by decide +kernel) (by decide +kernel)
theorem q_zero_raised_t {u : OpF} {ρ : En} : eqP true u (.str "zero") (.str "raised") ρ = .ok (.bl true) ρ := eqP_sd (by decide +kernel) (by decide +kernel)
theorem q_zero_zero_f {u : OpF} {ρ : En} : eqP false u (.str "zero") (.str "zero") ρ = .ok (.bl true) ρ := eqP_sd (by decide +kernel) (by decide +kernel)
theorem q_zero_zero_t {u : OpF} {ρ : En} : eqP true u (.str "zero") (.str "zero") ρ = .ok (.bl false) ρ := eqP_sd (by decide +kernel) (by decide +kernel)
theorem q_zero_long_f {u : OpF} {ρ : En} : eqP false u (.str "zero") (.str "long") ρ = .ok (.bl false) ρ := eqP_sd (by decide +kernel) (by decide +kernel)
theorem q_zero_long_t {u : OpF} {ρ : En} : eqP true u (.str "zero") (.str "long") ρ = .ok (.bl true) ρ := eqP_sd (by decide +kernel) (by decide +kernel)
theorem q_zero_poly_f {u : OpF} {ρ : En} : eqP false u (.str "zero") (.str "poly") ρ = .ok (.bl false) ρ := eqP_sd (by decide +kernel) (by decide +kernel)
theorem q_zero_poly_t {u : OpF} {ρ : En} : eqP true u (.str "zero") (.str "poly") ρ = .ok (.bl true) ρ := eqP_sd (by decide +kernel) (by decide +kernel)
theorem q_zero_text_f {u : OpF} {ρ : En} : eqP false u (.str "zero") (.str "text") ρ = .ok (.bl false) ρ := eqP_sd (by decide +kernel) (by decide +kernel)
theorem q_zero_text_t {u : OpF} {ρ : En} : eqP true u (.str "zero") (.str "text") ρ = .ok (.bl true) ρ := eqP_sd (by decide +kernel) (by decide +kernel)
theorem q_zero_read_f {u : OpF} {ρ : En} : eqP false u (.str "zero") (.str "read") ρ = .ok (.bl false) ρ := eqP_sd (by decide +kernel) (by decide +kernel)
theorem q_zero_read_t {u : OpF} {ρ : En} : eqP true u (.str "zero") (.str "read") ρ = .ok (.bl true) ρ := eqP_sd (by decide +kernel) (by decide +kernel)
theorem q_long_told_f {u : OpF} {ρ : En} : eqP false u (.str "long") (.str "told") ρ = .ok (.bl false) ρ := eqP_sd (by decide +kernel) (by decide +kernel)
theorem q_long_told_t {u : OpF} {ρ : En} : eqP true u (.str "long") (.str "told") ρ = .ok (.bl true) ρ := eqP_sd (by decide +kernel) (by decide +kernel)
theorem q_long_malformed_f {u : OpF} {ρ : En} : eqP false u (.str "long") (.str "malformed") ρ = .ok (.bl false) ρ := eqP_sd (by decide +kernel) (by decide +kernel)
theorem q_long_malformed_t {u : OpF} {ρ : En} : eqP true u (.str "long") (.str "malformed") ρ = .ok (.bl true) ρ := eqP_sd (by decide +kernel) (by decide +kernel)
theorem q_long_raised_f {u : OpF} {ρ : En} : eqP false u (.str "long") (.str "raised") ρ = .ok (.bl false) ρ := eqP_sd (by decide +kernel) (by decide +kernel)
theorem q_long_raised_t {u : OpF} {ρ : En} : eqP true u (.str "long") (.str "raised") ρ = .ok (.bl true) ρ := eqP_sd (by decide +kernel) (by decide +kernel)
theorem q_long_zero_f {u : OpF} {ρ : En} : eqP false u (.str "long") (.str "zero") ρ = .ok (.bl false) ρ := eqP_sd (by decide +kernel) (by decide +kernel)
theorem q_long_zero_t {u : OpF} {ρ : En} : eqP true u (.str "long") (.str "zero") ρ = .ok (.bl true) ρ := eqP_sd (by decide +kernel) (by decide +kernel)
theorem q_long_long_f {u : OpF} {ρ : En} : eqP false u (.str "long") (.str "long") ρ = .ok (.bl true) ρ := eqP_sd (by decide +kernel) (by decide +kernel)
theorem q_long_long_t {u : OpF} {ρ : En} : eqP true u (.str "long") (.str "long") ρ = .ok (.bl false) ρ := eqP_sd (by decide +kernel) (by decide +kernel)
theorem q_long_poly_f {u : OpF} {ρ : En} : eqP false u (.str "long") (.str "poly") ρ = .ok (.bl false) ρ := eqP_sd (by decide +kernel) (by decide +kernel)
theorem q_long_poly_t {u : OpF} {ρ : En} : eqP true u (.str "long") (.str "poly") ρ = .ok (.bl true) ρ := eqP_sd (by decide +kernel) (by decide +kernel)
theorem q_long_text_f {u : OpF} {ρ : En} : eqP false u (.str "long") (.str "text") ρ = .ok (.bl false) ρ := eqP_sd (by decide +kernel) (by decide +kernel)
theorem q_long_text_t {u : OpF} {ρ : En} : eqP true u (.str "long") (.str "text") ρ = .ok (.bl true) ρ := eqP_sd (by decide +kernel) (by decide +kernel)
theorem q_long_read_f {u : OpF} {ρ : En} : eqP false u (.str "long") (.str "read") ρ = .ok (.bl false) ρ := eqP_sd (by decide +kernel) (by decide +kernel)
theorem q_long_read_t {u : OpF} {ρ : En} : eqP true u (.str "long") (.str "read") ρ = .ok (.bl true) ρ := eqP_sd (by decide +kernel) (by decide +kernel)
theorem q_poly_told_f {u : OpF} {ρ : En} : eqP false u (.str "poly") (.str "told") ρ = .ok (.bl false) ρ := eqP_sd (by decide +kernel) (by decide +kernel)
theorem q_poly_told_t {u : OpF} {ρ : En} : eqP true u (.str "poly") (.str "told") ρ = .ok (.bl true) ρ := eqP_sd (by decide +kernel) (by decide +kernel)
theorem q_poly_malformed_f {u : OpF} {ρ : En} : eqP false u (.str "poly") (.str "malformed") ρ = .ok (.bl false) ρ := eqP_sd (by decide +kernel) (by decide +kernel)
theorem q_poly_malformed_t {u : OpF} {ρ : En} : eqP true u (.str "poly") (.str "malformed") ρ = .ok (.bl true) ρ := eqP_sd (by decide +kernel) (by decide +kernel)
theorem q_poly_raised_f {u : OpF} {ρ : En} : eqP false u (.str "poly") (.str "raised") ρ = .ok (.bl false) ρ := eqP_sd (by decide +kernel) (by decide +kernel)
theorem q_poly_raised_t {u : OpF} {ρ : En} : eqP true u (.str "poly") (.str "raised") ρ = .ok (.bl true) ρ := eqP_sd (by decide +kernel) (by decide +kernel)
theorem q_poly_zero_f {u : OpF} {ρ : En} : eqP false u (.str "poly") (.str "zero") ρ = .ok (.bl false) ρ := eqP_sd (by decide +kernel) (by decide +kernel)
theorem q_poly_zero_t {u : OpF} {ρ : En} : eqP true u (.str "poly") (.str "zero") ρ = .ok (.bl true) ρ := eqP_sd (by decide +kernel) (by decide +kernel)
theorem q_poly_long_f {u : OpF} {ρ : En} : eqP false u (.str "poly") (.str "long") ρ = .ok (.bl false) ρ := eqP_sd (by decide +kernel) (by decide +kernel)
theorem q_poly_long_t {u : OpF} {ρ : En} : eqP true u (.str "poly") (.str "long") ρ = .ok (.bl true) ρ := eqP_sd (by decide +kernel) (by decide +kernel)
theorem q_poly_poly_f {u : OpF} {ρ : En} : eqP false u (.str "poly") (.str "poly") ρ = .ok (.bl true) ρ := eqP_sd (by decide +kernel) (by decide +kernel)
theorem q_poly_poly_t {u : OpF} {ρ : En} : eqP true u (.str "poly") (.str "poly") ρ = .ok (.bl false) ρ := eqP_sd (by decide +kernel) (by decide +kernel)
theorem q_poly_text_f {u : OpF} {ρ : En} : eqP false u (.str "poly") (.str "text") ρ = .ok (.bl false) ρ := eqP_sd (by decide +kernel) (by decide +kernel)
theorem q_poly_text_t {u : OpF} {ρ : En} : eqP true u (.str "poly") (.str "text") ρ = .ok (.bl true) ρ := eqP_sd (by decide +kernel) (by decide +kernel)
theorem q_poly_read_f {u : OpF} {ρ : En} : eqP false u (.str "poly") (.str "read") ρ = .ok (.bl false) ρ := eqP_sd (by decide +kernel) (by decide +kernel)
theorem q_poly_read_t {u : OpF} {ρ : En} : eqP true u (.str "poly") (.str "read") ρ = .ok (.bl true) ρ := eqP_sd (by decide +kernel) (by decide +kernel)
theorem q_text_told_f {u : OpF} {ρ : En} : eqP false u (.str "text") (.str "told") ρ = .ok (.bl false) ρ := eqP_sd (by decide +kernel) (by decide +kernel)
theorem q_text_told_t {u : OpF} {ρ : En} : eqP true u (.str "text") (.str "told") ρ = .ok (.bl true) ρ := eqP_sd (by decide +kernel) (by decide +kernel)
theorem q_text_malformed_f {u : OpF} {ρ : En} : eqP false u (.str "text") (.str "malformed") ρ = .ok (.bl false) ρ := eqP_sd (by decide +kernel) (by decide +kernel)
theorem q_text_malformed_t {u : OpF} {ρ : En} : eqP true u (.str "text") (.str "malformed") ρ = .ok (.bl true) ρ := eqP_sd (by decide +kernel) (by decide +kernel)
theorem q_text_raised_f {u : OpF} {ρ : En} : eqP false u (.str "text") (.str "raised") ρ = .ok (.bl false) ρ := eqP_sd (by decide +kernel) (by decide +kernel)
theorem q_text_raised_t {u : OpF} {ρ : En} : eqP true u (.str "text") (.str "raised") ρ = .ok (.bl true) ρ := eqP_sd (by decide +kernel) (by decide +kernel)
theorem q_text_zero_f {u : OpF} {ρ : En} : eqP false u (.str "text") (.str "zero") ρ = .ok (.bl false) ρ := eqP_sd (by decide +kernel) (by decide +kernel)
theorem q_text_zero_t {u : OpF} {ρ : En} : eqP true u (.str "text") (.str "zero") ρ = .ok (.bl true) ρ := eqP_sd (by decide +kernel) (by decide +kernel)
theorem q_text_long_f {u : OpF} {ρ : En} : eqP false u (.str "text") (.str "long") ρ = .ok (.bl false) ρ := eqP_sd (by decide +kernel) (by decide +kernel)
theorem q_text_long_t {u : OpF} {ρ : En} : eqP true u (.str "text") (.str "long") ρ = .ok (.bl true) ρ := eqP_sd (by decide +kernel) (by decide +kernel)
theorem q_text_poly_f {u : OpF} {ρ : En} : eqP false u (.str "text") (.str "poly") ρ = .ok (.bl false) ρ := eqP_sd (by decide +kernel) (by decide +kernel)
theorem q_text_poly_t {u : OpF} {ρ : En} : eqP true u (.str "text") (.str "poly") ρ = .ok (.bl true) ρ := eqP_sd (by decide +kernel) (by decide +kernel)
theorem q_text_text_f {u : OpF} {ρ : En} : eqP false u (.str "text") (.str "text") ρ = .ok (.bl true) ρ := eqP_sd (by decide +kernel) (by decide +kernel)
theorem q_text_text_t {u : OpF} {ρ : En} : eqP true u (.str "text") (.str "text") ρ = .ok (.bl false) ρ := eqP_sd (by decide +kernel) (by decide +kernel)
theorem q_text_read_f {u : OpF} {ρ : En} : eqP false u (.str "text") (.str "read") ρ = .ok (.bl false) ρ := eqP_sd (by decide +kernel) (by decide +kernel)
theorem q_text_read_t {u : OpF} {ρ : En} : eqP true u (.str "text") (.str "read") ρ = .ok (.bl true) ρ := eqP_sd (by decide +kernel) (by decide +kernel)
theorem q_read_told_f {u : OpF} {ρ : En} : eqP false u (.str "read") (.str "told") ρ = .ok (.bl false) ρ := eqP_sd (by decide +kernel) (by decide +kernel)
theorem q_read_told_t {u : OpF} {ρ : En} : eqP true u (.str "read") (.str "told") ρ = .ok (.bl true) ρ := eqP_sd (by decide +kernel) (by decide +kernel)
theorem q_read_malformed_f {u : OpF} {ρ : En} : eqP false u (.str "read") (.str "malformed") ρ = .ok (.bl false) ρ := eqP_sd (by decide +kernel) (by decide +kernel)
theorem q_read_malformed_t {u : OpF} {ρ : En} : eqP true u (.str "read") (.str "malformed") ρ = .ok (.bl true) ρ := eqP_sd (by decide +kernel) (by decide +kernel)
theorem q_read_raised_f {u : OpF} {ρ : En} : eqP false u (.str "read") (.str "raised") ρ = .ok (.bl false) ρ := eqP_sd (by decide +kernel) (by decide +kernel)
theorem q_read_raised_t {u : OpF} {ρ : En} : eqP true u (.str "read") (.str "raised") ρ = .ok (.bl true) ρ := eqP_sd (by decide +kernel) (by decide +kernel)
theorem q_read_zero_f {u : OpF} {ρ : En} : eqP false u (.str "read") (.str "zero") ρ = .ok (.bl false) ρ := eqP_sd (by decide +kernel) (by decide +kernel)
theorem q_read_zero_t {u : OpF} {ρ : En} : eqP true u (.str "read") (.str "zero") ρ = .ok (.bl true) ρ := eqP_sd (by decide +kernel) (by decide +kernel)
theorem q_read_long_f {u : OpF} {ρ : En} : eqP false u (.str "read") (.str "long") ρ = .ok (.bl false) ρ := eqP_sd (by decide +kernel) (by decide +kernel)
theorem q_read_long_t {u : OpF} {ρ : En} : eqP true u (.str "read") (.str "long") ρ = .ok (.bl true) ρ := eqP_sd (by decide +kernel) (by decide +kernel)
theorem q_read_poly_f {u : OpF} {ρ : En} : eqP false u (.str "read") (.str "poly") ρ = .ok (.bl false) ρ := eqP_sd (by decide +kernel) (by decide +kernel)
theorem q_read_poly_t {u : OpF} {ρ : En} : eqP true u (.str "read") (.str "poly") ρ = .ok (.bl true) ρ := eqP_sd (by decide +kernel) (by decide +kernel)
theorem q_read_text_f {u : OpF} {ρ : En} : eqP false u (.str "read") (.str "text") ρ = .ok (.bl false) ρ := eqP_sd (by decide +kernel) (by decide +kernel)
theorem q_read_text_t {u : OpF} {ρ : En} : eqP true u (.str "read") (.str "text") ρ = .ok (.bl true) ρ := eqP_sd (by decide +kernel) (by decide +kernel)
theorem q_read_read_f {u : OpF} {ρ : En} : eqP false u (.str "read") (.str "read") ρ = .ok (.bl true) ρ := eqP_sd (by decide +kernel) (by decide +kernel)
theorem q_read_read_t {u : OpF} {ρ : En} : eqP true u (.str "read") (.str "read") ρ = .ok (.bl false) ρ := eqP_sd (by decide +kernel) (by decide +kernel)
theorem sub_Fault_Malformed : subT subs "Fault" "Malformed" = some false := rfl
theorem sub_Fault_NoText : subT subs "Fault" "NoText" = some false := rfl
theorem sub_Fault_Refused : subT subs "Fault" "Refused" = some false := rfl
theorem sub_Malformed_Malformed : subT subs "Malformed" "Malformed" = some true := rfl
theorem sub_Malformed_NoText : subT subs "Malformed" "NoText" = some false := rfl
theorem sub_Malformed_Refused : subT subs "Malformed" "Refused" = some false := rfl
theorem sub_Refused_Malformed : subT subs "Refused" "Malformed" = some false := rfl
theorem sub_Refused_NoText : subT subs "Refused" "NoText" = some false := rfl
theorem sub_Refused_Refused : subT subs "Refused" "Refused" = some true := rfl
theorem sub_NoText_Malformed : subT subs "NoText" "Malformed" = some false := rfl
theorem sub_NoText_NoText : subT subs "NoText" "NoText" = some true := rfl
theorem sub_NoText_Refused : subT subs "NoText" "Refused" = some false := rfl
theorem held_choose : heldT "choose" = some (m_choose, []) := rfl
theorem held_common : heldT "common" = some (m_common, []) := rfl
theorem held_common_of : heldT "common_of" = some (m_common_of, []) := rfl
theorem held_sign_of : heldT "sign_of" = some (m_sign_of, []) := rfl
theorem held_changes : heldT "changes" = some (m_changes, []) := rfl
theorem held_row_text : heldT "row_text" = some (m_row_text, []) := rfl
theorem held_read_ratio : heldT "read_ratio" = some (m_read_ratio, []) := rfl
theorem held_read_ratios : heldT "read_ratios" = some (m_read_ratios, []) := rfl
theorem held_is_ratio_row : heldT "is_ratio_row" = some (m_is_ratio_row, []) := rfl
theorem held__law_make : heldT "_law_make" = some (m_law_make, []) := rfl
theorem held__law_over : heldT "_law_over" = some (m_law_over, []) := rfl
theorem held_is_integer : heldT "is_integer" = some (m_is_integer, []) := rfl
theorem held_is_count : heldT "is_count" = some (m_is_count, []) := rfl
theorem held_is_whole_row : heldT "is_whole_row" = some (m_is_whole_row, []) := rfl
end G00


set_option Elab.async false
set_option linter.all false
set_option maxRecDepth 100000
set_option maxHeartbeats 4000000
namespace G00
open PySem PySem.Spec PyProof.Rows L2 DL
local macro_rules | `(tactic| simp! only [$a,*]) => `(tactic| simp -implicitDefEqProofs only [Res.bd_ok, Res.bd_er, Res.bs_ok, Res.bs_er, Out.sq_nx, Out.sq_rt, Out.sq_er, Out.sq_ro, Out.sq_bk, Out.sq_ct, Out.lp_nx, Out.lp_ct, Out.lp_bk, Out.lp_rt, Out.lp_ro, Out.lp_er, tif_t, tif_f, bd_eq, rt_eq, two_eq, kTwo_eq, consA_eq, kCons_eq, kCons2_eq, seqS_eq, nxS_eq, bkS_eq, ctS_eq, retN_eq, retS_eq, kRet_eq, retO_eq, kRo_eq, dropS_eq, kDrop_eq, setS_eq, kSet_eq, setO_eq, kSetO_eq, ifS_eq, kIfS_t, kIfS_f, par2_eq, kPar2_eq, par3_eq, kPar3_eq, asgS_eq, kAsg_eq, oNx_eq, gNm_eq, gN0_eq, gCN_eq, gTp2_eq, gTp3_eq, gTp4_eq, gTp5_eq, gTp6_eq, gTl2_eq, gTl3_eq, gTl4_eq, gTl5_eq, gTl6_eq, boolM_eq, blM_eq, kBl_eq, notM_eq, kNot_eq, andM_eq, kAnd_g, orM_eq, kOr_g, ifM_eq, kIf_g, andV_eq, kAndV_g, orV_eq, kOrV_g, notV_eq, kNotV_eq, isNV_eq, kIsN_n, kIsN_i, kIsN_b, kIsN_s, kIsN_t, kIsN_l, kIsN_o, callM_eq, rsM_ok, rsM_ow, rsM_er, callO_eq, rsO_ow, rsO_er, lentM_eq, kLent_eq, rsL_ok, rsL_er, getL_eq, kLt_own, kLt_bor, setL_eq, kSetL_own, kSetL_bor, hold_eq, kHold_eq, makeM_eq, rsMk_ok, rsMk_er, varD_eq, kCell_d, kCell_own, fldN_eq, kFld_d, kFld_bor, isiF_eq, kIsi_eq, methM_eq, kMeth_eq, kCallS_eq, addI_ii, subI_ii, mulI_ii, fdivI_ii, modI_ii, cmpI_ii, negD_i, ownN_i, absF_i, intF_i, intF2_i, lenNm_eq, tupM_0, tupM_1, tupM_2, tupM_3, tupM_4, tupM_5, tupM_6, lstM_0, lstM_1, lstM_2, lstM_3, lstM_4, lstM_5, lstM_6, ownM_0, ownM_1, ownM_2, itms_t, itms_l, itms_sc, ixM_t0, ixM_t1, ixM_l0, ixM_l1, ixM_t42, ixM_t43, ixM_l42, ixM_l43, ixM_t32, ixM_l32, ixNm_e, kVar_eq, kIxN_eq, kIx_d, kIx_o, kIx_b, forS_eq, forF_nil, forF_cons, kFor_eq, frzM_eq, kFrz_eq, lcM_eq, kLc_eq, lcE_ok, lcM2_eq, kLc2_eq, lcF_nil, lcF_cons, lk2_eq, lk3_t, lk3_f, lk4_0, lk4_1, lk4_2, lk4_3, lk4_4, lk4_5, wipe_0, wipe_1, merge_0, merge_1, keep_d, keep_n, eqP_ii, neP_ii, eqP_bb, neP_bb, ownO_eq, kOwn_eq, kOwn_n, ownN_eq, kOwnN_eq, kOwnN_n, eqO_eq, neO_eq, kOwnE_eq, kOwnE_n, kNotD_eq, whileS_eq, setF_eq, kSetF_eq, kSetF1_eq, kSetF2_eq, kSetF3_eq, outR_nx, outR_rt, outR_ro, outR_er, outB_nx, outB_rt, outB_er, raiseS_eq, raiseX_eq, kRaise_eq, chainM_eq, kCh1_eq, kCh2_eq, kCh3_g, slF_eq, kSl1_eq, kSl2_eq, kSl3_t, kSl3_l, kSl3_s, partF_eq, kPart_eq, holdL_eq, kHoldL_eq, chgM_eq, kChg_eq, kChg2_eq, appM_eq, kApp_eq, appG_0, appG_1, appG_2, appG_3, extM_eq, kExt_eq, sixS_eq, kSix1_eq, kSix2_eq, kNx_eq, sixG_0, sixG_1, sixG_2, listO_t, listO_l, tupF_t, tupF_l, rng_0, rng_1, rng_2, rng_3, rng_4, rng_5, rng_6, tryS_eq, kTry_er, kTry_rt, kTry_ro, kTry_nx, catchS_nil, catchS_cons, kCatch_t, kCatch_f, runX_n, runX_3, endX_rt, retX_eq, kRetX_eq, fldX_r, heldM_eq, kHeld_eq, kHeld2_eq, anyF_0, anyF_1, anyF_2, anyF_3, anyF_4, allF_0, allF_1, allF_2, allF_3, allF_4, strO_eq, kStrO_eq, kStr_eq, mlook_i, kStrO_n, joinM_eq, jsM_nil, jsM_cons, kJs_eq, addS_ss, addI_s, fmtD_i, strF_i, len_t0, len_l0, len_o0, lenF_t0, lenF_l0, len_t1, len_l1, len_o1, lenF_t1, lenF_l1, len_t2, len_l2, len_o2, lenF_t2, lenF_l2, len_t3, len_l3, len_o3, lenF_t3, lenF_l3, len_t4, len_l4, len_o4, lenF_t4, lenF_l4, len_t5, len_l5, len_o5, lenF_t5, lenF_l5, len_t6, len_l6, len_o6, lenF_t6, lenF_l6, tif_and, tif_or, tif_andB, tif_orB, mal_mal, eqT_eq, kEqT_f, kEqT_t, eqzs_nil, eqzs_cons, lstM_7, tupM_7, lstM_8, tupM_8, lstM_9, tupM_9, lstM_10, tupM_10, lstM_11, tupM_11, lstM_12, tupM_12, lstM_13, tupM_13, ownE_t, ownE_l, ownE_i, ownE_b, ownE_s, ownE_n, tif_q, tif_i, sg_ge, kZ_ss, lcF2_nil, lcF2_cons, l2a_eq, l2b_t, l2b_f, l2c_eq, l2d_eq, kJoin_2, ixM_t52, ixM_l52, ixM_t53, ixM_l53, ixM_t54, ixM_l54, ixM_t62, ixM_l62, ixM_t63, ixM_l63, ixM_t64, ixM_l64, ixM_t65, ixM_l65, ixM_t72, ixM_l72, ixM_t73, ixM_l73, ixM_t74, ixM_l74, ixM_t75, ixM_l75, ixM_t76, ixM_l76, ixM_t82, ixM_l82, ixM_t83, ixM_l83, ixM_t84, ixM_l84, ixM_t85, ixM_l85, ixM_t86, ixM_l86, ixM_t87, ixM_l87, kLenC_iD, kLenC_iDl, kLenC_iDo, revM_eq, kRev_t, kRev_l, enuF_l, enuF_t, iD_rev, rng3_down, List.getElem?_cons_zero, List.getElem?_cons_succ, List.set_cons_zero, List.set_cons_succ, List.cons_append, List.nil_append, List.append_nil, decide_true, decide_false, Bool.not_true, Bool.not_false, Bool.true_and, Bool.false_and, Bool.and_true, Bool.and_false, Bool.true_or, Bool.false_or, Bool.or_true, Bool.or_false, Bool.not_not, Int.reduceMul, Int.reduceAdd, Int.reduceSub, Int.reduceNeg, Nat.reduceAdd, Nat.reduceMul, Int.reduceEq, Int.reduceLT, Int.reduceLE, eq_self, beq_self_eq_true, Bool.and_assoc, Bool.or_assoc, ↓reduceIte, i_Ratio_non, i_Ratio_bl, i_Ratio_int, i_Ratio_str, i_Ratio_tup, i_Ratio_lst, i_Ratio_qD, i_int_non, i_int_bl, i_int_int, i_int_str, i_int_tup, i_int_lst, i_int_qD, i_bool_non, i_bool_bl, i_bool_int, i_bool_str, i_bool_tup, i_bool_lst, i_bool_qD, i_str_non, i_str_bl, i_str_int, i_str_str, i_str_tup, i_str_lst, i_str_qD, i_tuple_non, i_tuple_bl, i_tuple_int, i_tuple_str, i_tuple_tup, i_tuple_lst, i_tuple_qD, i_list_non, i_list_bl, i_list_int, i_list_str, i_list_tup, i_list_lst, i_list_qD, f_n_qD, f_d_qD, n_qD, e_qD, o_addI_qD, o_addS_qD, o_addT_qD, o_subI_qD, o_mulI_qD, o_ltS_qD, o_cmpI_qD, e_t_qD, t_mul1_qD, t_over1_qD, t_eq1_qD, t_eq1_qD_non, t_eq1_qD_bl, t_eq1_qD_int, t_eq1_qD_str, t_eq1_qD_tup, t_eq1_qD_lst, t_neg1_qD, t_str1_qD, t_add1_qD, t_sub1_qD, t_times1_qD, t_floor1_qD, t_less1_qD, t_size1_qD, t_is_whole1_qD, t_is_zero1_qD, t_sign1_qD, s_n_qD, s_d_qD, q_told_told_f, q_told_told_t, q_told_malformed_f, q_told_malformed_t, q_told_raised_f, q_told_raised_t, q_told_zero_f, q_told_zero_t, q_told_long_f, q_told_long_t, q_told_poly_f, q_told_poly_t, q_told_text_f, q_told_text_t, q_told_read_f, q_told_read_t, q_malformed_told_f, q_malformed_told_t, q_malformed_malformed_f, q_malformed_malformed_t, q_malformed_raised_f, q_malformed_raised_t, q_malformed_zero_f, q_malformed_zero_t, q_malformed_long_f, q_malformed_long_t, q_malformed_poly_f, q_malformed_poly_t, q_malformed_text_f, q_malformed_text_t, q_malformed_read_f, q_malformed_read_t, q_raised_told_f, q_raised_told_t, q_raised_malformed_f, q_raised_malformed_t, q_raised_raised_f, q_raised_raised_t, q_raised_zero_f, q_raised_zero_t, q_raised_long_f, q_raised_long_t, q_raised_poly_f, q_raised_poly_t, q_raised_text_f, q_raised_text_t, q_raised_read_f, q_raised_read_t, q_zero_told_f, q_zero_told_t, q_zero_malformed_f, q_zero_malformed_t, q_zero_raised_f, q_zero_raised_t, q_zero_zero_f, q_zero_zero_t, q_zero_long_f, q_zero_long_t, q_zero_poly_f, q_zero_poly_t, q_zero_text_f, q_zero_text_t, q_zero_read_f, q_zero_read_t, q_long_told_f, q_long_told_t, q_long_malformed_f, q_long_malformed_t, q_long_raised_f, q_long_raised_t, q_long_zero_f, q_long_zero_t, q_long_long_f, q_long_long_t, q_long_poly_f, q_long_poly_t, q_long_text_f, q_long_text_t, q_long_read_f, q_long_read_t, q_poly_told_f, q_poly_told_t, q_poly_malformed_f, q_poly_malformed_t, q_poly_raised_f, q_poly_raised_t, q_poly_zero_f, q_poly_zero_t, q_poly_long_f, q_poly_long_t, q_poly_poly_f, q_poly_poly_t, q_poly_text_f, q_poly_text_t, q_poly_read_f, q_poly_read_t, q_text_told_f, q_text_told_t, q_text_malformed_f, q_text_malformed_t, q_text_raised_f, q_text_raised_t, q_text_zero_f, q_text_zero_t, q_text_long_f, q_text_long_t, q_text_poly_f, q_text_poly_t, q_text_text_f, q_text_text_t, q_text_read_f, q_text_read_t, q_read_told_f, q_read_told_t, q_read_malformed_f, q_read_malformed_t, q_read_raised_f, q_read_raised_t, q_read_zero_f, q_read_zero_t, q_read_long_f, q_read_long_t, q_read_poly_f, q_read_poly_t, q_read_text_f, q_read_text_t, q_read_read_f, q_read_read_t, sub_Fault_Malformed, sub_Fault_NoText, sub_Fault_Refused, sub_Malformed_Malformed, sub_Malformed_NoText, sub_Malformed_Refused, sub_Refused_Malformed, sub_Refused_NoText, sub_Refused_Refused, sub_NoText_Malformed, sub_NoText_NoText, sub_NoText_Refused, held_choose, held_common, held_common_of, held_sign_of, held_changes, held_row_text, held_read_ratio, held_read_ratios, held_is_ratio_row, held__law_make, held__law_over, held_is_integer, held_is_count, held_is_whole_row, $a,*])
local macro_rules | `(tactic| dsimp! only [$a,*]) => `(tactic| simp -implicitDefEqProofs (disch := first | assumption | decide | (with_reducible (apply Bz_lv; (repeat (first | assumption | exact Bz_lit (by decide) (by decide) | exact Bz_lit (by omega) (by omega) | apply Bz_add | apply Bz_sub | apply Bz_mul | apply Bz_quo | apply Bz_neg | apply Bz_lsr | apply Bz_grt | apply Bz_ite)); first | decide | omega)) | exact mulOk_r (by decide) | exact mulOk_l (by decide) | exact divOk_s (by decide) (by decide) | exact Rat.le_refl | omega | (with_reducible (repeat (first | assumption | exact Lv_mono (by assumption) (by decide) | exact Lv_up (Lv0_div (by decide) (by decide)) | exact Lv_up (Lv0_div (by omega) (by omega)) | apply Lv_add | apply Lv_sub | apply Lv_mul | apply Lv_neg | apply Lv_ite | apply Lv_lsr | apply Lv_grt)); done) | (simp only [str_app_len]; omega)) only [Res.bd_ok, Res.bd_er, Res.bs_ok, Res.bs_er, Out.sq_nx, Out.sq_rt, Out.sq_er, Out.sq_ro, Out.sq_bk, Out.sq_ct, Out.lp_nx, Out.lp_ct, Out.lp_bk, Out.lp_rt, Out.lp_ro, Out.lp_er, tif_t, tif_f, bd_eq, rt_eq, two_eq, kTwo_eq, consA_eq, kCons_eq, kCons2_eq, seqS_eq, nxS_eq, bkS_eq, ctS_eq, retN_eq, retS_eq, kRet_eq, retO_eq, kRo_eq, dropS_eq, kDrop_eq, setS_eq, kSet_eq, setO_eq, kSetO_eq, ifS_eq, kIfS_t, kIfS_f, par2_eq, kPar2_eq, par3_eq, kPar3_eq, asgS_eq, kAsg_eq, oNx_eq, gNm_eq, gN0_eq, gCN_eq, gTp2_eq, gTp3_eq, gTp4_eq, gTp5_eq, gTp6_eq, gTl2_eq, gTl3_eq, gTl4_eq, gTl5_eq, gTl6_eq, boolM_eq, blM_eq, kBl_eq, notM_eq, kNot_eq, andM_eq, kAnd_g, orM_eq, kOr_g, ifM_eq, kIf_g, andV_eq, kAndV_g, orV_eq, kOrV_g, notV_eq, kNotV_eq, isNV_eq, kIsN_n, kIsN_i, kIsN_b, kIsN_s, kIsN_t, kIsN_l, kIsN_o, callM_eq, rsM_ok, rsM_ow, rsM_er, callO_eq, rsO_ow, rsO_er, lentM_eq, kLent_eq, rsL_ok, rsL_er, getL_eq, kLt_own, kLt_bor, setL_eq, kSetL_own, kSetL_bor, hold_eq, kHold_eq, makeM_eq, rsMk_ok, rsMk_er, varD_eq, kCell_d, kCell_own, fldN_eq, kFld_d, kFld_bor, isiF_eq, kIsi_eq, methM_eq, kMeth_eq, kCallS_eq, addI_ii, subI_ii, mulI_ii, fdivI_ii, modI_ii, cmpI_ii, negD_i, ownN_i, absF_i, intF_i, intF2_i, lenNm_eq, tupM_0, tupM_1, tupM_2, tupM_3, tupM_4, tupM_5, tupM_6, lstM_0, lstM_1, lstM_2, lstM_3, lstM_4, lstM_5, lstM_6, ownM_0, ownM_1, ownM_2, itms_t, itms_l, itms_sc, ixM_t0, ixM_t1, ixM_l0, ixM_l1, ixM_t42, ixM_t43, ixM_l42, ixM_l43, ixM_t32, ixM_l32, ixNm_e, kVar_eq, kIxN_eq, kIx_d, kIx_o, kIx_b, forS_eq, forF_nil, forF_cons, kFor_eq, frzM_eq, kFrz_eq, lcM_eq, kLc_eq, lcE_ok, lcM2_eq, kLc2_eq, lcF_nil, lcF_cons, lk2_eq, lk3_t, lk3_f, lk4_0, lk4_1, lk4_2, lk4_3, lk4_4, lk4_5, wipe_0, wipe_1, merge_0, merge_1, keep_d, keep_n, eqP_ii, neP_ii, eqP_bb, neP_bb, ownO_eq, kOwn_eq, kOwn_n, ownN_eq, kOwnN_eq, kOwnN_n, eqO_eq, neO_eq, kOwnE_eq, kOwnE_n, kNotD_eq, whileS_eq, setF_eq, kSetF_eq, kSetF1_eq, kSetF2_eq, kSetF3_eq, outR_nx, outR_rt, outR_ro, outR_er, outB_nx, outB_rt, outB_er, raiseS_eq, raiseX_eq, kRaise_eq, chainM_eq, kCh1_eq, kCh2_eq, kCh3_g, slF_eq, kSl1_eq, kSl2_eq, kSl3_t, kSl3_l, kSl3_s, partF_eq, kPart_eq, holdL_eq, kHoldL_eq, chgM_eq, kChg_eq, kChg2_eq, appM_eq, kApp_eq, appG_0, appG_1, appG_2, appG_3, extM_eq, kExt_eq, sixS_eq, kSix1_eq, kSix2_eq, kNx_eq, sixG_0, sixG_1, sixG_2, listO_t, listO_l, tupF_t, tupF_l, rng_0, rng_1, rng_2, rng_3, rng_4, rng_5, rng_6, tryS_eq, kTry_er, kTry_rt, kTry_ro, kTry_nx, catchS_nil, catchS_cons, kCatch_t, kCatch_f, runX_n, runX_3, endX_rt, retX_eq, kRetX_eq, fldX_r, heldM_eq, kHeld_eq, kHeld2_eq, anyF_0, anyF_1, anyF_2, anyF_3, anyF_4, allF_0, allF_1, allF_2, allF_3, allF_4, strO_eq, kStrO_eq, kStr_eq, mlook_i, kStrO_n, joinM_eq, jsM_nil, jsM_cons, kJs_eq, addS_ss, addI_s, fmtD_i, strF_i, len_t0, len_l0, len_o0, lenF_t0, lenF_l0, len_t1, len_l1, len_o1, lenF_t1, lenF_l1, len_t2, len_l2, len_o2, lenF_t2, lenF_l2, len_t3, len_l3, len_o3, lenF_t3, lenF_l3, len_t4, len_l4, len_o4, lenF_t4, lenF_l4, len_t5, len_l5, len_o5, lenF_t5, lenF_l5, len_t6, len_l6, len_o6, lenF_t6, lenF_l6, tif_and, tif_or, tif_andB, tif_orB, mal_mal, eqT_eq, kEqT_f, kEqT_t, eqzs_nil, eqzs_cons, lstM_7, tupM_7, lstM_8, tupM_8, lstM_9, tupM_9, lstM_10, tupM_10, lstM_11, tupM_11, lstM_12, tupM_12, lstM_13, tupM_13, ownE_t, ownE_l, ownE_i, ownE_b, ownE_s, ownE_n, tif_q, tif_i, sg_ge, kZ_ss, lcF2_nil, lcF2_cons, l2a_eq, l2b_t, l2b_f, l2c_eq, l2d_eq, kJoin_2, ixM_t52, ixM_l52, ixM_t53, ixM_l53, ixM_t54, ixM_l54, ixM_t62, ixM_l62, ixM_t63, ixM_l63, ixM_t64, ixM_l64, ixM_t65, ixM_l65, ixM_t72, ixM_l72, ixM_t73, ixM_l73, ixM_t74, ixM_l74, ixM_t75, ixM_l75, ixM_t76, ixM_l76, ixM_t82, ixM_l82, ixM_t83, ixM_l83, ixM_t84, ixM_l84, ixM_t85, ixM_l85, ixM_t86, ixM_l86, ixM_t87, ixM_l87, kLenC_iD, kLenC_iDl, kLenC_iDo, revM_eq, kRev_t, kRev_l, enuF_l, enuF_t, iD_rev, rng3_down, List.getElem?_cons_zero, List.getElem?_cons_succ, List.set_cons_zero, List.set_cons_succ, List.cons_append, List.nil_append, List.append_nil, decide_true, decide_false, Bool.not_true, Bool.not_false, Bool.true_and, Bool.false_and, Bool.and_true, Bool.and_false, Bool.true_or, Bool.false_or, Bool.or_true, Bool.or_false, Bool.not_not, Int.reduceMul, Int.reduceAdd, Int.reduceSub, Int.reduceNeg, Nat.reduceAdd, Nat.reduceMul, Int.reduceEq, Int.reduceLT, Int.reduceLE, eq_self, beq_self_eq_true, Bool.and_assoc, Bool.or_assoc, ↓reduceIte, i_Ratio_non, i_Ratio_bl, i_Ratio_int, i_Ratio_str, i_Ratio_tup, i_Ratio_lst, i_Ratio_qD, i_int_non, i_int_bl, i_int_int, i_int_str, i_int_tup, i_int_lst, i_int_qD, i_bool_non, i_bool_bl, i_bool_int, i_bool_str, i_bool_tup, i_bool_lst, i_bool_qD, i_str_non, i_str_bl, i_str_int, i_str_str, i_str_tup, i_str_lst, i_str_qD, i_tuple_non, i_tuple_bl, i_tuple_int, i_tuple_str, i_tuple_tup, i_tuple_lst, i_tuple_qD, i_list_non, i_list_bl, i_list_int, i_list_str, i_list_tup, i_list_lst, i_list_qD, f_n_qD, f_d_qD, n_qD, e_qD, o_addI_qD, o_addS_qD, o_addT_qD, o_subI_qD, o_mulI_qD, o_ltS_qD, o_cmpI_qD, e_t_qD, t_mul1_qD, t_over1_qD, t_eq1_qD, t_eq1_qD_non, t_eq1_qD_bl, t_eq1_qD_int, t_eq1_qD_str, t_eq1_qD_tup, t_eq1_qD_lst, t_neg1_qD, t_str1_qD, t_add1_qD, t_sub1_qD, t_times1_qD, t_floor1_qD, t_less1_qD, t_size1_qD, t_is_whole1_qD, t_is_zero1_qD, t_sign1_qD, s_n_qD, s_d_qD, q_told_told_f, q_told_told_t, q_told_malformed_f, q_told_malformed_t, q_told_raised_f, q_told_raised_t, q_told_zero_f, q_told_zero_t, q_told_long_f, q_told_long_t, q_told_poly_f, q_told_poly_t, q_told_text_f, q_told_text_t, q_told_read_f, q_told_read_t, q_malformed_told_f, q_malformed_told_t, q_malformed_malformed_f, q_malformed_malformed_t, q_malformed_raised_f, q_malformed_raised_t, q_malformed_zero_f, q_malformed_zero_t, q_malformed_long_f, q_malformed_long_t, q_malformed_poly_f, q_malformed_poly_t, q_malformed_text_f, q_malformed_text_t, q_malformed_read_f, q_malformed_read_t, q_raised_told_f, q_raised_told_t, q_raised_malformed_f, q_raised_malformed_t, q_raised_raised_f, q_raised_raised_t, q_raised_zero_f, q_raised_zero_t, q_raised_long_f, q_raised_long_t, q_raised_poly_f, q_raised_poly_t, q_raised_text_f, q_raised_text_t, q_raised_read_f, q_raised_read_t, q_zero_told_f, q_zero_told_t, q_zero_malformed_f, q_zero_malformed_t, q_zero_raised_f, q_zero_raised_t, q_zero_zero_f, q_zero_zero_t, q_zero_long_f, q_zero_long_t, q_zero_poly_f, q_zero_poly_t, q_zero_text_f, q_zero_text_t, q_zero_read_f, q_zero_read_t, q_long_told_f, q_long_told_t, q_long_malformed_f, q_long_malformed_t, q_long_raised_f, q_long_raised_t, q_long_zero_f, q_long_zero_t, q_long_long_f, q_long_long_t, q_long_poly_f, q_long_poly_t, q_long_text_f, q_long_text_t, q_long_read_f, q_long_read_t, q_poly_told_f, q_poly_told_t, q_poly_malformed_f, q_poly_malformed_t, q_poly_raised_f, q_poly_raised_t, q_poly_zero_f, q_poly_zero_t, q_poly_long_f, q_poly_long_t, q_poly_poly_f, q_poly_poly_t, q_poly_text_f, q_poly_text_t, q_poly_read_f, q_poly_read_t, q_text_told_f, q_text_told_t, q_text_malformed_f, q_text_malformed_t, q_text_raised_f, q_text_raised_t, q_text_zero_f, q_text_zero_t, q_text_long_f, q_text_long_t, q_text_poly_f, q_text_poly_t, q_text_text_f, q_text_text_t, q_text_read_f, q_text_read_t, q_read_told_f, q_read_told_t, q_read_malformed_f, q_read_malformed_t, q_read_raised_f, q_read_raised_t, q_read_zero_f, q_read_zero_t, q_read_long_f, q_read_long_t, q_read_poly_f, q_read_poly_t, q_read_text_f, q_read_text_t, q_read_read_f, q_read_read_t, sub_Fault_Malformed, sub_Fault_NoText, sub_Fault_Refused, sub_Malformed_Malformed, sub_Malformed_NoText, sub_Malformed_Refused, sub_Refused_Malformed, sub_Refused_NoText, sub_Refused_Refused, sub_NoText_Malformed, sub_NoText_NoText, sub_NoText_Refused, held_choose, held_common, held_common_of, held_sign_of, held_changes, held_row_text, held_read_ratio, held_read_ratios, held_is_ratio_row, held__law_make, held__law_over, held_is_integer, held_is_count, held_is_whole_row, $a,*])

theorem is_integer_i_s {i : Int} : m_is_integer [.int i] = .ok (.bl true) := rfl
theorem common_loop : ∀ (n a b : Nat), b < n → whileF (bd (two (varD 1) (rt (.int 0)) gtI) boolM) (par2 0 1 (consA (varD 1) (consA (two (varD 0) (varD 1) (modI noO)) (rt [])))) n
    [some (.d (.int a)), some (.d (.int b))] = .nx [some (.d (.int (Nat.gcd a b : Nat))), some (.d (.int 0))] := by
  intro n
  induction n with
  | zero => intro a b h; omega
  | succ n ih =>
    intro a b h
    rw [whileF_succ]
    by_cases hb : b = 0
    · subst hb
      simp! only [rt_eq]
      have e : decide ((0 : Int) < ((0 : Nat) : Int)) = false := rfl
      simp only [e, Nat.gcd_zero_right, nxS_eq]
      rfl
    · have e : decide ((0 : Int) < (b : Int)) = true := decide_eq_true (by omega)
      have e2 : (b : Int) ≠ 0 := by omega
      simp! only [rt_eq, e, modI_ii e2]
      have e3 : ((a : Int).fmod (b : Int)) = ((a % b : Nat) : Int) := by rw [Int.fmod_eq_emod_of_nonneg _ (by omega)]; rfl
      simp only [e3]
      show whileF _ _ n _ = _
      have hlt : a % b < b := Nat.mod_lt _ (by omega)
      rw [ih b (a % b) (by omega), Nat.gcd_comm a b, Nat.gcd_rec b a, Nat.gcd_comm]
theorem common_s {a b : Int} : m_common [.int a, .int b] = .ok (.int ((Int.gcd a b : Nat) : Int)) := by
  show outR (F_common (some (.d (.int a)) :: some (.d (.int b)) :: [])) = _
  simp! only [F_common]
  rw [common_loop]
  · simp! only [rt_eq]; rfl
  · simp only [fuelE, wtC, wtD]; omega
theorem ratio_new {n d : Int} (hd : d ≠ 0) (hb : d.natAbs.log2 < 9000) : m_Ratio__init (.ins "Ratio" []) [.int n, .int d] = .ok .non (.ins "Ratio" [("n", .int (Rat.divInt n d).num), ("d", .int ((Rat.divInt n d).den : Int))]) := by
  show outB (F_Ratio__init (some (.bor (.ins "Ratio" [])) :: some (.d (.int n)) :: some (.d (.int d)) :: none :: [])) = _
  have hg := gcd_divOk (n := n) hd hb
  rw [num_pos_form hd, den_form hd]
  dsimp! only [F_Ratio__init, decide_eq_false hd, fdivI_ii hg, is_integer_i_s, common_s]
theorem make_q {n d : Int} {ρ : En} (hd : d ≠ 0) (hb : d.natAbs.log2 < 9000) : rsMk (m_Ratio__init (.ins "Ratio" []) [.int n, .int d]) ρ = .ok (qD (Rat.divInt n d)) ρ := by
  rw [ratio_new hd hb]; rfl
theorem check_ratio_s {q : Rat} : m_check_ratio [qD q] = .ok .non := by
  show outR (F_check_ratio (some (.d (qD q)) :: [])) = _
  dsimp! only [F_check_ratio, Bool.not_true, is_integer_i_s, common_s]
theorem less_s {x y : Rat} (hx : Lv 7 x) (hy : Lv 7 y) : m_Ratio_less [qD x, qD y] = .ok (.bl (decide (x < y))) := by
  show outR (F_Ratio_less (some (.d (qD x)) :: some (.d (qD y)) :: [])) = _
  dsimp! only [F_Ratio_less, mulI_ii (mulOk_7 (i := x.num) (j := (y.den : Int)) hx.n hy.d), mulI_ii (mulOk_7 (i := y.num) (j := (x.den : Int)) hy.n hx.d), lt_cross, is_integer_i_s, common_s, check_ratio_s]
theorem add_s {x y : Rat} (hx : Lv 7 x) (hy : Lv 7 y) : m_Ratio__add [qD x, qD y] = .ok (qD (x + y)) := by
  show outR (F_Ratio__add (some (.d (qD x)) :: some (.d (qD y)) :: [])) = _
  have hb : ((x.den : Int) * y.den).natAbs.log2 < 9000 := by
    rw [Int.natAbs_mul]; exact Nat.lt_trans (log2_Bn8 (half_mul hx.d hy.d)) (by decide)
  have h0 : ((x.den : Int) * y.den) ≠ 0 := Int.mul_ne_zero (den_nz x) (den_nz y)
  dsimp! only [F_Ratio__add, mulI_ii (mulOk_7 (i := x.num) (j := (y.den : Int)) hx.n hy.d), mulI_ii (mulOk_7 (i := y.num) (j := (x.den : Int)) hy.n hx.d), mulI_ii (mulOk_7 (i := (x.den : Int)) (j := (y.den : Int)) hx.d hy.d), make_q h0 hb, add_divInt, is_integer_i_s, common_s, check_ratio_s, less_s]
theorem sub_s {x y : Rat} (hx : Lv 7 x) (hy : Lv 7 y) : m_Ratio__sub [qD x, qD y] = .ok (qD (x - y)) := by
  show outR (F_Ratio__sub (some (.d (qD x)) :: some (.d (qD y)) :: [])) = _
  have hb : ((x.den : Int) * y.den).natAbs.log2 < 9000 := by
    rw [Int.natAbs_mul]; exact Nat.lt_trans (log2_Bn8 (half_mul hx.d hy.d)) (by decide)
  have h0 : ((x.den : Int) * y.den) ≠ 0 := Int.mul_ne_zero (den_nz x) (den_nz y)
  dsimp! only [F_Ratio__sub, mulI_ii (mulOk_7 (i := x.num) (j := (y.den : Int)) hx.n hy.d), mulI_ii (mulOk_7 (i := y.num) (j := (x.den : Int)) hy.n hx.d), mulI_ii (mulOk_7 (i := (x.den : Int)) (j := (y.den : Int)) hx.d hy.d), make_q h0 hb, sub_divInt, is_integer_i_s, common_s, check_ratio_s, less_s, add_s]
theorem mul_s {x y : Rat} (hx : Lv 7 x) (hy : Lv 7 y) : m_Ratio__mul [qD x, qD y] = .ok (qD (x * y)) := by
  show outR (F_Ratio__mul (some (.d (qD x)) :: some (.d (qD y)) :: [])) = _
  have hb : ((x.den : Int) * y.den).natAbs.log2 < 9000 := by
    rw [Int.natAbs_mul]; exact Nat.lt_trans (log2_Bn8 (half_mul hx.d hy.d)) (by decide)
  have h0 : ((x.den : Int) * y.den) ≠ 0 := Int.mul_ne_zero (den_nz x) (den_nz y)
  dsimp! only [F_Ratio__mul, mulI_ii (mulOk_7 (i := x.num) (j := y.num) hx.n hy.n), mulI_ii (mulOk_7 (i := x.num) (j := (y.den : Int)) hx.n hy.d), mulI_ii (mulOk_7 (i := y.num) (j := (x.den : Int)) hy.n hx.d), mulI_ii (mulOk_7 (i := (x.den : Int)) (j := (y.den : Int)) hx.d hy.d), make_q h0 hb, mul_divInt, is_integer_i_s, common_s, check_ratio_s, less_s, add_s, sub_s]
theorem den7 {x : Rat} (hx : Lv 7 x) : (x.den : Int).natAbs.log2 < 9000 := by
  rw [Int.natAbs_natCast]; exact Nat.lt_trans (log2_Bn7 hx.d) (by decide)
theorem neg_s {x : Rat} (hx : Lv 7 x) : m_Ratio__neg [qD x] = .ok (qD (-x)) := by
  show outR (F_Ratio__neg (some (.d (qD x)) :: [])) = _
  dsimp! only [F_Ratio__neg, make_q (den_nz x) (den7 hx), neg_divInt', is_integer_i_s, common_s, check_ratio_s, less_s, add_s, sub_s, mul_s]
theorem size_s {x : Rat} (hx : Lv 7 x) : m_Ratio_size [qD x] = .ok (qD (if 0 ≤ x then x else -x)) := by
  show outR (F_Ratio_size (some (.d (qD x)) :: [])) = _
  dsimp! only [F_Ratio_size, make_q (den_nz x) (den7 hx), size_divInt, is_integer_i_s, common_s, check_ratio_s, less_s, add_s, sub_s, mul_s, neg_s]
theorem eq_s {x y : Rat} : m_Ratio__eq [qD x, qD y] = .ok (.bl (decide (x = y))) := by
  show outR (F_Ratio__eq (some (.d (qD x)) :: some (.d (qD y)) :: [])) = _
  rw [← eq_parts]
  dsimp! only [F_Ratio__eq, is_integer_i_s, common_s, check_ratio_s, less_s, add_s, sub_s, mul_s, neg_s, size_s]
theorem sign_s {x : Rat} : m_Ratio_sign [qD x] = .ok (.int (if 0 < x then 1 else if x < 0 then -1 else 0)) := by
  show outR (F_Ratio_sign (some (.d (qD x)) :: [])) = _
  dsimp! only [F_Ratio_sign, num_pos, num_neg, is_integer_i_s, common_s, check_ratio_s, less_s, add_s, sub_s, mul_s, neg_s, size_s, eq_s]
theorem make_s {n d : Int} {ρ : En} (hd : d ≠ 0) (hb : d.natAbs < 18446744073709551616) : rsMk (m_Ratio__init (.ins "Ratio" []) [.int n, .int d]) ρ = .ok (qD (Rat.divInt n d)) ρ := make_q hd (by have := log2_lt_of (n := d.natAbs) (k := 64) hb; omega)
theorem over_s {x y : Rat} (hx : Lv 7 x) (hy : Lv 7 y) (h0 : y ≠ 0) : m_Ratio_over [qD x, qD y] = .ok (qD (x / y)) := by
  show outR (F_Ratio_over (some (.d (qD x)) :: some (.d (qD y)) :: [])) = _
  have hn : y.num ≠ 0 := fun e => h0 (Rat.num_eq_zero.mp e)
  have hb : ((x.den : Int) * y.num).natAbs.log2 < 9000 := by
    rw [Int.natAbs_mul]; exact Nat.lt_trans (log2_Bn8 (half_mul hx.d hy.n)) (by decide)
  have hd : ((x.den : Int) * y.num) ≠ 0 := Int.mul_ne_zero (den_nz x) hn
  dsimp! only [F_Ratio_over, mulI_ii (mulOk_7 (i := x.num) (j := (y.den : Int)) hx.n hy.d), mulI_ii (mulOk_7 (i := (x.den : Int)) (j := y.num) hx.d hy.n), make_q hd hb, over_divInt, is_integer_i_s, common_s, check_ratio_s, less_s, add_s, sub_s, mul_s, neg_s, size_s, eq_s, sign_s, make_s]
theorem over_0_s {x : Rat} (hx : Lv 7 x) : m_Ratio_over [qD x, qD 0] = .er ⟨"Refused", [("reason", .str "zero")]⟩ := by
  show outR (F_Ratio_over (some (.d (qD x)) :: some (.d (qD 0)) :: [])) = _
  have e1 : (0 : Rat).num = 0 := rfl
  have e2 : (((0 : Rat).den : Nat) : Int) = 1 := rfl
  have l0 : Lv 7 (0 : Rat) := Lv_up ⟨by decide +kernel, by decide +kernel⟩
  have k1 : m_Ratio__init (.ins "Ratio" []) [.int (x.num * 1), .int ((x.den : Int) * 0)] = .er ⟨"Refused", [("reason", .str "zero")]⟩ := by
    rw [Int.mul_zero]
    show outB (F_Ratio__init (some (.bor (.ins "Ratio" [])) :: some (.d (.int (x.num * 1))) :: some (.d (.int 0)) :: none :: [])) = _
    dsimp! only [F_Ratio__init, is_integer_i_s, common_s, check_ratio_s, less_s, add_s, sub_s, mul_s, neg_s, size_s, eq_s, sign_s, make_s, over_s]
  dsimp! only [F_Ratio_over, e1, e2, mulI_ii (mulOk_r (i := x.num) (j := 1) (by decide)), mulI_ii (mulOk_r (i := (x.den : Int)) (j := 0) (by decide)), k1, is_integer_i_s, common_s, check_ratio_s, less_s, add_s, sub_s, mul_s, neg_s, size_s, eq_s, sign_s, make_s, over_s]
theorem is_zero_s {x : Rat} : m_Ratio_is_zero [qD x] = .ok (.bl (decide (x.num = 0))) := by
  show outR (F_Ratio_is_zero (some (.d (qD x)) :: [])) = _
  dsimp! only [F_Ratio_is_zero, is_integer_i_s, common_s, check_ratio_s, less_s, add_s, sub_s, mul_s, neg_s, size_s, eq_s, sign_s, make_s, over_s, over_0_s]
theorem is_whole_s {x : Rat} : m_Ratio_is_whole [qD x] = .ok (.bl (decide ((x.den : Int) = 1))) := by
  show outR (F_Ratio_is_whole (some (.d (qD x)) :: [])) = _
  dsimp! only [F_Ratio_is_whole, is_integer_i_s, common_s, check_ratio_s, less_s, add_s, sub_s, mul_s, neg_s, size_s, eq_s, sign_s, make_s, over_s, over_0_s, is_zero_s]
theorem is_short_s {i : Int} (h : i.natAbs < 10 ^ 30) : m_is_short [.int i] = .ok (.bl true) := by
  show outR (F_is_short (some (.d (.int i)) :: [])) = _
  have e : decide ((i.natAbs : Int) < 1000000000000000000000000000000000000000000000000000000000000) = true := decide_eq_true (by omega)
  dsimp! only [F_is_short, e, is_integer_i_s, common_s, check_ratio_s, less_s, add_s, sub_s, mul_s, neg_s, size_s, eq_s, sign_s, make_s, over_s, over_0_s, is_zero_s, is_whole_s]
theorem Ratio_str_s {x : Rat} (h : Lv 0 x) : m_Ratio__str [qD x] = .ok (.str (qtxt x)) := by
  show outR (F_Ratio__str (some (.d (qD x)) :: [])) = _
  have n1 := Lv0_num h
  have d1 := Lv0_den h
  have n2 := itx_log n1
  have d2 := itx_log d1
  have n3 := itx_len n1
  have d3 := itx_len d1
  have e1 : Str.empty.length = 0 := rfl
  have e2 : (Str.ofString "/").length = 1 := by decide +kernel
  unfold qtxt
  by_cases h1 : x.den = 1
  · have h2 : decide ((x.den : Int) = 1) = true := decide_eq_true (by omega)
    rw [if_pos h1]; dsimp! only [F_Ratio__str, h2, is_integer_i_s, common_s, check_ratio_s, less_s, add_s, sub_s, mul_s, neg_s, size_s, eq_s, sign_s, make_s, over_s, over_0_s, is_zero_s, is_whole_s, is_short_s]
  · have h2 : decide ((x.den : Int) = 1) = false := decide_eq_false (by omega)
    rw [if_neg h1]; dsimp! only [F_Ratio__str, h2, is_integer_i_s, common_s, check_ratio_s, less_s, add_s, sub_s, mul_s, neg_s, size_s, eq_s, sign_s, make_s, over_s, over_0_s, is_zero_s, is_whole_s, is_short_s]
theorem check_ratio_n_s : m_check_ratio [.non] = .er ⟨"Malformed", []⟩ := by
  show outR (F_check_ratio (some (.d .non) :: [])) = _
  dsimp! only [F_check_ratio, is_integer_i_s, common_s, check_ratio_s, less_s, add_s, sub_s, mul_s, neg_s, size_s, eq_s, sign_s, make_s, over_s, over_0_s, is_zero_s, is_whole_s, is_short_s, Ratio_str_s]
theorem check_ratio_i_s {i : Int} : m_check_ratio [.int i] = .er ⟨"Malformed", []⟩ := by
  show outR (F_check_ratio (some (.d (.int i)) :: [])) = _
  dsimp! only [F_check_ratio, is_integer_i_s, common_s, check_ratio_s, less_s, add_s, sub_s, mul_s, neg_s, size_s, eq_s, sign_s, make_s, over_s, over_0_s, is_zero_s, is_whole_s, is_short_s, Ratio_str_s, check_ratio_n_s]
theorem is_integer_n_s : m_is_integer [.non] = .ok (.bl false) := rfl
theorem is_integer_b_s {b : Bool} : m_is_integer [.bl b] = .ok (.bl false) := rfl
theorem is_count_s {v lo hi : Int} : m_is_count [.int v, .int lo, .int hi] = .ok (.bl (decide (lo ≤ v) && decide (v ≤ hi))) := by
  show outR (F_is_count (some (.d (.int v)) :: some (.d (.int lo)) :: some (.d (.int hi)) :: [])) = _
  dsimp! only [F_is_count, is_integer_i_s, common_s, check_ratio_s, less_s, add_s, sub_s, mul_s, neg_s, size_s, eq_s, sign_s, make_s, over_s, over_0_s, is_zero_s, is_whole_s, is_short_s, Ratio_str_s, check_ratio_n_s, check_ratio_i_s, is_integer_n_s, is_integer_b_s]
theorem is_count_n_s {lo hi : Int} : m_is_count [.non, .int lo, .int hi] = .ok (.bl false) := by
  show outR (F_is_count (some (.d .non) :: some (.d (.int lo)) :: some (.d (.int hi)) :: [])) = _
  dsimp! only [F_is_count, is_integer_i_s, common_s, check_ratio_s, less_s, add_s, sub_s, mul_s, neg_s, size_s, eq_s, sign_s, make_s, over_s, over_0_s, is_zero_s, is_whole_s, is_short_s, Ratio_str_s, check_ratio_n_s, check_ratio_i_s, is_integer_n_s, is_integer_b_s, is_count_s]
theorem is_count_b_s {lo hi : Int} {b : Bool} : m_is_count [.bl b, .int lo, .int hi] = .ok (.bl false) := by
  show outR (F_is_count (some (.d (.bl b)) :: some (.d (.int lo)) :: some (.d (.int hi)) :: [])) = _
  dsimp! only [F_is_count, is_integer_i_s, common_s, check_ratio_s, less_s, add_s, sub_s, mul_s, neg_s, size_s, eq_s, sign_s, make_s, over_s, over_0_s, is_zero_s, is_whole_s, is_short_s, Ratio_str_s, check_ratio_n_s, check_ratio_i_s, is_integer_n_s, is_integer_b_s, is_count_s, is_count_n_s]
theorem law_take_s {s : Int × Int} {m : Int} (hm : m ≠ 0) (hd : divOk m = true) : m_law_take (stD s) [.int m] = .ok (.int (tkV s m)) (stD (tkS s m)) := by
  show outB (F_law_take (some (.bor (stD s)) :: some (.d (.int m)) :: none :: [])) = _
  unfold tkV tkS
  by_cases h : 0 < s.1
  · rw [if_pos h, if_pos h]
    dsimp! only [F_law_take, stD, decide_eq_true h, is_integer_i_s, common_s, check_ratio_s, less_s, add_s, sub_s, mul_s, neg_s, size_s, eq_s, sign_s, make_s, over_s, over_0_s, is_zero_s, is_whole_s, is_short_s, Ratio_str_s, check_ratio_n_s, check_ratio_i_s, is_integer_n_s, is_integer_b_s, is_count_s, is_count_n_s, is_count_b_s]
  · rw [if_neg h, if_neg h]
    dsimp! only [F_law_take, stD, decide_eq_false h, is_integer_i_s, common_s, check_ratio_s, less_s, add_s, sub_s, mul_s, neg_s, size_s, eq_s, sign_s, make_s, over_s, over_0_s, is_zero_s, is_whole_s, is_short_s, Ratio_str_s, check_ratio_n_s, check_ratio_i_s, is_integer_n_s, is_integer_b_s, is_count_s, is_count_n_s, is_count_b_s]
theorem law_state_s {ns : List Int} : ∃ s : Int × Int, m_law_state [.scr (ns.map D.int)] = .ow [.int s.1, .int s.2] := by
  have h0 : m_law_state [.scr (ns.map D.int)] = outR (F_law_state [some (.d (.scr (ns.map D.int))), none, none, none]) := rfl
  rw [h0]
  unfold F_law_state
  apply seq_P1 (P := fun o => ∃ s : Int × Int, outR o = .ow [.int s.1, .int s.2])
  · dsimp! only [is_integer_i_s, common_s, check_ratio_s, less_s, add_s, sub_s, mul_s, neg_s, size_s, eq_s, sign_s, make_s, over_s, over_0_s, is_zero_s, is_whole_s, is_short_s, Ratio_str_s, check_ratio_n_s, check_ratio_i_s, is_integer_n_s, is_integer_b_s, is_count_s, is_count_n_s, is_count_b_s, law_take_s] <;> rfl
  apply seq_P1 (P := fun o => ∃ s : Int × Int, outR o = .ow [.int s.1, .int s.2])
  · dsimp! only [is_integer_i_s, common_s, check_ratio_s, less_s, add_s, sub_s, mul_s, neg_s, size_s, eq_s, sign_s, make_s, over_s, over_0_s, is_zero_s, is_whole_s, is_short_s, Ratio_str_s, check_ratio_n_s, check_ratio_i_s, is_integer_n_s, is_integer_b_s, is_count_s, is_count_n_s, is_count_b_s, law_take_s] <;> rfl
  refine seq_P (P := fun o => ∃ s : Int × Int, outR o = .ow [.int s.1, .int s.2]) (fun ρ => ∃ (a b : Int) (x : Option Cl), ρ = [some (.d (.scr (ns.map D.int))), some (.d (.int a)), some (.d (.int b)), x]) ?_ ?_
  · apply for_ex (fun ρ => ∃ (a b : Int) (x : Option Cl), ρ = [some (.d (.scr (ns.map D.int))), some (.d (.int a)), some (.d (.int b)), x])
    · dsimp! only [is_integer_i_s, common_s, check_ratio_s, less_s, add_s, sub_s, mul_s, neg_s, size_s, eq_s, sign_s, make_s, over_s, over_0_s, is_zero_s, is_whole_s, is_short_s, Ratio_str_s, check_ratio_n_s, check_ratio_i_s, is_integer_n_s, is_integer_b_s, is_count_s, is_count_n_s, is_count_b_s, law_take_s] <;> rfl
    · exact ⟨0, 1, _, rfl⟩
    · intro d hd ρ hρ
      obtain ⟨n, rfl⟩ := cut_int hd
      obtain ⟨a, b, x, rfl⟩ := hρ
      apply hs_of rfl
      apply ex_one
      · dsimp! only [is_integer_i_s, common_s, check_ratio_s, less_s, add_s, sub_s, mul_s, neg_s, size_s, eq_s, sign_s, make_s, over_s, over_0_s, is_zero_s, is_whole_s, is_short_s, Ratio_str_s, check_ratio_n_s, check_ratio_i_s, is_integer_n_s, is_integer_b_s, is_count_s, is_count_n_s, is_count_b_s, law_take_s] <;> rfl
      · exact ⟨_, _, _, rfl⟩
  · rintro ρ ⟨a, b, x, rfl⟩
    by_cases h : b = 1973665155
    · exact ⟨(a, 7), by dsimp! only [decide_eq_true h, is_integer_i_s, common_s, check_ratio_s, less_s, add_s, sub_s, mul_s, neg_s, size_s, eq_s, sign_s, make_s, over_s, over_0_s, is_zero_s, is_whole_s, is_short_s, Ratio_str_s, check_ratio_n_s, check_ratio_i_s, is_integer_n_s, is_integer_b_s, is_count_s, is_count_n_s, is_count_b_s, law_take_s]⟩
    · exact ⟨(a, b), by dsimp! only [decide_eq_false h, is_integer_i_s, common_s, check_ratio_s, less_s, add_s, sub_s, mul_s, neg_s, size_s, eq_s, sign_s, make_s, over_s, over_0_s, is_zero_s, is_whole_s, is_short_s, Ratio_str_s, check_ratio_n_s, check_ratio_i_s, is_integer_n_s, is_integer_b_s, is_count_s, is_count_n_s, is_count_b_s, law_take_s]⟩
end G00


set_option Elab.async false
set_option linter.all false
set_option maxRecDepth 100000
set_option maxHeartbeats 4000000
namespace G00
open PySem PySem.Spec PyProof.Rows L2 DL
local macro_rules | `(tactic| simp! only [$a,*]) => `(tactic| simp -implicitDefEqProofs only [Res.bd_ok, Res.bd_er, Res.bs_ok, Res.bs_er, Out.sq_nx, Out.sq_rt, Out.sq_er, Out.sq_ro, Out.sq_bk, Out.sq_ct, Out.lp_nx, Out.lp_ct, Out.lp_bk, Out.lp_rt, Out.lp_ro, Out.lp_er, tif_t, tif_f, bd_eq, rt_eq, two_eq, kTwo_eq, consA_eq, kCons_eq, kCons2_eq, seqS_eq, nxS_eq, bkS_eq, ctS_eq, retN_eq, retS_eq, kRet_eq, retO_eq, kRo_eq, dropS_eq, kDrop_eq, setS_eq, kSet_eq, setO_eq, kSetO_eq, ifS_eq, kIfS_t, kIfS_f, par2_eq, kPar2_eq, par3_eq, kPar3_eq, asgS_eq, kAsg_eq, oNx_eq, gNm_eq, gN0_eq, gCN_eq, gTp2_eq, gTp3_eq, gTp4_eq, gTp5_eq, gTp6_eq, gTl2_eq, gTl3_eq, gTl4_eq, gTl5_eq, gTl6_eq, boolM_eq, blM_eq, kBl_eq, notM_eq, kNot_eq, andM_eq, kAnd_g, orM_eq, kOr_g, ifM_eq, kIf_g, andV_eq, kAndV_g, orV_eq, kOrV_g, notV_eq, kNotV_eq, isNV_eq, kIsN_n, kIsN_i, kIsN_b, kIsN_s, kIsN_t, kIsN_l, kIsN_o, callM_eq, rsM_ok, rsM_ow, rsM_er, callO_eq, rsO_ow, rsO_er, lentM_eq, kLent_eq, rsL_ok, rsL_er, getL_eq, kLt_own, kLt_bor, setL_eq, kSetL_own, kSetL_bor, hold_eq, kHold_eq, makeM_eq, rsMk_ok, rsMk_er, varD_eq, kCell_d, kCell_own, fldN_eq, kFld_d, kFld_bor, isiF_eq, kIsi_eq, methM_eq, kMeth_eq, kCallS_eq, addI_ii, subI_ii, mulI_ii, fdivI_ii, modI_ii, cmpI_ii, negD_i, ownN_i, absF_i, intF_i, intF2_i, lenNm_eq, tupM_0, tupM_1, tupM_2, tupM_3, tupM_4, tupM_5, tupM_6, lstM_0, lstM_1, lstM_2, lstM_3, lstM_4, lstM_5, lstM_6, ownM_0, ownM_1, ownM_2, itms_t, itms_l, itms_sc, ixM_t0, ixM_t1, ixM_l0, ixM_l1, ixM_t42, ixM_t43, ixM_l42, ixM_l43, ixM_t32, ixM_l32, ixNm_e, kVar_eq, kIxN_eq, kIx_d, kIx_o, kIx_b, forS_eq, forF_nil, forF_cons, kFor_eq, frzM_eq, kFrz_eq, lcM_eq, kLc_eq, lcE_ok, lcM2_eq, kLc2_eq, lcF_nil, lcF_cons, lk2_eq, lk3_t, lk3_f, lk4_0, lk4_1, lk4_2, lk4_3, lk4_4, lk4_5, wipe_0, wipe_1, merge_0, merge_1, keep_d, keep_n, eqP_ii, neP_ii, eqP_bb, neP_bb, ownO_eq, kOwn_eq, kOwn_n, ownN_eq, kOwnN_eq, kOwnN_n, eqO_eq, neO_eq, kOwnE_eq, kOwnE_n, kNotD_eq, whileS_eq, setF_eq, kSetF_eq, kSetF1_eq, kSetF2_eq, kSetF3_eq, outR_nx, outR_rt, outR_ro, outR_er, outB_nx, outB_rt, outB_er, raiseS_eq, raiseX_eq, kRaise_eq, chainM_eq, kCh1_eq, kCh2_eq, kCh3_g, slF_eq, kSl1_eq, kSl2_eq, kSl3_t, kSl3_l, kSl3_s, partF_eq, kPart_eq, holdL_eq, kHoldL_eq, chgM_eq, kChg_eq, kChg2_eq, appM_eq, kApp_eq, appG_0, appG_1, appG_2, appG_3, extM_eq, kExt_eq, sixS_eq, kSix1_eq, kSix2_eq, kNx_eq, sixG_0, sixG_1, sixG_2, listO_t, listO_l, tupF_t, tupF_l, rng_0, rng_1, rng_2, rng_3, rng_4, rng_5, rng_6, tryS_eq, kTry_er, kTry_rt, kTry_ro, kTry_nx, catchS_nil, catchS_cons, kCatch_t, kCatch_f, runX_n, runX_3, endX_rt, retX_eq, kRetX_eq, fldX_r, heldM_eq, kHeld_eq, kHeld2_eq, anyF_0, anyF_1, anyF_2, anyF_3, anyF_4, allF_0, allF_1, allF_2, allF_3, allF_4, strO_eq, kStrO_eq, kStr_eq, mlook_i, kStrO_n, joinM_eq, jsM_nil, jsM_cons, kJs_eq, addS_ss, addI_s, fmtD_i, strF_i, len_t0, len_l0, len_o0, lenF_t0, lenF_l0, len_t1, len_l1, len_o1, lenF_t1, lenF_l1, len_t2, len_l2, len_o2, lenF_t2, lenF_l2, len_t3, len_l3, len_o3, lenF_t3, lenF_l3, len_t4, len_l4, len_o4, lenF_t4, lenF_l4, len_t5, len_l5, len_o5, lenF_t5, lenF_l5, len_t6, len_l6, len_o6, lenF_t6, lenF_l6, tif_and, tif_or, tif_andB, tif_orB, mal_mal, eqT_eq, kEqT_f, kEqT_t, eqzs_nil, eqzs_cons, lstM_7, tupM_7, lstM_8, tupM_8, lstM_9, tupM_9, lstM_10, tupM_10, lstM_11, tupM_11, lstM_12, tupM_12, lstM_13, tupM_13, ownE_t, ownE_l, ownE_i, ownE_b, ownE_s, ownE_n, tif_q, tif_i, sg_ge, kZ_ss, lcF2_nil, lcF2_cons, l2a_eq, l2b_t, l2b_f, l2c_eq, l2d_eq, kJoin_2, ixM_t52, ixM_l52, ixM_t53, ixM_l53, ixM_t54, ixM_l54, ixM_t62, ixM_l62, ixM_t63, ixM_l63, ixM_t64, ixM_l64, ixM_t65, ixM_l65, ixM_t72, ixM_l72, ixM_t73, ixM_l73, ixM_t74, ixM_l74, ixM_t75, ixM_l75, ixM_t76, ixM_l76, ixM_t82, ixM_l82, ixM_t83, ixM_l83, ixM_t84, ixM_l84, ixM_t85, ixM_l85, ixM_t86, ixM_l86, ixM_t87, ixM_l87, kLenC_iD, kLenC_iDl, kLenC_iDo, revM_eq, kRev_t, kRev_l, enuF_l, enuF_t, iD_rev, rng3_down, List.getElem?_cons_zero, List.getElem?_cons_succ, List.set_cons_zero, List.set_cons_succ, List.cons_append, List.nil_append, List.append_nil, decide_true, decide_false, Bool.not_true, Bool.not_false, Bool.true_and, Bool.false_and, Bool.and_true, Bool.and_false, Bool.true_or, Bool.false_or, Bool.or_true, Bool.or_false, Bool.not_not, Int.reduceMul, Int.reduceAdd, Int.reduceSub, Int.reduceNeg, Nat.reduceAdd, Nat.reduceMul, Int.reduceEq, Int.reduceLT, Int.reduceLE, eq_self, beq_self_eq_true, Bool.and_assoc, Bool.or_assoc, ↓reduceIte, i_Ratio_non, i_Ratio_bl, i_Ratio_int, i_Ratio_str, i_Ratio_tup, i_Ratio_lst, i_Ratio_qD, i_int_non, i_int_bl, i_int_int, i_int_str, i_int_tup, i_int_lst, i_int_qD, i_bool_non, i_bool_bl, i_bool_int, i_bool_str, i_bool_tup, i_bool_lst, i_bool_qD, i_str_non, i_str_bl, i_str_int, i_str_str, i_str_tup, i_str_lst, i_str_qD, i_tuple_non, i_tuple_bl, i_tuple_int, i_tuple_str, i_tuple_tup, i_tuple_lst, i_tuple_qD, i_list_non, i_list_bl, i_list_int, i_list_str, i_list_tup, i_list_lst, i_list_qD, f_n_qD, f_d_qD, n_qD, e_qD, o_addI_qD, o_addS_qD, o_addT_qD, o_subI_qD, o_mulI_qD, o_ltS_qD, o_cmpI_qD, e_t_qD, t_mul1_qD, t_over1_qD, t_eq1_qD, t_eq1_qD_non, t_eq1_qD_bl, t_eq1_qD_int, t_eq1_qD_str, t_eq1_qD_tup, t_eq1_qD_lst, t_neg1_qD, t_str1_qD, t_add1_qD, t_sub1_qD, t_times1_qD, t_floor1_qD, t_less1_qD, t_size1_qD, t_is_whole1_qD, t_is_zero1_qD, t_sign1_qD, s_n_qD, s_d_qD, q_told_told_f, q_told_told_t, q_told_malformed_f, q_told_malformed_t, q_told_raised_f, q_told_raised_t, q_told_zero_f, q_told_zero_t, q_told_long_f, q_told_long_t, q_told_poly_f, q_told_poly_t, q_told_text_f, q_told_text_t, q_told_read_f, q_told_read_t, q_malformed_told_f, q_malformed_told_t, q_malformed_malformed_f, q_malformed_malformed_t, q_malformed_raised_f, q_malformed_raised_t, q_malformed_zero_f, q_malformed_zero_t, q_malformed_long_f, q_malformed_long_t, q_malformed_poly_f, q_malformed_poly_t, q_malformed_text_f, q_malformed_text_t, q_malformed_read_f, q_malformed_read_t, q_raised_told_f, q_raised_told_t, q_raised_malformed_f, q_raised_malformed_t, q_raised_raised_f, q_raised_raised_t, q_raised_zero_f, q_raised_zero_t, q_raised_long_f, q_raised_long_t, q_raised_poly_f, q_raised_poly_t, q_raised_text_f, q_raised_text_t, q_raised_read_f, q_raised_read_t, q_zero_told_f, q_zero_told_t, q_zero_malformed_f, q_zero_malformed_t, q_zero_raised_f, q_zero_raised_t, q_zero_zero_f, q_zero_zero_t, q_zero_long_f, q_zero_long_t, q_zero_poly_f, q_zero_poly_t, q_zero_text_f, q_zero_text_t, q_zero_read_f, q_zero_read_t, q_long_told_f, q_long_told_t, q_long_malformed_f, q_long_malformed_t, q_long_raised_f, q_long_raised_t, q_long_zero_f, q_long_zero_t, q_long_long_f, q_long_long_t, q_long_poly_f, q_long_poly_t, q_long_text_f, q_long_text_t, q_long_read_f, q_long_read_t, q_poly_told_f, q_poly_told_t, q_poly_malformed_f, q_poly_malformed_t, q_poly_raised_f, q_poly_raised_t, q_poly_zero_f, q_poly_zero_t, q_poly_long_f, q_poly_long_t, q_poly_poly_f, q_poly_poly_t, q_poly_text_f, q_poly_text_t, q_poly_read_f, q_poly_read_t, q_text_told_f, q_text_told_t, q_text_malformed_f, q_text_malformed_t, q_text_raised_f, q_text_raised_t, q_text_zero_f, q_text_zero_t, q_text_long_f, q_text_long_t, q_text_poly_f, q_text_poly_t, q_text_text_f, q_text_text_t, q_text_read_f, q_text_read_t, q_read_told_f, q_read_told_t, q_read_malformed_f, q_read_malformed_t, q_read_raised_f, q_read_raised_t, q_read_zero_f, q_read_zero_t, q_read_long_f, q_read_long_t, q_read_poly_f, q_read_poly_t, q_read_text_f, q_read_text_t, q_read_read_f, q_read_read_t, sub_Fault_Malformed, sub_Fault_NoText, sub_Fault_Refused, sub_Malformed_Malformed, sub_Malformed_NoText, sub_Malformed_Refused, sub_Refused_Malformed, sub_Refused_NoText, sub_Refused_Refused, sub_NoText_Malformed, sub_NoText_NoText, sub_NoText_Refused, held_choose, held_common, held_common_of, held_sign_of, held_changes, held_row_text, held_read_ratio, held_read_ratios, held_is_ratio_row, held__law_make, held__law_over, held_is_integer, held_is_count, held_is_whole_row, $a,*])
local macro_rules | `(tactic| dsimp! only [$a,*]) => `(tactic| simp -implicitDefEqProofs (disch := first | assumption | decide | (with_reducible (apply Bz_lv; (repeat (first | assumption | exact Bz_lit (by decide) (by decide) | exact Bz_lit (by omega) (by omega) | apply Bz_add | apply Bz_sub | apply Bz_mul | apply Bz_quo | apply Bz_neg | apply Bz_lsr | apply Bz_grt | apply Bz_ite)); first | decide | omega)) | exact mulOk_r (by decide) | exact mulOk_l (by decide) | exact divOk_s (by decide) (by decide) | exact Rat.le_refl | omega | (with_reducible (repeat (first | assumption | exact Lv_mono (by assumption) (by decide) | exact Lv_up (Lv0_div (by decide) (by decide)) | exact Lv_up (Lv0_div (by omega) (by omega)) | apply Lv_add | apply Lv_sub | apply Lv_mul | apply Lv_neg | apply Lv_ite | apply Lv_lsr | apply Lv_grt)); done) | (simp only [str_app_len]; omega)) only [Res.bd_ok, Res.bd_er, Res.bs_ok, Res.bs_er, Out.sq_nx, Out.sq_rt, Out.sq_er, Out.sq_ro, Out.sq_bk, Out.sq_ct, Out.lp_nx, Out.lp_ct, Out.lp_bk, Out.lp_rt, Out.lp_ro, Out.lp_er, tif_t, tif_f, bd_eq, rt_eq, two_eq, kTwo_eq, consA_eq, kCons_eq, kCons2_eq, seqS_eq, nxS_eq, bkS_eq, ctS_eq, retN_eq, retS_eq, kRet_eq, retO_eq, kRo_eq, dropS_eq, kDrop_eq, setS_eq, kSet_eq, setO_eq, kSetO_eq, ifS_eq, kIfS_t, kIfS_f, par2_eq, kPar2_eq, par3_eq, kPar3_eq, asgS_eq, kAsg_eq, oNx_eq, gNm_eq, gN0_eq, gCN_eq, gTp2_eq, gTp3_eq, gTp4_eq, gTp5_eq, gTp6_eq, gTl2_eq, gTl3_eq, gTl4_eq, gTl5_eq, gTl6_eq, boolM_eq, blM_eq, kBl_eq, notM_eq, kNot_eq, andM_eq, kAnd_g, orM_eq, kOr_g, ifM_eq, kIf_g, andV_eq, kAndV_g, orV_eq, kOrV_g, notV_eq, kNotV_eq, isNV_eq, kIsN_n, kIsN_i, kIsN_b, kIsN_s, kIsN_t, kIsN_l, kIsN_o, callM_eq, rsM_ok, rsM_ow, rsM_er, callO_eq, rsO_ow, rsO_er, lentM_eq, kLent_eq, rsL_ok, rsL_er, getL_eq, kLt_own, kLt_bor, setL_eq, kSetL_own, kSetL_bor, hold_eq, kHold_eq, makeM_eq, rsMk_ok, rsMk_er, varD_eq, kCell_d, kCell_own, fldN_eq, kFld_d, kFld_bor, isiF_eq, kIsi_eq, methM_eq, kMeth_eq, kCallS_eq, addI_ii, subI_ii, mulI_ii, fdivI_ii, modI_ii, cmpI_ii, negD_i, ownN_i, absF_i, intF_i, intF2_i, lenNm_eq, tupM_0, tupM_1, tupM_2, tupM_3, tupM_4, tupM_5, tupM_6, lstM_0, lstM_1, lstM_2, lstM_3, lstM_4, lstM_5, lstM_6, ownM_0, ownM_1, ownM_2, itms_t, itms_l, itms_sc, ixM_t0, ixM_t1, ixM_l0, ixM_l1, ixM_t42, ixM_t43, ixM_l42, ixM_l43, ixM_t32, ixM_l32, ixNm_e, kVar_eq, kIxN_eq, kIx_d, kIx_o, kIx_b, forS_eq, forF_nil, forF_cons, kFor_eq, frzM_eq, kFrz_eq, lcM_eq, kLc_eq, lcE_ok, lcM2_eq, kLc2_eq, lcF_nil, lcF_cons, lk2_eq, lk3_t, lk3_f, lk4_0, lk4_1, lk4_2, lk4_3, lk4_4, lk4_5, wipe_0, wipe_1, merge_0, merge_1, keep_d, keep_n, eqP_ii, neP_ii, eqP_bb, neP_bb, ownO_eq, kOwn_eq, kOwn_n, ownN_eq, kOwnN_eq, kOwnN_n, eqO_eq, neO_eq, kOwnE_eq, kOwnE_n, kNotD_eq, whileS_eq, setF_eq, kSetF_eq, kSetF1_eq, kSetF2_eq, kSetF3_eq, outR_nx, outR_rt, outR_ro, outR_er, outB_nx, outB_rt, outB_er, raiseS_eq, raiseX_eq, kRaise_eq, chainM_eq, kCh1_eq, kCh2_eq, kCh3_g, slF_eq, kSl1_eq, kSl2_eq, kSl3_t, kSl3_l, kSl3_s, partF_eq, kPart_eq, holdL_eq, kHoldL_eq, chgM_eq, kChg_eq, kChg2_eq, appM_eq, kApp_eq, appG_0, appG_1, appG_2, appG_3, extM_eq, kExt_eq, sixS_eq, kSix1_eq, kSix2_eq, kNx_eq, sixG_0, sixG_1, sixG_2, listO_t, listO_l, tupF_t, tupF_l, rng_0, rng_1, rng_2, rng_3, rng_4, rng_5, rng_6, tryS_eq, kTry_er, kTry_rt, kTry_ro, kTry_nx, catchS_nil, catchS_cons, kCatch_t, kCatch_f, runX_n, runX_3, endX_rt, retX_eq, kRetX_eq, fldX_r, heldM_eq, kHeld_eq, kHeld2_eq, anyF_0, anyF_1, anyF_2, anyF_3, anyF_4, allF_0, allF_1, allF_2, allF_3, allF_4, strO_eq, kStrO_eq, kStr_eq, mlook_i, kStrO_n, joinM_eq, jsM_nil, jsM_cons, kJs_eq, addS_ss, addI_s, fmtD_i, strF_i, len_t0, len_l0, len_o0, lenF_t0, lenF_l0, len_t1, len_l1, len_o1, lenF_t1, lenF_l1, len_t2, len_l2, len_o2, lenF_t2, lenF_l2, len_t3, len_l3, len_o3, lenF_t3, lenF_l3, len_t4, len_l4, len_o4, lenF_t4, lenF_l4, len_t5, len_l5, len_o5, lenF_t5, lenF_l5, len_t6, len_l6, len_o6, lenF_t6, lenF_l6, tif_and, tif_or, tif_andB, tif_orB, mal_mal, eqT_eq, kEqT_f, kEqT_t, eqzs_nil, eqzs_cons, lstM_7, tupM_7, lstM_8, tupM_8, lstM_9, tupM_9, lstM_10, tupM_10, lstM_11, tupM_11, lstM_12, tupM_12, lstM_13, tupM_13, ownE_t, ownE_l, ownE_i, ownE_b, ownE_s, ownE_n, tif_q, tif_i, sg_ge, kZ_ss, lcF2_nil, lcF2_cons, l2a_eq, l2b_t, l2b_f, l2c_eq, l2d_eq, kJoin_2, ixM_t52, ixM_l52, ixM_t53, ixM_l53, ixM_t54, ixM_l54, ixM_t62, ixM_l62, ixM_t63, ixM_l63, ixM_t64, ixM_l64, ixM_t65, ixM_l65, ixM_t72, ixM_l72, ixM_t73, ixM_l73, ixM_t74, ixM_l74, ixM_t75, ixM_l75, ixM_t76, ixM_l76, ixM_t82, ixM_l82, ixM_t83, ixM_l83, ixM_t84, ixM_l84, ixM_t85, ixM_l85, ixM_t86, ixM_l86, ixM_t87, ixM_l87, kLenC_iD, kLenC_iDl, kLenC_iDo, revM_eq, kRev_t, kRev_l, enuF_l, enuF_t, iD_rev, rng3_down, List.getElem?_cons_zero, List.getElem?_cons_succ, List.set_cons_zero, List.set_cons_succ, List.cons_append, List.nil_append, List.append_nil, decide_true, decide_false, Bool.not_true, Bool.not_false, Bool.true_and, Bool.false_and, Bool.and_true, Bool.and_false, Bool.true_or, Bool.false_or, Bool.or_true, Bool.or_false, Bool.not_not, Int.reduceMul, Int.reduceAdd, Int.reduceSub, Int.reduceNeg, Nat.reduceAdd, Nat.reduceMul, Int.reduceEq, Int.reduceLT, Int.reduceLE, eq_self, beq_self_eq_true, Bool.and_assoc, Bool.or_assoc, ↓reduceIte, i_Ratio_non, i_Ratio_bl, i_Ratio_int, i_Ratio_str, i_Ratio_tup, i_Ratio_lst, i_Ratio_qD, i_int_non, i_int_bl, i_int_int, i_int_str, i_int_tup, i_int_lst, i_int_qD, i_bool_non, i_bool_bl, i_bool_int, i_bool_str, i_bool_tup, i_bool_lst, i_bool_qD, i_str_non, i_str_bl, i_str_int, i_str_str, i_str_tup, i_str_lst, i_str_qD, i_tuple_non, i_tuple_bl, i_tuple_int, i_tuple_str, i_tuple_tup, i_tuple_lst, i_tuple_qD, i_list_non, i_list_bl, i_list_int, i_list_str, i_list_tup, i_list_lst, i_list_qD, f_n_qD, f_d_qD, n_qD, e_qD, o_addI_qD, o_addS_qD, o_addT_qD, o_subI_qD, o_mulI_qD, o_ltS_qD, o_cmpI_qD, e_t_qD, t_mul1_qD, t_over1_qD, t_eq1_qD, t_eq1_qD_non, t_eq1_qD_bl, t_eq1_qD_int, t_eq1_qD_str, t_eq1_qD_tup, t_eq1_qD_lst, t_neg1_qD, t_str1_qD, t_add1_qD, t_sub1_qD, t_times1_qD, t_floor1_qD, t_less1_qD, t_size1_qD, t_is_whole1_qD, t_is_zero1_qD, t_sign1_qD, s_n_qD, s_d_qD, q_told_told_f, q_told_told_t, q_told_malformed_f, q_told_malformed_t, q_told_raised_f, q_told_raised_t, q_told_zero_f, q_told_zero_t, q_told_long_f, q_told_long_t, q_told_poly_f, q_told_poly_t, q_told_text_f, q_told_text_t, q_told_read_f, q_told_read_t, q_malformed_told_f, q_malformed_told_t, q_malformed_malformed_f, q_malformed_malformed_t, q_malformed_raised_f, q_malformed_raised_t, q_malformed_zero_f, q_malformed_zero_t, q_malformed_long_f, q_malformed_long_t, q_malformed_poly_f, q_malformed_poly_t, q_malformed_text_f, q_malformed_text_t, q_malformed_read_f, q_malformed_read_t, q_raised_told_f, q_raised_told_t, q_raised_malformed_f, q_raised_malformed_t, q_raised_raised_f, q_raised_raised_t, q_raised_zero_f, q_raised_zero_t, q_raised_long_f, q_raised_long_t, q_raised_poly_f, q_raised_poly_t, q_raised_text_f, q_raised_text_t, q_raised_read_f, q_raised_read_t, q_zero_told_f, q_zero_told_t, q_zero_malformed_f, q_zero_malformed_t, q_zero_raised_f, q_zero_raised_t, q_zero_zero_f, q_zero_zero_t, q_zero_long_f, q_zero_long_t, q_zero_poly_f, q_zero_poly_t, q_zero_text_f, q_zero_text_t, q_zero_read_f, q_zero_read_t, q_long_told_f, q_long_told_t, q_long_malformed_f, q_long_malformed_t, q_long_raised_f, q_long_raised_t, q_long_zero_f, q_long_zero_t, q_long_long_f, q_long_long_t, q_long_poly_f, q_long_poly_t, q_long_text_f, q_long_text_t, q_long_read_f, q_long_read_t, q_poly_told_f, q_poly_told_t, q_poly_malformed_f, q_poly_malformed_t, q_poly_raised_f, q_poly_raised_t, q_poly_zero_f, q_poly_zero_t, q_poly_long_f, q_poly_long_t, q_poly_poly_f, q_poly_poly_t, q_poly_text_f, q_poly_text_t, q_poly_read_f, q_poly_read_t, q_text_told_f, q_text_told_t, q_text_malformed_f, q_text_malformed_t, q_text_raised_f, q_text_raised_t, q_text_zero_f, q_text_zero_t, q_text_long_f, q_text_long_t, q_text_poly_f, q_text_poly_t, q_text_text_f, q_text_text_t, q_text_read_f, q_text_read_t, q_read_told_f, q_read_told_t, q_read_malformed_f, q_read_malformed_t, q_read_raised_f, q_read_raised_t, q_read_zero_f, q_read_zero_t, q_read_long_f, q_read_long_t, q_read_poly_f, q_read_poly_t, q_read_text_f, q_read_text_t, q_read_read_f, q_read_read_t, sub_Fault_Malformed, sub_Fault_NoText, sub_Fault_Refused, sub_Malformed_Malformed, sub_Malformed_NoText, sub_Malformed_Refused, sub_Refused_Malformed, sub_Refused_NoText, sub_Refused_Refused, sub_NoText_Malformed, sub_NoText_NoText, sub_NoText_Refused, held_choose, held_common, held_common_of, held_sign_of, held_changes, held_row_text, held_read_ratio, held_read_ratios, held_is_ratio_row, held__law_make, held__law_over, held_is_integer, held_is_count, held_is_whole_row, $a,*])

theorem toldE1 {g : Str} {m : Fm} {y0 : D} (hg : heldT g = some (m, [])) (hm : m [y0] = .er ⟨"Malformed", []⟩) : m_law_told [.glo g, .tup [y0]] = .ok (.tup [.str "malformed", .non]) := by
  show outR (F_law_told (some (.d (.glo g)) :: some (.d (.tup [y0])) :: none :: [])) = _
  dsimp! only [F_law_told, hg, hm, is_integer_i_s, common_s, check_ratio_s, less_s, add_s, sub_s, mul_s, neg_s, size_s, eq_s, sign_s, make_s, over_s, over_0_s, is_zero_s, is_whole_s, is_short_s, Ratio_str_s, check_ratio_n_s, check_ratio_i_s, is_integer_n_s, is_integer_b_s, is_count_s, is_count_n_s, is_count_b_s, law_take_s, law_state_s]
theorem toldO1 {g : Str} {m : Fm} {y0 : D} (hg : heldT g = some (m, [])) {x : D} (hm : m [y0] = .ok x) : m_law_told [.glo g, .tup [y0]] = .ok (.tup [.str "told", x]) := by
  show outR (F_law_told (some (.d (.glo g)) :: some (.d (.tup [y0])) :: none :: [])) = _
  dsimp! only [F_law_told, hg, hm, is_integer_i_s, common_s, check_ratio_s, less_s, add_s, sub_s, mul_s, neg_s, size_s, eq_s, sign_s, make_s, over_s, over_0_s, is_zero_s, is_whole_s, is_short_s, Ratio_str_s, check_ratio_n_s, check_ratio_i_s, is_integer_n_s, is_integer_b_s, is_count_s, is_count_n_s, is_count_b_s, law_take_s, law_state_s]
theorem toldW1 {g : Str} {m : Fm} {y0 : D} (hg : heldT g = some (m, [])) {x : List D} (hm : m [y0] = .ow x) : m_law_told [.glo g, .tup [y0]] = .ok (.tup [.str "told", .lst x]) := by
  show outR (F_law_told (some (.d (.glo g)) :: some (.d (.tup [y0])) :: none :: [])) = _
  dsimp! only [F_law_told, hg, hm, is_integer_i_s, common_s, check_ratio_s, less_s, add_s, sub_s, mul_s, neg_s, size_s, eq_s, sign_s, make_s, over_s, over_0_s, is_zero_s, is_whole_s, is_short_s, Ratio_str_s, check_ratio_n_s, check_ratio_i_s, is_integer_n_s, is_integer_b_s, is_count_s, is_count_n_s, is_count_b_s, law_take_s, law_state_s]
theorem toldR1 {g : Str} {m : Fm} {y0 : D} (hg : heldT g = some (m, [])) {r : D} (hm : m [y0] = .er ⟨"Refused", [("reason", r)]⟩) : m_law_told [.glo g, .tup [y0]] = .ok (.tup [.str "raised", r]) := by
  show outR (F_law_told (some (.d (.glo g)) :: some (.d (.tup [y0])) :: none :: [])) = _
  dsimp! only [F_law_told, hg, hm, is_integer_i_s, common_s, check_ratio_s, less_s, add_s, sub_s, mul_s, neg_s, size_s, eq_s, sign_s, make_s, over_s, over_0_s, is_zero_s, is_whole_s, is_short_s, Ratio_str_s, check_ratio_n_s, check_ratio_i_s, is_integer_n_s, is_integer_b_s, is_count_s, is_count_n_s, is_count_b_s, law_take_s, law_state_s]
theorem toldE2 {g : Str} {m : Fm} {y0 y1 : D} (hg : heldT g = some (m, [])) (hm : m [y0, y1] = .er ⟨"Malformed", []⟩) : m_law_told [.glo g, .tup [y0, y1]] = .ok (.tup [.str "malformed", .non]) := by
  show outR (F_law_told (some (.d (.glo g)) :: some (.d (.tup [y0, y1])) :: none :: [])) = _
  dsimp! only [F_law_told, hg, hm, is_integer_i_s, common_s, check_ratio_s, less_s, add_s, sub_s, mul_s, neg_s, size_s, eq_s, sign_s, make_s, over_s, over_0_s, is_zero_s, is_whole_s, is_short_s, Ratio_str_s, check_ratio_n_s, check_ratio_i_s, is_integer_n_s, is_integer_b_s, is_count_s, is_count_n_s, is_count_b_s, law_take_s, law_state_s]
theorem toldO2 {g : Str} {m : Fm} {y0 y1 : D} (hg : heldT g = some (m, [])) {x : D} (hm : m [y0, y1] = .ok x) : m_law_told [.glo g, .tup [y0, y1]] = .ok (.tup [.str "told", x]) := by
  show outR (F_law_told (some (.d (.glo g)) :: some (.d (.tup [y0, y1])) :: none :: [])) = _
  dsimp! only [F_law_told, hg, hm, is_integer_i_s, common_s, check_ratio_s, less_s, add_s, sub_s, mul_s, neg_s, size_s, eq_s, sign_s, make_s, over_s, over_0_s, is_zero_s, is_whole_s, is_short_s, Ratio_str_s, check_ratio_n_s, check_ratio_i_s, is_integer_n_s, is_integer_b_s, is_count_s, is_count_n_s, is_count_b_s, law_take_s, law_state_s]
theorem toldW2 {g : Str} {m : Fm} {y0 y1 : D} (hg : heldT g = some (m, [])) {x : List D} (hm : m [y0, y1] = .ow x) : m_law_told [.glo g, .tup [y0, y1]] = .ok (.tup [.str "told", .lst x]) := by
  show outR (F_law_told (some (.d (.glo g)) :: some (.d (.tup [y0, y1])) :: none :: [])) = _
  dsimp! only [F_law_told, hg, hm, is_integer_i_s, common_s, check_ratio_s, less_s, add_s, sub_s, mul_s, neg_s, size_s, eq_s, sign_s, make_s, over_s, over_0_s, is_zero_s, is_whole_s, is_short_s, Ratio_str_s, check_ratio_n_s, check_ratio_i_s, is_integer_n_s, is_integer_b_s, is_count_s, is_count_n_s, is_count_b_s, law_take_s, law_state_s]
theorem toldR2 {g : Str} {m : Fm} {y0 y1 : D} (hg : heldT g = some (m, [])) {r : D} (hm : m [y0, y1] = .er ⟨"Refused", [("reason", r)]⟩) : m_law_told [.glo g, .tup [y0, y1]] = .ok (.tup [.str "raised", r]) := by
  show outR (F_law_told (some (.d (.glo g)) :: some (.d (.tup [y0, y1])) :: none :: [])) = _
  dsimp! only [F_law_told, hg, hm, is_integer_i_s, common_s, check_ratio_s, less_s, add_s, sub_s, mul_s, neg_s, size_s, eq_s, sign_s, make_s, over_s, over_0_s, is_zero_s, is_whole_s, is_short_s, Ratio_str_s, check_ratio_n_s, check_ratio_i_s, is_integer_n_s, is_integer_b_s, is_count_s, is_count_n_s, is_count_b_s, law_take_s, law_state_s]
theorem toldE3 {g : Str} {m : Fm} {y0 y1 y2 : D} (hg : heldT g = some (m, [])) (hm : m [y0, y1, y2] = .er ⟨"Malformed", []⟩) : m_law_told [.glo g, .tup [y0, y1, y2]] = .ok (.tup [.str "malformed", .non]) := by
  show outR (F_law_told (some (.d (.glo g)) :: some (.d (.tup [y0, y1, y2])) :: none :: [])) = _
  dsimp! only [F_law_told, hg, hm, is_integer_i_s, common_s, check_ratio_s, less_s, add_s, sub_s, mul_s, neg_s, size_s, eq_s, sign_s, make_s, over_s, over_0_s, is_zero_s, is_whole_s, is_short_s, Ratio_str_s, check_ratio_n_s, check_ratio_i_s, is_integer_n_s, is_integer_b_s, is_count_s, is_count_n_s, is_count_b_s, law_take_s, law_state_s]
theorem toldO3 {g : Str} {m : Fm} {y0 y1 y2 : D} (hg : heldT g = some (m, [])) {x : D} (hm : m [y0, y1, y2] = .ok x) : m_law_told [.glo g, .tup [y0, y1, y2]] = .ok (.tup [.str "told", x]) := by
  show outR (F_law_told (some (.d (.glo g)) :: some (.d (.tup [y0, y1, y2])) :: none :: [])) = _
  dsimp! only [F_law_told, hg, hm, is_integer_i_s, common_s, check_ratio_s, less_s, add_s, sub_s, mul_s, neg_s, size_s, eq_s, sign_s, make_s, over_s, over_0_s, is_zero_s, is_whole_s, is_short_s, Ratio_str_s, check_ratio_n_s, check_ratio_i_s, is_integer_n_s, is_integer_b_s, is_count_s, is_count_n_s, is_count_b_s, law_take_s, law_state_s]
theorem toldW3 {g : Str} {m : Fm} {y0 y1 y2 : D} (hg : heldT g = some (m, [])) {x : List D} (hm : m [y0, y1, y2] = .ow x) : m_law_told [.glo g, .tup [y0, y1, y2]] = .ok (.tup [.str "told", .lst x]) := by
  show outR (F_law_told (some (.d (.glo g)) :: some (.d (.tup [y0, y1, y2])) :: none :: [])) = _
  dsimp! only [F_law_told, hg, hm, is_integer_i_s, common_s, check_ratio_s, less_s, add_s, sub_s, mul_s, neg_s, size_s, eq_s, sign_s, make_s, over_s, over_0_s, is_zero_s, is_whole_s, is_short_s, Ratio_str_s, check_ratio_n_s, check_ratio_i_s, is_integer_n_s, is_integer_b_s, is_count_s, is_count_n_s, is_count_b_s, law_take_s, law_state_s]
theorem toldR3 {g : Str} {m : Fm} {y0 y1 y2 : D} (hg : heldT g = some (m, [])) {r : D} (hm : m [y0, y1, y2] = .er ⟨"Refused", [("reason", r)]⟩) : m_law_told [.glo g, .tup [y0, y1, y2]] = .ok (.tup [.str "raised", r]) := by
  show outR (F_law_told (some (.d (.glo g)) :: some (.d (.tup [y0, y1, y2])) :: none :: [])) = _
  dsimp! only [F_law_told, hg, hm, is_integer_i_s, common_s, check_ratio_s, less_s, add_s, sub_s, mul_s, neg_s, size_s, eq_s, sign_s, make_s, over_s, over_0_s, is_zero_s, is_whole_s, is_short_s, Ratio_str_s, check_ratio_n_s, check_ratio_i_s, is_integer_n_s, is_integer_b_s, is_count_s, is_count_n_s, is_count_b_s, law_take_s, law_state_s]
theorem toldE4 {g : Str} {m : Fm} {y0 y1 y2 y3 : D} (hg : heldT g = some (m, [])) (hm : m [y0, y1, y2, y3] = .er ⟨"Malformed", []⟩) : m_law_told [.glo g, .tup [y0, y1, y2, y3]] = .ok (.tup [.str "malformed", .non]) := by
  show outR (F_law_told (some (.d (.glo g)) :: some (.d (.tup [y0, y1, y2, y3])) :: none :: [])) = _
  dsimp! only [F_law_told, hg, hm, is_integer_i_s, common_s, check_ratio_s, less_s, add_s, sub_s, mul_s, neg_s, size_s, eq_s, sign_s, make_s, over_s, over_0_s, is_zero_s, is_whole_s, is_short_s, Ratio_str_s, check_ratio_n_s, check_ratio_i_s, is_integer_n_s, is_integer_b_s, is_count_s, is_count_n_s, is_count_b_s, law_take_s, law_state_s]
theorem toldO4 {g : Str} {m : Fm} {y0 y1 y2 y3 : D} (hg : heldT g = some (m, [])) {x : D} (hm : m [y0, y1, y2, y3] = .ok x) : m_law_told [.glo g, .tup [y0, y1, y2, y3]] = .ok (.tup [.str "told", x]) := by
  show outR (F_law_told (some (.d (.glo g)) :: some (.d (.tup [y0, y1, y2, y3])) :: none :: [])) = _
  dsimp! only [F_law_told, hg, hm, is_integer_i_s, common_s, check_ratio_s, less_s, add_s, sub_s, mul_s, neg_s, size_s, eq_s, sign_s, make_s, over_s, over_0_s, is_zero_s, is_whole_s, is_short_s, Ratio_str_s, check_ratio_n_s, check_ratio_i_s, is_integer_n_s, is_integer_b_s, is_count_s, is_count_n_s, is_count_b_s, law_take_s, law_state_s]
theorem toldW4 {g : Str} {m : Fm} {y0 y1 y2 y3 : D} (hg : heldT g = some (m, [])) {x : List D} (hm : m [y0, y1, y2, y3] = .ow x) : m_law_told [.glo g, .tup [y0, y1, y2, y3]] = .ok (.tup [.str "told", .lst x]) := by
  show outR (F_law_told (some (.d (.glo g)) :: some (.d (.tup [y0, y1, y2, y3])) :: none :: [])) = _
  dsimp! only [F_law_told, hg, hm, is_integer_i_s, common_s, check_ratio_s, less_s, add_s, sub_s, mul_s, neg_s, size_s, eq_s, sign_s, make_s, over_s, over_0_s, is_zero_s, is_whole_s, is_short_s, Ratio_str_s, check_ratio_n_s, check_ratio_i_s, is_integer_n_s, is_integer_b_s, is_count_s, is_count_n_s, is_count_b_s, law_take_s, law_state_s]
theorem toldR4 {g : Str} {m : Fm} {y0 y1 y2 y3 : D} (hg : heldT g = some (m, [])) {r : D} (hm : m [y0, y1, y2, y3] = .er ⟨"Refused", [("reason", r)]⟩) : m_law_told [.glo g, .tup [y0, y1, y2, y3]] = .ok (.tup [.str "raised", r]) := by
  show outR (F_law_told (some (.d (.glo g)) :: some (.d (.tup [y0, y1, y2, y3])) :: none :: [])) = _
  dsimp! only [F_law_told, hg, hm, is_integer_i_s, common_s, check_ratio_s, less_s, add_s, sub_s, mul_s, neg_s, size_s, eq_s, sign_s, make_s, over_s, over_0_s, is_zero_s, is_whole_s, is_short_s, Ratio_str_s, check_ratio_n_s, check_ratio_i_s, is_integer_n_s, is_integer_b_s, is_count_s, is_count_n_s, is_count_b_s, law_take_s, law_state_s]
theorem toldE5 {g : Str} {m : Fm} {y0 y1 y2 y3 y4 : D} (hg : heldT g = some (m, [])) (hm : m [y0, y1, y2, y3, y4] = .er ⟨"Malformed", []⟩) : m_law_told [.glo g, .tup [y0, y1, y2, y3, y4]] = .ok (.tup [.str "malformed", .non]) := by
  show outR (F_law_told (some (.d (.glo g)) :: some (.d (.tup [y0, y1, y2, y3, y4])) :: none :: [])) = _
  dsimp! only [F_law_told, hg, hm, is_integer_i_s, common_s, check_ratio_s, less_s, add_s, sub_s, mul_s, neg_s, size_s, eq_s, sign_s, make_s, over_s, over_0_s, is_zero_s, is_whole_s, is_short_s, Ratio_str_s, check_ratio_n_s, check_ratio_i_s, is_integer_n_s, is_integer_b_s, is_count_s, is_count_n_s, is_count_b_s, law_take_s, law_state_s]
theorem toldO5 {g : Str} {m : Fm} {y0 y1 y2 y3 y4 : D} (hg : heldT g = some (m, [])) {x : D} (hm : m [y0, y1, y2, y3, y4] = .ok x) : m_law_told [.glo g, .tup [y0, y1, y2, y3, y4]] = .ok (.tup [.str "told", x]) := by
  show outR (F_law_told (some (.d (.glo g)) :: some (.d (.tup [y0, y1, y2, y3, y4])) :: none :: [])) = _
  dsimp! only [F_law_told, hg, hm, is_integer_i_s, common_s, check_ratio_s, less_s, add_s, sub_s, mul_s, neg_s, size_s, eq_s, sign_s, make_s, over_s, over_0_s, is_zero_s, is_whole_s, is_short_s, Ratio_str_s, check_ratio_n_s, check_ratio_i_s, is_integer_n_s, is_integer_b_s, is_count_s, is_count_n_s, is_count_b_s, law_take_s, law_state_s]
theorem toldW5 {g : Str} {m : Fm} {y0 y1 y2 y3 y4 : D} (hg : heldT g = some (m, [])) {x : List D} (hm : m [y0, y1, y2, y3, y4] = .ow x) : m_law_told [.glo g, .tup [y0, y1, y2, y3, y4]] = .ok (.tup [.str "told", .lst x]) := by
  show outR (F_law_told (some (.d (.glo g)) :: some (.d (.tup [y0, y1, y2, y3, y4])) :: none :: [])) = _
  dsimp! only [F_law_told, hg, hm, is_integer_i_s, common_s, check_ratio_s, less_s, add_s, sub_s, mul_s, neg_s, size_s, eq_s, sign_s, make_s, over_s, over_0_s, is_zero_s, is_whole_s, is_short_s, Ratio_str_s, check_ratio_n_s, check_ratio_i_s, is_integer_n_s, is_integer_b_s, is_count_s, is_count_n_s, is_count_b_s, law_take_s, law_state_s]
theorem toldR5 {g : Str} {m : Fm} {y0 y1 y2 y3 y4 : D} (hg : heldT g = some (m, [])) {r : D} (hm : m [y0, y1, y2, y3, y4] = .er ⟨"Refused", [("reason", r)]⟩) : m_law_told [.glo g, .tup [y0, y1, y2, y3, y4]] = .ok (.tup [.str "raised", r]) := by
  show outR (F_law_told (some (.d (.glo g)) :: some (.d (.tup [y0, y1, y2, y3, y4])) :: none :: [])) = _
  dsimp! only [F_law_told, hg, hm, is_integer_i_s, common_s, check_ratio_s, less_s, add_s, sub_s, mul_s, neg_s, size_s, eq_s, sign_s, make_s, over_s, over_0_s, is_zero_s, is_whole_s, is_short_s, Ratio_str_s, check_ratio_n_s, check_ratio_i_s, is_integer_n_s, is_integer_b_s, is_count_s, is_count_n_s, is_count_b_s, law_take_s, law_state_s]
theorem toldE6 {g : Str} {m : Fm} {y0 y1 y2 y3 y4 y5 : D} (hg : heldT g = some (m, [])) (hm : m [y0, y1, y2, y3, y4, y5] = .er ⟨"Malformed", []⟩) : m_law_told [.glo g, .tup [y0, y1, y2, y3, y4, y5]] = .ok (.tup [.str "malformed", .non]) := by
  show outR (F_law_told (some (.d (.glo g)) :: some (.d (.tup [y0, y1, y2, y3, y4, y5])) :: none :: [])) = _
  dsimp! only [F_law_told, hg, hm, is_integer_i_s, common_s, check_ratio_s, less_s, add_s, sub_s, mul_s, neg_s, size_s, eq_s, sign_s, make_s, over_s, over_0_s, is_zero_s, is_whole_s, is_short_s, Ratio_str_s, check_ratio_n_s, check_ratio_i_s, is_integer_n_s, is_integer_b_s, is_count_s, is_count_n_s, is_count_b_s, law_take_s, law_state_s]
theorem toldO6 {g : Str} {m : Fm} {y0 y1 y2 y3 y4 y5 : D} (hg : heldT g = some (m, [])) {x : D} (hm : m [y0, y1, y2, y3, y4, y5] = .ok x) : m_law_told [.glo g, .tup [y0, y1, y2, y3, y4, y5]] = .ok (.tup [.str "told", x]) := by
  show outR (F_law_told (some (.d (.glo g)) :: some (.d (.tup [y0, y1, y2, y3, y4, y5])) :: none :: [])) = _
  dsimp! only [F_law_told, hg, hm, is_integer_i_s, common_s, check_ratio_s, less_s, add_s, sub_s, mul_s, neg_s, size_s, eq_s, sign_s, make_s, over_s, over_0_s, is_zero_s, is_whole_s, is_short_s, Ratio_str_s, check_ratio_n_s, check_ratio_i_s, is_integer_n_s, is_integer_b_s, is_count_s, is_count_n_s, is_count_b_s, law_take_s, law_state_s]
theorem toldW6 {g : Str} {m : Fm} {y0 y1 y2 y3 y4 y5 : D} (hg : heldT g = some (m, [])) {x : List D} (hm : m [y0, y1, y2, y3, y4, y5] = .ow x) : m_law_told [.glo g, .tup [y0, y1, y2, y3, y4, y5]] = .ok (.tup [.str "told", .lst x]) := by
  show outR (F_law_told (some (.d (.glo g)) :: some (.d (.tup [y0, y1, y2, y3, y4, y5])) :: none :: [])) = _
  dsimp! only [F_law_told, hg, hm, is_integer_i_s, common_s, check_ratio_s, less_s, add_s, sub_s, mul_s, neg_s, size_s, eq_s, sign_s, make_s, over_s, over_0_s, is_zero_s, is_whole_s, is_short_s, Ratio_str_s, check_ratio_n_s, check_ratio_i_s, is_integer_n_s, is_integer_b_s, is_count_s, is_count_n_s, is_count_b_s, law_take_s, law_state_s]
theorem toldR6 {g : Str} {m : Fm} {y0 y1 y2 y3 y4 y5 : D} (hg : heldT g = some (m, [])) {r : D} (hm : m [y0, y1, y2, y3, y4, y5] = .er ⟨"Refused", [("reason", r)]⟩) : m_law_told [.glo g, .tup [y0, y1, y2, y3, y4, y5]] = .ok (.tup [.str "raised", r]) := by
  show outR (F_law_told (some (.d (.glo g)) :: some (.d (.tup [y0, y1, y2, y3, y4, y5])) :: none :: [])) = _
  dsimp! only [F_law_told, hg, hm, is_integer_i_s, common_s, check_ratio_s, less_s, add_s, sub_s, mul_s, neg_s, size_s, eq_s, sign_s, make_s, over_s, over_0_s, is_zero_s, is_whole_s, is_short_s, Ratio_str_s, check_ratio_n_s, check_ratio_i_s, is_integer_n_s, is_integer_b_s, is_count_s, is_count_n_s, is_count_b_s, law_take_s, law_state_s]
theorem bads101 {g : Str} {m : Fm} {y0 b0 : D} (hg : heldT g = some (m, [])) (h0 : m [b0] = .er ⟨"Malformed", []⟩) : m_law_bads [.glo g, .tup [y0], .int 0, .lst [b0]] = .ok (.bl true) := by
  show outR (F_law_bads (some (.d (.glo g)) :: some (.d (.tup [y0])) :: some (.d (.int 0)) :: some (.d (.lst [b0])) :: none :: none :: [])) = _
  dsimp! only [F_law_bads, toldE1 hg h0, is_integer_i_s, common_s, check_ratio_s, less_s, add_s, sub_s, mul_s, neg_s, size_s, eq_s, sign_s, make_s, over_s, over_0_s, is_zero_s, is_whole_s, is_short_s, Ratio_str_s, check_ratio_n_s, check_ratio_i_s, is_integer_n_s, is_integer_b_s, is_count_s, is_count_n_s, is_count_b_s, law_take_s, law_state_s]
theorem bads102 {g : Str} {m : Fm} {y0 b0 b1 : D} (hg : heldT g = some (m, [])) (h0 : m [b0] = .er ⟨"Malformed", []⟩) (h1 : m [b1] = .er ⟨"Malformed", []⟩) : m_law_bads [.glo g, .tup [y0], .int 0, .lst [b0, b1]] = .ok (.bl true) := by
  show outR (F_law_bads (some (.d (.glo g)) :: some (.d (.tup [y0])) :: some (.d (.int 0)) :: some (.d (.lst [b0, b1])) :: none :: none :: [])) = _
  dsimp! only [F_law_bads, toldE1 hg h0, toldE1 hg h1, is_integer_i_s, common_s, check_ratio_s, less_s, add_s, sub_s, mul_s, neg_s, size_s, eq_s, sign_s, make_s, over_s, over_0_s, is_zero_s, is_whole_s, is_short_s, Ratio_str_s, check_ratio_n_s, check_ratio_i_s, is_integer_n_s, is_integer_b_s, is_count_s, is_count_n_s, is_count_b_s, law_take_s, law_state_s]
theorem bads103 {g : Str} {m : Fm} {y0 b0 b1 b2 : D} (hg : heldT g = some (m, [])) (h0 : m [b0] = .er ⟨"Malformed", []⟩) (h1 : m [b1] = .er ⟨"Malformed", []⟩) (h2 : m [b2] = .er ⟨"Malformed", []⟩) : m_law_bads [.glo g, .tup [y0], .int 0, .lst [b0, b1, b2]] = .ok (.bl true) := by
  show outR (F_law_bads (some (.d (.glo g)) :: some (.d (.tup [y0])) :: some (.d (.int 0)) :: some (.d (.lst [b0, b1, b2])) :: none :: none :: [])) = _
  dsimp! only [F_law_bads, toldE1 hg h0, toldE1 hg h1, toldE1 hg h2, is_integer_i_s, common_s, check_ratio_s, less_s, add_s, sub_s, mul_s, neg_s, size_s, eq_s, sign_s, make_s, over_s, over_0_s, is_zero_s, is_whole_s, is_short_s, Ratio_str_s, check_ratio_n_s, check_ratio_i_s, is_integer_n_s, is_integer_b_s, is_count_s, is_count_n_s, is_count_b_s, law_take_s, law_state_s]
theorem bads104 {g : Str} {m : Fm} {y0 b0 b1 b2 b3 : D} (hg : heldT g = some (m, [])) (h0 : m [b0] = .er ⟨"Malformed", []⟩) (h1 : m [b1] = .er ⟨"Malformed", []⟩) (h2 : m [b2] = .er ⟨"Malformed", []⟩) (h3 : m [b3] = .er ⟨"Malformed", []⟩) : m_law_bads [.glo g, .tup [y0], .int 0, .lst [b0, b1, b2, b3]] = .ok (.bl true) := by
  show outR (F_law_bads (some (.d (.glo g)) :: some (.d (.tup [y0])) :: some (.d (.int 0)) :: some (.d (.lst [b0, b1, b2, b3])) :: none :: none :: [])) = _
  dsimp! only [F_law_bads, toldE1 hg h0, toldE1 hg h1, toldE1 hg h2, toldE1 hg h3, is_integer_i_s, common_s, check_ratio_s, less_s, add_s, sub_s, mul_s, neg_s, size_s, eq_s, sign_s, make_s, over_s, over_0_s, is_zero_s, is_whole_s, is_short_s, Ratio_str_s, check_ratio_n_s, check_ratio_i_s, is_integer_n_s, is_integer_b_s, is_count_s, is_count_n_s, is_count_b_s, law_take_s, law_state_s]
theorem bads105 {g : Str} {m : Fm} {y0 b0 b1 b2 b3 b4 : D} (hg : heldT g = some (m, [])) (h0 : m [b0] = .er ⟨"Malformed", []⟩) (h1 : m [b1] = .er ⟨"Malformed", []⟩) (h2 : m [b2] = .er ⟨"Malformed", []⟩) (h3 : m [b3] = .er ⟨"Malformed", []⟩) (h4 : m [b4] = .er ⟨"Malformed", []⟩) : m_law_bads [.glo g, .tup [y0], .int 0, .lst [b0, b1, b2, b3, b4]] = .ok (.bl true) := by
  show outR (F_law_bads (some (.d (.glo g)) :: some (.d (.tup [y0])) :: some (.d (.int 0)) :: some (.d (.lst [b0, b1, b2, b3, b4])) :: none :: none :: [])) = _
  dsimp! only [F_law_bads, toldE1 hg h0, toldE1 hg h1, toldE1 hg h2, toldE1 hg h3, toldE1 hg h4, is_integer_i_s, common_s, check_ratio_s, less_s, add_s, sub_s, mul_s, neg_s, size_s, eq_s, sign_s, make_s, over_s, over_0_s, is_zero_s, is_whole_s, is_short_s, Ratio_str_s, check_ratio_n_s, check_ratio_i_s, is_integer_n_s, is_integer_b_s, is_count_s, is_count_n_s, is_count_b_s, law_take_s, law_state_s]
theorem bads106 {g : Str} {m : Fm} {y0 b0 b1 b2 b3 b4 b5 : D} (hg : heldT g = some (m, [])) (h0 : m [b0] = .er ⟨"Malformed", []⟩) (h1 : m [b1] = .er ⟨"Malformed", []⟩) (h2 : m [b2] = .er ⟨"Malformed", []⟩) (h3 : m [b3] = .er ⟨"Malformed", []⟩) (h4 : m [b4] = .er ⟨"Malformed", []⟩) (h5 : m [b5] = .er ⟨"Malformed", []⟩) : m_law_bads [.glo g, .tup [y0], .int 0, .lst [b0, b1, b2, b3, b4, b5]] = .ok (.bl true) := by
  show outR (F_law_bads (some (.d (.glo g)) :: some (.d (.tup [y0])) :: some (.d (.int 0)) :: some (.d (.lst [b0, b1, b2, b3, b4, b5])) :: none :: none :: [])) = _
  dsimp! only [F_law_bads, toldE1 hg h0, toldE1 hg h1, toldE1 hg h2, toldE1 hg h3, toldE1 hg h4, toldE1 hg h5, is_integer_i_s, common_s, check_ratio_s, less_s, add_s, sub_s, mul_s, neg_s, size_s, eq_s, sign_s, make_s, over_s, over_0_s, is_zero_s, is_whole_s, is_short_s, Ratio_str_s, check_ratio_n_s, check_ratio_i_s, is_integer_n_s, is_integer_b_s, is_count_s, is_count_n_s, is_count_b_s, law_take_s, law_state_s]
theorem bads201 {g : Str} {m : Fm} {y0 y1 b0 : D} (hg : heldT g = some (m, [])) (h0 : m [b0, y1] = .er ⟨"Malformed", []⟩) : m_law_bads [.glo g, .tup [y0, y1], .int 0, .lst [b0]] = .ok (.bl true) := by
  show outR (F_law_bads (some (.d (.glo g)) :: some (.d (.tup [y0, y1])) :: some (.d (.int 0)) :: some (.d (.lst [b0])) :: none :: none :: [])) = _
  dsimp! only [F_law_bads, toldE2 hg h0, is_integer_i_s, common_s, check_ratio_s, less_s, add_s, sub_s, mul_s, neg_s, size_s, eq_s, sign_s, make_s, over_s, over_0_s, is_zero_s, is_whole_s, is_short_s, Ratio_str_s, check_ratio_n_s, check_ratio_i_s, is_integer_n_s, is_integer_b_s, is_count_s, is_count_n_s, is_count_b_s, law_take_s, law_state_s]
theorem bads202 {g : Str} {m : Fm} {y0 y1 b0 b1 : D} (hg : heldT g = some (m, [])) (h0 : m [b0, y1] = .er ⟨"Malformed", []⟩) (h1 : m [b1, y1] = .er ⟨"Malformed", []⟩) : m_law_bads [.glo g, .tup [y0, y1], .int 0, .lst [b0, b1]] = .ok (.bl true) := by
  show outR (F_law_bads (some (.d (.glo g)) :: some (.d (.tup [y0, y1])) :: some (.d (.int 0)) :: some (.d (.lst [b0, b1])) :: none :: none :: [])) = _
  dsimp! only [F_law_bads, toldE2 hg h0, toldE2 hg h1, is_integer_i_s, common_s, check_ratio_s, less_s, add_s, sub_s, mul_s, neg_s, size_s, eq_s, sign_s, make_s, over_s, over_0_s, is_zero_s, is_whole_s, is_short_s, Ratio_str_s, check_ratio_n_s, check_ratio_i_s, is_integer_n_s, is_integer_b_s, is_count_s, is_count_n_s, is_count_b_s, law_take_s, law_state_s]
theorem bads203 {g : Str} {m : Fm} {y0 y1 b0 b1 b2 : D} (hg : heldT g = some (m, [])) (h0 : m [b0, y1] = .er ⟨"Malformed", []⟩) (h1 : m [b1, y1] = .er ⟨"Malformed", []⟩) (h2 : m [b2, y1] = .er ⟨"Malformed", []⟩) : m_law_bads [.glo g, .tup [y0, y1], .int 0, .lst [b0, b1, b2]] = .ok (.bl true) := by
  show outR (F_law_bads (some (.d (.glo g)) :: some (.d (.tup [y0, y1])) :: some (.d (.int 0)) :: some (.d (.lst [b0, b1, b2])) :: none :: none :: [])) = _
  dsimp! only [F_law_bads, toldE2 hg h0, toldE2 hg h1, toldE2 hg h2, is_integer_i_s, common_s, check_ratio_s, less_s, add_s, sub_s, mul_s, neg_s, size_s, eq_s, sign_s, make_s, over_s, over_0_s, is_zero_s, is_whole_s, is_short_s, Ratio_str_s, check_ratio_n_s, check_ratio_i_s, is_integer_n_s, is_integer_b_s, is_count_s, is_count_n_s, is_count_b_s, law_take_s, law_state_s]
theorem bads204 {g : Str} {m : Fm} {y0 y1 b0 b1 b2 b3 : D} (hg : heldT g = some (m, [])) (h0 : m [b0, y1] = .er ⟨"Malformed", []⟩) (h1 : m [b1, y1] = .er ⟨"Malformed", []⟩) (h2 : m [b2, y1] = .er ⟨"Malformed", []⟩) (h3 : m [b3, y1] = .er ⟨"Malformed", []⟩) : m_law_bads [.glo g, .tup [y0, y1], .int 0, .lst [b0, b1, b2, b3]] = .ok (.bl true) := by
  show outR (F_law_bads (some (.d (.glo g)) :: some (.d (.tup [y0, y1])) :: some (.d (.int 0)) :: some (.d (.lst [b0, b1, b2, b3])) :: none :: none :: [])) = _
  dsimp! only [F_law_bads, toldE2 hg h0, toldE2 hg h1, toldE2 hg h2, toldE2 hg h3, is_integer_i_s, common_s, check_ratio_s, less_s, add_s, sub_s, mul_s, neg_s, size_s, eq_s, sign_s, make_s, over_s, over_0_s, is_zero_s, is_whole_s, is_short_s, Ratio_str_s, check_ratio_n_s, check_ratio_i_s, is_integer_n_s, is_integer_b_s, is_count_s, is_count_n_s, is_count_b_s, law_take_s, law_state_s]
theorem bads205 {g : Str} {m : Fm} {y0 y1 b0 b1 b2 b3 b4 : D} (hg : heldT g = some (m, [])) (h0 : m [b0, y1] = .er ⟨"Malformed", []⟩) (h1 : m [b1, y1] = .er ⟨"Malformed", []⟩) (h2 : m [b2, y1] = .er ⟨"Malformed", []⟩) (h3 : m [b3, y1] = .er ⟨"Malformed", []⟩) (h4 : m [b4, y1] = .er ⟨"Malformed", []⟩) : m_law_bads [.glo g, .tup [y0, y1], .int 0, .lst [b0, b1, b2, b3, b4]] = .ok (.bl true) := by
  show outR (F_law_bads (some (.d (.glo g)) :: some (.d (.tup [y0, y1])) :: some (.d (.int 0)) :: some (.d (.lst [b0, b1, b2, b3, b4])) :: none :: none :: [])) = _
  dsimp! only [F_law_bads, toldE2 hg h0, toldE2 hg h1, toldE2 hg h2, toldE2 hg h3, toldE2 hg h4, is_integer_i_s, common_s, check_ratio_s, less_s, add_s, sub_s, mul_s, neg_s, size_s, eq_s, sign_s, make_s, over_s, over_0_s, is_zero_s, is_whole_s, is_short_s, Ratio_str_s, check_ratio_n_s, check_ratio_i_s, is_integer_n_s, is_integer_b_s, is_count_s, is_count_n_s, is_count_b_s, law_take_s, law_state_s]
theorem bads206 {g : Str} {m : Fm} {y0 y1 b0 b1 b2 b3 b4 b5 : D} (hg : heldT g = some (m, [])) (h0 : m [b0, y1] = .er ⟨"Malformed", []⟩) (h1 : m [b1, y1] = .er ⟨"Malformed", []⟩) (h2 : m [b2, y1] = .er ⟨"Malformed", []⟩) (h3 : m [b3, y1] = .er ⟨"Malformed", []⟩) (h4 : m [b4, y1] = .er ⟨"Malformed", []⟩) (h5 : m [b5, y1] = .er ⟨"Malformed", []⟩) : m_law_bads [.glo g, .tup [y0, y1], .int 0, .lst [b0, b1, b2, b3, b4, b5]] = .ok (.bl true) := by
  show outR (F_law_bads (some (.d (.glo g)) :: some (.d (.tup [y0, y1])) :: some (.d (.int 0)) :: some (.d (.lst [b0, b1, b2, b3, b4, b5])) :: none :: none :: [])) = _
  dsimp! only [F_law_bads, toldE2 hg h0, toldE2 hg h1, toldE2 hg h2, toldE2 hg h3, toldE2 hg h4, toldE2 hg h5, is_integer_i_s, common_s, check_ratio_s, less_s, add_s, sub_s, mul_s, neg_s, size_s, eq_s, sign_s, make_s, over_s, over_0_s, is_zero_s, is_whole_s, is_short_s, Ratio_str_s, check_ratio_n_s, check_ratio_i_s, is_integer_n_s, is_integer_b_s, is_count_s, is_count_n_s, is_count_b_s, law_take_s, law_state_s]
theorem bads211 {g : Str} {m : Fm} {y0 y1 b0 : D} (hg : heldT g = some (m, [])) (h0 : m [y0, b0] = .er ⟨"Malformed", []⟩) : m_law_bads [.glo g, .tup [y0, y1], .int 1, .lst [b0]] = .ok (.bl true) := by
  show outR (F_law_bads (some (.d (.glo g)) :: some (.d (.tup [y0, y1])) :: some (.d (.int 1)) :: some (.d (.lst [b0])) :: none :: none :: [])) = _
  dsimp! only [F_law_bads, toldE2 hg h0, is_integer_i_s, common_s, check_ratio_s, less_s, add_s, sub_s, mul_s, neg_s, size_s, eq_s, sign_s, make_s, over_s, over_0_s, is_zero_s, is_whole_s, is_short_s, Ratio_str_s, check_ratio_n_s, check_ratio_i_s, is_integer_n_s, is_integer_b_s, is_count_s, is_count_n_s, is_count_b_s, law_take_s, law_state_s]
theorem bads212 {g : Str} {m : Fm} {y0 y1 b0 b1 : D} (hg : heldT g = some (m, [])) (h0 : m [y0, b0] = .er ⟨"Malformed", []⟩) (h1 : m [y0, b1] = .er ⟨"Malformed", []⟩) : m_law_bads [.glo g, .tup [y0, y1], .int 1, .lst [b0, b1]] = .ok (.bl true) := by
  show outR (F_law_bads (some (.d (.glo g)) :: some (.d (.tup [y0, y1])) :: some (.d (.int 1)) :: some (.d (.lst [b0, b1])) :: none :: none :: [])) = _
  dsimp! only [F_law_bads, toldE2 hg h0, toldE2 hg h1, is_integer_i_s, common_s, check_ratio_s, less_s, add_s, sub_s, mul_s, neg_s, size_s, eq_s, sign_s, make_s, over_s, over_0_s, is_zero_s, is_whole_s, is_short_s, Ratio_str_s, check_ratio_n_s, check_ratio_i_s, is_integer_n_s, is_integer_b_s, is_count_s, is_count_n_s, is_count_b_s, law_take_s, law_state_s]
theorem bads213 {g : Str} {m : Fm} {y0 y1 b0 b1 b2 : D} (hg : heldT g = some (m, [])) (h0 : m [y0, b0] = .er ⟨"Malformed", []⟩) (h1 : m [y0, b1] = .er ⟨"Malformed", []⟩) (h2 : m [y0, b2] = .er ⟨"Malformed", []⟩) : m_law_bads [.glo g, .tup [y0, y1], .int 1, .lst [b0, b1, b2]] = .ok (.bl true) := by
  show outR (F_law_bads (some (.d (.glo g)) :: some (.d (.tup [y0, y1])) :: some (.d (.int 1)) :: some (.d (.lst [b0, b1, b2])) :: none :: none :: [])) = _
  dsimp! only [F_law_bads, toldE2 hg h0, toldE2 hg h1, toldE2 hg h2, is_integer_i_s, common_s, check_ratio_s, less_s, add_s, sub_s, mul_s, neg_s, size_s, eq_s, sign_s, make_s, over_s, over_0_s, is_zero_s, is_whole_s, is_short_s, Ratio_str_s, check_ratio_n_s, check_ratio_i_s, is_integer_n_s, is_integer_b_s, is_count_s, is_count_n_s, is_count_b_s, law_take_s, law_state_s]
theorem bads214 {g : Str} {m : Fm} {y0 y1 b0 b1 b2 b3 : D} (hg : heldT g = some (m, [])) (h0 : m [y0, b0] = .er ⟨"Malformed", []⟩) (h1 : m [y0, b1] = .er ⟨"Malformed", []⟩) (h2 : m [y0, b2] = .er ⟨"Malformed", []⟩) (h3 : m [y0, b3] = .er ⟨"Malformed", []⟩) : m_law_bads [.glo g, .tup [y0, y1], .int 1, .lst [b0, b1, b2, b3]] = .ok (.bl true) := by
  show outR (F_law_bads (some (.d (.glo g)) :: some (.d (.tup [y0, y1])) :: some (.d (.int 1)) :: some (.d (.lst [b0, b1, b2, b3])) :: none :: none :: [])) = _
  dsimp! only [F_law_bads, toldE2 hg h0, toldE2 hg h1, toldE2 hg h2, toldE2 hg h3, is_integer_i_s, common_s, check_ratio_s, less_s, add_s, sub_s, mul_s, neg_s, size_s, eq_s, sign_s, make_s, over_s, over_0_s, is_zero_s, is_whole_s, is_short_s, Ratio_str_s, check_ratio_n_s, check_ratio_i_s, is_integer_n_s, is_integer_b_s, is_count_s, is_count_n_s, is_count_b_s, law_take_s, law_state_s]
theorem bads215 {g : Str} {m : Fm} {y0 y1 b0 b1 b2 b3 b4 : D} (hg : heldT g = some (m, [])) (h0 : m [y0, b0] = .er ⟨"Malformed", []⟩) (h1 : m [y0, b1] = .er ⟨"Malformed", []⟩) (h2 : m [y0, b2] = .er ⟨"Malformed", []⟩) (h3 : m [y0, b3] = .er ⟨"Malformed", []⟩) (h4 : m [y0, b4] = .er ⟨"Malformed", []⟩) : m_law_bads [.glo g, .tup [y0, y1], .int 1, .lst [b0, b1, b2, b3, b4]] = .ok (.bl true) := by
  show outR (F_law_bads (some (.d (.glo g)) :: some (.d (.tup [y0, y1])) :: some (.d (.int 1)) :: some (.d (.lst [b0, b1, b2, b3, b4])) :: none :: none :: [])) = _
  dsimp! only [F_law_bads, toldE2 hg h0, toldE2 hg h1, toldE2 hg h2, toldE2 hg h3, toldE2 hg h4, is_integer_i_s, common_s, check_ratio_s, less_s, add_s, sub_s, mul_s, neg_s, size_s, eq_s, sign_s, make_s, over_s, over_0_s, is_zero_s, is_whole_s, is_short_s, Ratio_str_s, check_ratio_n_s, check_ratio_i_s, is_integer_n_s, is_integer_b_s, is_count_s, is_count_n_s, is_count_b_s, law_take_s, law_state_s]
theorem bads216 {g : Str} {m : Fm} {y0 y1 b0 b1 b2 b3 b4 b5 : D} (hg : heldT g = some (m, [])) (h0 : m [y0, b0] = .er ⟨"Malformed", []⟩) (h1 : m [y0, b1] = .er ⟨"Malformed", []⟩) (h2 : m [y0, b2] = .er ⟨"Malformed", []⟩) (h3 : m [y0, b3] = .er ⟨"Malformed", []⟩) (h4 : m [y0, b4] = .er ⟨"Malformed", []⟩) (h5 : m [y0, b5] = .er ⟨"Malformed", []⟩) : m_law_bads [.glo g, .tup [y0, y1], .int 1, .lst [b0, b1, b2, b3, b4, b5]] = .ok (.bl true) := by
  show outR (F_law_bads (some (.d (.glo g)) :: some (.d (.tup [y0, y1])) :: some (.d (.int 1)) :: some (.d (.lst [b0, b1, b2, b3, b4, b5])) :: none :: none :: [])) = _
  dsimp! only [F_law_bads, toldE2 hg h0, toldE2 hg h1, toldE2 hg h2, toldE2 hg h3, toldE2 hg h4, toldE2 hg h5, is_integer_i_s, common_s, check_ratio_s, less_s, add_s, sub_s, mul_s, neg_s, size_s, eq_s, sign_s, make_s, over_s, over_0_s, is_zero_s, is_whole_s, is_short_s, Ratio_str_s, check_ratio_n_s, check_ratio_i_s, is_integer_n_s, is_integer_b_s, is_count_s, is_count_n_s, is_count_b_s, law_take_s, law_state_s]
theorem bads301 {g : Str} {m : Fm} {y0 y1 y2 b0 : D} (hg : heldT g = some (m, [])) (h0 : m [b0, y1, y2] = .er ⟨"Malformed", []⟩) : m_law_bads [.glo g, .tup [y0, y1, y2], .int 0, .lst [b0]] = .ok (.bl true) := by
  show outR (F_law_bads (some (.d (.glo g)) :: some (.d (.tup [y0, y1, y2])) :: some (.d (.int 0)) :: some (.d (.lst [b0])) :: none :: none :: [])) = _
  dsimp! only [F_law_bads, toldE3 hg h0, is_integer_i_s, common_s, check_ratio_s, less_s, add_s, sub_s, mul_s, neg_s, size_s, eq_s, sign_s, make_s, over_s, over_0_s, is_zero_s, is_whole_s, is_short_s, Ratio_str_s, check_ratio_n_s, check_ratio_i_s, is_integer_n_s, is_integer_b_s, is_count_s, is_count_n_s, is_count_b_s, law_take_s, law_state_s]
theorem bads302 {g : Str} {m : Fm} {y0 y1 y2 b0 b1 : D} (hg : heldT g = some (m, [])) (h0 : m [b0, y1, y2] = .er ⟨"Malformed", []⟩) (h1 : m [b1, y1, y2] = .er ⟨"Malformed", []⟩) : m_law_bads [.glo g, .tup [y0, y1, y2], .int 0, .lst [b0, b1]] = .ok (.bl true) := by
  show outR (F_law_bads (some (.d (.glo g)) :: some (.d (.tup [y0, y1, y2])) :: some (.d (.int 0)) :: some (.d (.lst [b0, b1])) :: none :: none :: [])) = _
  dsimp! only [F_law_bads, toldE3 hg h0, toldE3 hg h1, is_integer_i_s, common_s, check_ratio_s, less_s, add_s, sub_s, mul_s, neg_s, size_s, eq_s, sign_s, make_s, over_s, over_0_s, is_zero_s, is_whole_s, is_short_s, Ratio_str_s, check_ratio_n_s, check_ratio_i_s, is_integer_n_s, is_integer_b_s, is_count_s, is_count_n_s, is_count_b_s, law_take_s, law_state_s]
theorem bads303 {g : Str} {m : Fm} {y0 y1 y2 b0 b1 b2 : D} (hg : heldT g = some (m, [])) (h0 : m [b0, y1, y2] = .er ⟨"Malformed", []⟩) (h1 : m [b1, y1, y2] = .er ⟨"Malformed", []⟩) (h2 : m [b2, y1, y2] = .er ⟨"Malformed", []⟩) : m_law_bads [.glo g, .tup [y0, y1, y2], .int 0, .lst [b0, b1, b2]] = .ok (.bl true) := by
  show outR (F_law_bads (some (.d (.glo g)) :: some (.d (.tup [y0, y1, y2])) :: some (.d (.int 0)) :: some (.d (.lst [b0, b1, b2])) :: none :: none :: [])) = _
  dsimp! only [F_law_bads, toldE3 hg h0, toldE3 hg h1, toldE3 hg h2, is_integer_i_s, common_s, check_ratio_s, less_s, add_s, sub_s, mul_s, neg_s, size_s, eq_s, sign_s, make_s, over_s, over_0_s, is_zero_s, is_whole_s, is_short_s, Ratio_str_s, check_ratio_n_s, check_ratio_i_s, is_integer_n_s, is_integer_b_s, is_count_s, is_count_n_s, is_count_b_s, law_take_s, law_state_s]
theorem bads304 {g : Str} {m : Fm} {y0 y1 y2 b0 b1 b2 b3 : D} (hg : heldT g = some (m, [])) (h0 : m [b0, y1, y2] = .er ⟨"Malformed", []⟩) (h1 : m [b1, y1, y2] = .er ⟨"Malformed", []⟩) (h2 : m [b2, y1, y2] = .er ⟨"Malformed", []⟩) (h3 : m [b3, y1, y2] = .er ⟨"Malformed", []⟩) : m_law_bads [.glo g, .tup [y0, y1, y2], .int 0, .lst [b0, b1, b2, b3]] = .ok (.bl true) := by
  show outR (F_law_bads (some (.d (.glo g)) :: some (.d (.tup [y0, y1, y2])) :: some (.d (.int 0)) :: some (.d (.lst [b0, b1, b2, b3])) :: none :: none :: [])) = _
  dsimp! only [F_law_bads, toldE3 hg h0, toldE3 hg h1, toldE3 hg h2, toldE3 hg h3, is_integer_i_s, common_s, check_ratio_s, less_s, add_s, sub_s, mul_s, neg_s, size_s, eq_s, sign_s, make_s, over_s, over_0_s, is_zero_s, is_whole_s, is_short_s, Ratio_str_s, check_ratio_n_s, check_ratio_i_s, is_integer_n_s, is_integer_b_s, is_count_s, is_count_n_s, is_count_b_s, law_take_s, law_state_s]
theorem bads305 {g : Str} {m : Fm} {y0 y1 y2 b0 b1 b2 b3 b4 : D} (hg : heldT g = some (m, [])) (h0 : m [b0, y1, y2] = .er ⟨"Malformed", []⟩) (h1 : m [b1, y1, y2] = .er ⟨"Malformed", []⟩) (h2 : m [b2, y1, y2] = .er ⟨"Malformed", []⟩) (h3 : m [b3, y1, y2] = .er ⟨"Malformed", []⟩) (h4 : m [b4, y1, y2] = .er ⟨"Malformed", []⟩) : m_law_bads [.glo g, .tup [y0, y1, y2], .int 0, .lst [b0, b1, b2, b3, b4]] = .ok (.bl true) := by
  show outR (F_law_bads (some (.d (.glo g)) :: some (.d (.tup [y0, y1, y2])) :: some (.d (.int 0)) :: some (.d (.lst [b0, b1, b2, b3, b4])) :: none :: none :: [])) = _
  dsimp! only [F_law_bads, toldE3 hg h0, toldE3 hg h1, toldE3 hg h2, toldE3 hg h3, toldE3 hg h4, is_integer_i_s, common_s, check_ratio_s, less_s, add_s, sub_s, mul_s, neg_s, size_s, eq_s, sign_s, make_s, over_s, over_0_s, is_zero_s, is_whole_s, is_short_s, Ratio_str_s, check_ratio_n_s, check_ratio_i_s, is_integer_n_s, is_integer_b_s, is_count_s, is_count_n_s, is_count_b_s, law_take_s, law_state_s]
theorem bads306 {g : Str} {m : Fm} {y0 y1 y2 b0 b1 b2 b3 b4 b5 : D} (hg : heldT g = some (m, [])) (h0 : m [b0, y1, y2] = .er ⟨"Malformed", []⟩) (h1 : m [b1, y1, y2] = .er ⟨"Malformed", []⟩) (h2 : m [b2, y1, y2] = .er ⟨"Malformed", []⟩) (h3 : m [b3, y1, y2] = .er ⟨"Malformed", []⟩) (h4 : m [b4, y1, y2] = .er ⟨"Malformed", []⟩) (h5 : m [b5, y1, y2] = .er ⟨"Malformed", []⟩) : m_law_bads [.glo g, .tup [y0, y1, y2], .int 0, .lst [b0, b1, b2, b3, b4, b5]] = .ok (.bl true) := by
  show outR (F_law_bads (some (.d (.glo g)) :: some (.d (.tup [y0, y1, y2])) :: some (.d (.int 0)) :: some (.d (.lst [b0, b1, b2, b3, b4, b5])) :: none :: none :: [])) = _
  dsimp! only [F_law_bads, toldE3 hg h0, toldE3 hg h1, toldE3 hg h2, toldE3 hg h3, toldE3 hg h4, toldE3 hg h5, is_integer_i_s, common_s, check_ratio_s, less_s, add_s, sub_s, mul_s, neg_s, size_s, eq_s, sign_s, make_s, over_s, over_0_s, is_zero_s, is_whole_s, is_short_s, Ratio_str_s, check_ratio_n_s, check_ratio_i_s, is_integer_n_s, is_integer_b_s, is_count_s, is_count_n_s, is_count_b_s, law_take_s, law_state_s]
theorem bads311 {g : Str} {m : Fm} {y0 y1 y2 b0 : D} (hg : heldT g = some (m, [])) (h0 : m [y0, b0, y2] = .er ⟨"Malformed", []⟩) : m_law_bads [.glo g, .tup [y0, y1, y2], .int 1, .lst [b0]] = .ok (.bl true) := by
  show outR (F_law_bads (some (.d (.glo g)) :: some (.d (.tup [y0, y1, y2])) :: some (.d (.int 1)) :: some (.d (.lst [b0])) :: none :: none :: [])) = _
  dsimp! only [F_law_bads, toldE3 hg h0, is_integer_i_s, common_s, check_ratio_s, less_s, add_s, sub_s, mul_s, neg_s, size_s, eq_s, sign_s, make_s, over_s, over_0_s, is_zero_s, is_whole_s, is_short_s, Ratio_str_s, check_ratio_n_s, check_ratio_i_s, is_integer_n_s, is_integer_b_s, is_count_s, is_count_n_s, is_count_b_s, law_take_s, law_state_s]
theorem bads312 {g : Str} {m : Fm} {y0 y1 y2 b0 b1 : D} (hg : heldT g = some (m, [])) (h0 : m [y0, b0, y2] = .er ⟨"Malformed", []⟩) (h1 : m [y0, b1, y2] = .er ⟨"Malformed", []⟩) : m_law_bads [.glo g, .tup [y0, y1, y2], .int 1, .lst [b0, b1]] = .ok (.bl true) := by
  show outR (F_law_bads (some (.d (.glo g)) :: some (.d (.tup [y0, y1, y2])) :: some (.d (.int 1)) :: some (.d (.lst [b0, b1])) :: none :: none :: [])) = _
  dsimp! only [F_law_bads, toldE3 hg h0, toldE3 hg h1, is_integer_i_s, common_s, check_ratio_s, less_s, add_s, sub_s, mul_s, neg_s, size_s, eq_s, sign_s, make_s, over_s, over_0_s, is_zero_s, is_whole_s, is_short_s, Ratio_str_s, check_ratio_n_s, check_ratio_i_s, is_integer_n_s, is_integer_b_s, is_count_s, is_count_n_s, is_count_b_s, law_take_s, law_state_s]
theorem bads313 {g : Str} {m : Fm} {y0 y1 y2 b0 b1 b2 : D} (hg : heldT g = some (m, [])) (h0 : m [y0, b0, y2] = .er ⟨"Malformed", []⟩) (h1 : m [y0, b1, y2] = .er ⟨"Malformed", []⟩) (h2 : m [y0, b2, y2] = .er ⟨"Malformed", []⟩) : m_law_bads [.glo g, .tup [y0, y1, y2], .int 1, .lst [b0, b1, b2]] = .ok (.bl true) := by
  show outR (F_law_bads (some (.d (.glo g)) :: some (.d (.tup [y0, y1, y2])) :: some (.d (.int 1)) :: some (.d (.lst [b0, b1, b2])) :: none :: none :: [])) = _
  dsimp! only [F_law_bads, toldE3 hg h0, toldE3 hg h1, toldE3 hg h2, is_integer_i_s, common_s, check_ratio_s, less_s, add_s, sub_s, mul_s, neg_s, size_s, eq_s, sign_s, make_s, over_s, over_0_s, is_zero_s, is_whole_s, is_short_s, Ratio_str_s, check_ratio_n_s, check_ratio_i_s, is_integer_n_s, is_integer_b_s, is_count_s, is_count_n_s, is_count_b_s, law_take_s, law_state_s]
theorem bads314 {g : Str} {m : Fm} {y0 y1 y2 b0 b1 b2 b3 : D} (hg : heldT g = some (m, [])) (h0 : m [y0, b0, y2] = .er ⟨"Malformed", []⟩) (h1 : m [y0, b1, y2] = .er ⟨"Malformed", []⟩) (h2 : m [y0, b2, y2] = .er ⟨"Malformed", []⟩) (h3 : m [y0, b3, y2] = .er ⟨"Malformed", []⟩) : m_law_bads [.glo g, .tup [y0, y1, y2], .int 1, .lst [b0, b1, b2, b3]] = .ok (.bl true) := by
  show outR (F_law_bads (some (.d (.glo g)) :: some (.d (.tup [y0, y1, y2])) :: some (.d (.int 1)) :: some (.d (.lst [b0, b1, b2, b3])) :: none :: none :: [])) = _
  dsimp! only [F_law_bads, toldE3 hg h0, toldE3 hg h1, toldE3 hg h2, toldE3 hg h3, is_integer_i_s, common_s, check_ratio_s, less_s, add_s, sub_s, mul_s, neg_s, size_s, eq_s, sign_s, make_s, over_s, over_0_s, is_zero_s, is_whole_s, is_short_s, Ratio_str_s, check_ratio_n_s, check_ratio_i_s, is_integer_n_s, is_integer_b_s, is_count_s, is_count_n_s, is_count_b_s, law_take_s, law_state_s]
theorem bads315 {g : Str} {m : Fm} {y0 y1 y2 b0 b1 b2 b3 b4 : D} (hg : heldT g = some (m, [])) (h0 : m [y0, b0, y2] = .er ⟨"Malformed", []⟩) (h1 : m [y0, b1, y2] = .er ⟨"Malformed", []⟩) (h2 : m [y0, b2, y2] = .er ⟨"Malformed", []⟩) (h3 : m [y0, b3, y2] = .er ⟨"Malformed", []⟩) (h4 : m [y0, b4, y2] = .er ⟨"Malformed", []⟩) : m_law_bads [.glo g, .tup [y0, y1, y2], .int 1, .lst [b0, b1, b2, b3, b4]] = .ok (.bl true) := by
  show outR (F_law_bads (some (.d (.glo g)) :: some (.d (.tup [y0, y1, y2])) :: some (.d (.int 1)) :: some (.d (.lst [b0, b1, b2, b3, b4])) :: none :: none :: [])) = _
  dsimp! only [F_law_bads, toldE3 hg h0, toldE3 hg h1, toldE3 hg h2, toldE3 hg h3, toldE3 hg h4, is_integer_i_s, common_s, check_ratio_s, less_s, add_s, sub_s, mul_s, neg_s, size_s, eq_s, sign_s, make_s, over_s, over_0_s, is_zero_s, is_whole_s, is_short_s, Ratio_str_s, check_ratio_n_s, check_ratio_i_s, is_integer_n_s, is_integer_b_s, is_count_s, is_count_n_s, is_count_b_s, law_take_s, law_state_s]
theorem bads316 {g : Str} {m : Fm} {y0 y1 y2 b0 b1 b2 b3 b4 b5 : D} (hg : heldT g = some (m, [])) (h0 : m [y0, b0, y2] = .er ⟨"Malformed", []⟩) (h1 : m [y0, b1, y2] = .er ⟨"Malformed", []⟩) (h2 : m [y0, b2, y2] = .er ⟨"Malformed", []⟩) (h3 : m [y0, b3, y2] = .er ⟨"Malformed", []⟩) (h4 : m [y0, b4, y2] = .er ⟨"Malformed", []⟩) (h5 : m [y0, b5, y2] = .er ⟨"Malformed", []⟩) : m_law_bads [.glo g, .tup [y0, y1, y2], .int 1, .lst [b0, b1, b2, b3, b4, b5]] = .ok (.bl true) := by
  show outR (F_law_bads (some (.d (.glo g)) :: some (.d (.tup [y0, y1, y2])) :: some (.d (.int 1)) :: some (.d (.lst [b0, b1, b2, b3, b4, b5])) :: none :: none :: [])) = _
  dsimp! only [F_law_bads, toldE3 hg h0, toldE3 hg h1, toldE3 hg h2, toldE3 hg h3, toldE3 hg h4, toldE3 hg h5, is_integer_i_s, common_s, check_ratio_s, less_s, add_s, sub_s, mul_s, neg_s, size_s, eq_s, sign_s, make_s, over_s, over_0_s, is_zero_s, is_whole_s, is_short_s, Ratio_str_s, check_ratio_n_s, check_ratio_i_s, is_integer_n_s, is_integer_b_s, is_count_s, is_count_n_s, is_count_b_s, law_take_s, law_state_s]
theorem bads321 {g : Str} {m : Fm} {y0 y1 y2 b0 : D} (hg : heldT g = some (m, [])) (h0 : m [y0, y1, b0] = .er ⟨"Malformed", []⟩) : m_law_bads [.glo g, .tup [y0, y1, y2], .int 2, .lst [b0]] = .ok (.bl true) := by
  show outR (F_law_bads (some (.d (.glo g)) :: some (.d (.tup [y0, y1, y2])) :: some (.d (.int 2)) :: some (.d (.lst [b0])) :: none :: none :: [])) = _
  dsimp! only [F_law_bads, toldE3 hg h0, is_integer_i_s, common_s, check_ratio_s, less_s, add_s, sub_s, mul_s, neg_s, size_s, eq_s, sign_s, make_s, over_s, over_0_s, is_zero_s, is_whole_s, is_short_s, Ratio_str_s, check_ratio_n_s, check_ratio_i_s, is_integer_n_s, is_integer_b_s, is_count_s, is_count_n_s, is_count_b_s, law_take_s, law_state_s]
theorem bads322 {g : Str} {m : Fm} {y0 y1 y2 b0 b1 : D} (hg : heldT g = some (m, [])) (h0 : m [y0, y1, b0] = .er ⟨"Malformed", []⟩) (h1 : m [y0, y1, b1] = .er ⟨"Malformed", []⟩) : m_law_bads [.glo g, .tup [y0, y1, y2], .int 2, .lst [b0, b1]] = .ok (.bl true) := by
  show outR (F_law_bads (some (.d (.glo g)) :: some (.d (.tup [y0, y1, y2])) :: some (.d (.int 2)) :: some (.d (.lst [b0, b1])) :: none :: none :: [])) = _
  dsimp! only [F_law_bads, toldE3 hg h0, toldE3 hg h1, is_integer_i_s, common_s, check_ratio_s, less_s, add_s, sub_s, mul_s, neg_s, size_s, eq_s, sign_s, make_s, over_s, over_0_s, is_zero_s, is_whole_s, is_short_s, Ratio_str_s, check_ratio_n_s, check_ratio_i_s, is_integer_n_s, is_integer_b_s, is_count_s, is_count_n_s, is_count_b_s, law_take_s, law_state_s]
theorem bads323 {g : Str} {m : Fm} {y0 y1 y2 b0 b1 b2 : D} (hg : heldT g = some (m, [])) (h0 : m [y0, y1, b0] = .er ⟨"Malformed", []⟩) (h1 : m [y0, y1, b1] = .er ⟨"Malformed", []⟩) (h2 : m [y0, y1, b2] = .er ⟨"Malformed", []⟩) : m_law_bads [.glo g, .tup [y0, y1, y2], .int 2, .lst [b0, b1, b2]] = .ok (.bl true) := by
  show outR (F_law_bads (some (.d (.glo g)) :: some (.d (.tup [y0, y1, y2])) :: some (.d (.int 2)) :: some (.d (.lst [b0, b1, b2])) :: none :: none :: [])) = _
  dsimp! only [F_law_bads, toldE3 hg h0, toldE3 hg h1, toldE3 hg h2, is_integer_i_s, common_s, check_ratio_s, less_s, add_s, sub_s, mul_s, neg_s, size_s, eq_s, sign_s, make_s, over_s, over_0_s, is_zero_s, is_whole_s, is_short_s, Ratio_str_s, check_ratio_n_s, check_ratio_i_s, is_integer_n_s, is_integer_b_s, is_count_s, is_count_n_s, is_count_b_s, law_take_s, law_state_s]
theorem bads324 {g : Str} {m : Fm} {y0 y1 y2 b0 b1 b2 b3 : D} (hg : heldT g = some (m, [])) (h0 : m [y0, y1, b0] = .er ⟨"Malformed", []⟩) (h1 : m [y0, y1, b1] = .er ⟨"Malformed", []⟩) (h2 : m [y0, y1, b2] = .er ⟨"Malformed", []⟩) (h3 : m [y0, y1, b3] = .er ⟨"Malformed", []⟩) : m_law_bads [.glo g, .tup [y0, y1, y2], .int 2, .lst [b0, b1, b2, b3]] = .ok (.bl true) := by
  show outR (F_law_bads (some (.d (.glo g)) :: some (.d (.tup [y0, y1, y2])) :: some (.d (.int 2)) :: some (.d (.lst [b0, b1, b2, b3])) :: none :: none :: [])) = _
  dsimp! only [F_law_bads, toldE3 hg h0, toldE3 hg h1, toldE3 hg h2, toldE3 hg h3, is_integer_i_s, common_s, check_ratio_s, less_s, add_s, sub_s, mul_s, neg_s, size_s, eq_s, sign_s, make_s, over_s, over_0_s, is_zero_s, is_whole_s, is_short_s, Ratio_str_s, check_ratio_n_s, check_ratio_i_s, is_integer_n_s, is_integer_b_s, is_count_s, is_count_n_s, is_count_b_s, law_take_s, law_state_s]
theorem bads325 {g : Str} {m : Fm} {y0 y1 y2 b0 b1 b2 b3 b4 : D} (hg : heldT g = some (m, [])) (h0 : m [y0, y1, b0] = .er ⟨"Malformed", []⟩) (h1 : m [y0, y1, b1] = .er ⟨"Malformed", []⟩) (h2 : m [y0, y1, b2] = .er ⟨"Malformed", []⟩) (h3 : m [y0, y1, b3] = .er ⟨"Malformed", []⟩) (h4 : m [y0, y1, b4] = .er ⟨"Malformed", []⟩) : m_law_bads [.glo g, .tup [y0, y1, y2], .int 2, .lst [b0, b1, b2, b3, b4]] = .ok (.bl true) := by
  show outR (F_law_bads (some (.d (.glo g)) :: some (.d (.tup [y0, y1, y2])) :: some (.d (.int 2)) :: some (.d (.lst [b0, b1, b2, b3, b4])) :: none :: none :: [])) = _
  dsimp! only [F_law_bads, toldE3 hg h0, toldE3 hg h1, toldE3 hg h2, toldE3 hg h3, toldE3 hg h4, is_integer_i_s, common_s, check_ratio_s, less_s, add_s, sub_s, mul_s, neg_s, size_s, eq_s, sign_s, make_s, over_s, over_0_s, is_zero_s, is_whole_s, is_short_s, Ratio_str_s, check_ratio_n_s, check_ratio_i_s, is_integer_n_s, is_integer_b_s, is_count_s, is_count_n_s, is_count_b_s, law_take_s, law_state_s]
theorem bads326 {g : Str} {m : Fm} {y0 y1 y2 b0 b1 b2 b3 b4 b5 : D} (hg : heldT g = some (m, [])) (h0 : m [y0, y1, b0] = .er ⟨"Malformed", []⟩) (h1 : m [y0, y1, b1] = .er ⟨"Malformed", []⟩) (h2 : m [y0, y1, b2] = .er ⟨"Malformed", []⟩) (h3 : m [y0, y1, b3] = .er ⟨"Malformed", []⟩) (h4 : m [y0, y1, b4] = .er ⟨"Malformed", []⟩) (h5 : m [y0, y1, b5] = .er ⟨"Malformed", []⟩) : m_law_bads [.glo g, .tup [y0, y1, y2], .int 2, .lst [b0, b1, b2, b3, b4, b5]] = .ok (.bl true) := by
  show outR (F_law_bads (some (.d (.glo g)) :: some (.d (.tup [y0, y1, y2])) :: some (.d (.int 2)) :: some (.d (.lst [b0, b1, b2, b3, b4, b5])) :: none :: none :: [])) = _
  dsimp! only [F_law_bads, toldE3 hg h0, toldE3 hg h1, toldE3 hg h2, toldE3 hg h3, toldE3 hg h4, toldE3 hg h5, is_integer_i_s, common_s, check_ratio_s, less_s, add_s, sub_s, mul_s, neg_s, size_s, eq_s, sign_s, make_s, over_s, over_0_s, is_zero_s, is_whole_s, is_short_s, Ratio_str_s, check_ratio_n_s, check_ratio_i_s, is_integer_n_s, is_integer_b_s, is_count_s, is_count_n_s, is_count_b_s, law_take_s, law_state_s]
theorem same_bb_s {a b : Bool} : m_law_same [(.bl a), (.bl b)] = .ok (.bl (a == b)) := by
  show outR (F_law_same (r_law_same 11) [some (.d (.bl a)), some (.d (.bl b)), none]) = _
  dsimp! only [F_law_same, eqP_bb, is_integer_i_s, common_s, check_ratio_s, less_s, add_s, sub_s, mul_s, neg_s, size_s, eq_s, sign_s, make_s, over_s, over_0_s, is_zero_s, is_whole_s, is_short_s, Ratio_str_s, check_ratio_n_s, check_ratio_i_s, is_integer_n_s, is_integer_b_s, is_count_s, is_count_n_s, is_count_b_s, law_take_s, law_state_s]
theorem same_ii_s {a b : Int} : m_law_same [(.int a), (.int b)] = .ok (.bl (decide (a = b))) := by
  show outR (F_law_same (r_law_same 11) [some (.d (.int a)), some (.d (.int b)), none]) = _
  dsimp! only [F_law_same, is_integer_i_s, common_s, check_ratio_s, less_s, add_s, sub_s, mul_s, neg_s, size_s, eq_s, sign_s, make_s, over_s, over_0_s, is_zero_s, is_whole_s, is_short_s, Ratio_str_s, check_ratio_n_s, check_ratio_i_s, is_integer_n_s, is_integer_b_s, is_count_s, is_count_n_s, is_count_b_s, law_take_s, law_state_s, same_bb_s]
theorem same_nn_s  : m_law_same [.non, .non] = .ok (.bl true) := by
  show outR (F_law_same (r_law_same 11) [some (.d .non), some (.d .non), none]) = _
  dsimp! only [F_law_same, is_integer_i_s, common_s, check_ratio_s, less_s, add_s, sub_s, mul_s, neg_s, size_s, eq_s, sign_s, make_s, over_s, over_0_s, is_zero_s, is_whole_s, is_short_s, Ratio_str_s, check_ratio_n_s, check_ratio_i_s, is_integer_n_s, is_integer_b_s, is_count_s, is_count_n_s, is_count_b_s, law_take_s, law_state_s, same_bb_s, same_ii_s]
theorem same_qq_s {a b : Rat} : m_law_same [(qD a), (qD b)] = .ok (.bl (decide (a = b))) := by
  show outR (F_law_same (r_law_same 11) [some (.d (qD a)), some (.d (qD b)), none]) = _
  dsimp! only [F_law_same, is_integer_i_s, common_s, check_ratio_s, less_s, add_s, sub_s, mul_s, neg_s, size_s, eq_s, sign_s, make_s, over_s, over_0_s, is_zero_s, is_whole_s, is_short_s, Ratio_str_s, check_ratio_n_s, check_ratio_i_s, is_integer_n_s, is_integer_b_s, is_count_s, is_count_n_s, is_count_b_s, law_take_s, law_state_s, same_bb_s, same_ii_s, same_nn_s]
theorem is_told_of {x d : D} {b : Bool} (h : m_law_same [x, d] = .ok (.bl b)) : m_law_is_told [.tup [.str "told", x], d] = .ok (.bl b) := by
  show outR (F_law_is_told (some (.d (.tup [.str "told", x])) :: some (.d d) :: [])) = _
  dsimp! only [F_law_is_told, h, is_integer_i_s, common_s, check_ratio_s, less_s, add_s, sub_s, mul_s, neg_s, size_s, eq_s, sign_s, make_s, over_s, over_0_s, is_zero_s, is_whole_s, is_short_s, Ratio_str_s, check_ratio_n_s, check_ratio_i_s, is_integer_n_s, is_integer_b_s, is_count_s, is_count_n_s, is_count_b_s, law_take_s, law_state_s, same_bb_s, same_ii_s, same_nn_s, same_qq_s]
theorem tells_of {x d : D} {b : Bool} {g : Str} {y : D} (h : m_law_told [.glo g, y] = .ok (.tup [.str "told", x])) (hs : m_law_same [x, d] = .ok (.bl b)) : m_law_tells [.glo g, y, d] = .ok (.bl b) := by
  show outR (F_law_tells (some (.d (.glo g)) :: some (.d y) :: some (.d d) :: [])) = _
  dsimp! only [F_law_tells, h, is_told_of hs, is_integer_i_s, common_s, check_ratio_s, less_s, add_s, sub_s, mul_s, neg_s, size_s, eq_s, sign_s, make_s, over_s, over_0_s, is_zero_s, is_whole_s, is_short_s, Ratio_str_s, check_ratio_n_s, check_ratio_i_s, is_integer_n_s, is_integer_b_s, is_count_s, is_count_n_s, is_count_b_s, law_take_s, law_state_s, same_bb_s, same_ii_s, same_nn_s, same_qq_s]
theorem raises_zero {g : Str} {y : D} (h : m_law_told [.glo g, y] = .ok (.tup [.str "raised", .str "zero"])) : m_law_raises [.glo g, y, .str "zero"] = .ok (.bl true) := by
  have es : m_law_same [.str "zero", .str "zero"] = .ok (.bl true) := by
    show outR (F_law_same (r_law_same 11) [some (.d (.str "zero")), some (.d (.str "zero")), none]) = _
    dsimp! only [F_law_same, q_zero_zero_f, is_integer_i_s, common_s, check_ratio_s, less_s, add_s, sub_s, mul_s, neg_s, size_s, eq_s, sign_s, make_s, over_s, over_0_s, is_zero_s, is_whole_s, is_short_s, Ratio_str_s, check_ratio_n_s, check_ratio_i_s, is_integer_n_s, is_integer_b_s, is_count_s, is_count_n_s, is_count_b_s, law_take_s, law_state_s, same_bb_s, same_ii_s, same_nn_s, same_qq_s]
  have e : m_law_is_raised [.tup [.str "raised", .str "zero"], .str "zero"] = .ok (.bl true) := by
    show outR (F_law_is_raised (some (.d (.tup [.str "raised", .str "zero"])) :: some (.d (.str "zero")) :: [])) = _
    dsimp! only [F_law_is_raised, es, q_zero_malformed_f, is_integer_i_s, common_s, check_ratio_s, less_s, add_s, sub_s, mul_s, neg_s, size_s, eq_s, sign_s, make_s, over_s, over_0_s, is_zero_s, is_whole_s, is_short_s, Ratio_str_s, check_ratio_n_s, check_ratio_i_s, is_integer_n_s, is_integer_b_s, is_count_s, is_count_n_s, is_count_b_s, law_take_s, law_state_s, same_bb_s, same_ii_s, same_nn_s, same_qq_s]
  show outR (F_law_raises (some (.d (.glo g)) :: some (.d y) :: some (.d (.str "zero")) :: [])) = _
  dsimp! only [F_law_raises, h, e, is_integer_i_s, common_s, check_ratio_s, less_s, add_s, sub_s, mul_s, neg_s, size_s, eq_s, sign_s, make_s, over_s, over_0_s, is_zero_s, is_whole_s, is_short_s, Ratio_str_s, check_ratio_n_s, check_ratio_i_s, is_integer_n_s, is_integer_b_s, is_count_s, is_count_n_s, is_count_b_s, law_take_s, law_state_s, same_bb_s, same_ii_s, same_nn_s, same_qq_s]
theorem raises_long {g : Str} {y : D} (h : m_law_told [.glo g, y] = .ok (.tup [.str "raised", .str "long"])) : m_law_raises [.glo g, y, .str "long"] = .ok (.bl true) := by
  have es : m_law_same [.str "long", .str "long"] = .ok (.bl true) := by
    show outR (F_law_same (r_law_same 11) [some (.d (.str "long")), some (.d (.str "long")), none]) = _
    dsimp! only [F_law_same, q_long_long_f, is_integer_i_s, common_s, check_ratio_s, less_s, add_s, sub_s, mul_s, neg_s, size_s, eq_s, sign_s, make_s, over_s, over_0_s, is_zero_s, is_whole_s, is_short_s, Ratio_str_s, check_ratio_n_s, check_ratio_i_s, is_integer_n_s, is_integer_b_s, is_count_s, is_count_n_s, is_count_b_s, law_take_s, law_state_s, same_bb_s, same_ii_s, same_nn_s, same_qq_s]
  have e : m_law_is_raised [.tup [.str "raised", .str "long"], .str "long"] = .ok (.bl true) := by
    show outR (F_law_is_raised (some (.d (.tup [.str "raised", .str "long"])) :: some (.d (.str "long")) :: [])) = _
    dsimp! only [F_law_is_raised, es, q_long_malformed_f, is_integer_i_s, common_s, check_ratio_s, less_s, add_s, sub_s, mul_s, neg_s, size_s, eq_s, sign_s, make_s, over_s, over_0_s, is_zero_s, is_whole_s, is_short_s, Ratio_str_s, check_ratio_n_s, check_ratio_i_s, is_integer_n_s, is_integer_b_s, is_count_s, is_count_n_s, is_count_b_s, law_take_s, law_state_s, same_bb_s, same_ii_s, same_nn_s, same_qq_s]
  show outR (F_law_raises (some (.d (.glo g)) :: some (.d y) :: some (.d (.str "long")) :: [])) = _
  dsimp! only [F_law_raises, h, e, is_integer_i_s, common_s, check_ratio_s, less_s, add_s, sub_s, mul_s, neg_s, size_s, eq_s, sign_s, make_s, over_s, over_0_s, is_zero_s, is_whole_s, is_short_s, Ratio_str_s, check_ratio_n_s, check_ratio_i_s, is_integer_n_s, is_integer_b_s, is_count_s, is_count_n_s, is_count_b_s, law_take_s, law_state_s, same_bb_s, same_ii_s, same_nn_s, same_qq_s]
theorem raises_mal {g : Str} {y : D} (h : m_law_told [.glo g, y] = .ok (.tup [.str "malformed", .non])) : m_law_raises [.glo g, y, .str "malformed"] = .ok (.bl true) := by
  have e : m_law_is_raised [.tup [.str "malformed", .non], .str "malformed"] = .ok (.bl true) := by
    show outR (F_law_is_raised (some (.d (.tup [.str "malformed", .non])) :: some (.d (.str "malformed")) :: [])) = _
    dsimp! only [F_law_is_raised, is_integer_i_s, common_s, check_ratio_s, less_s, add_s, sub_s, mul_s, neg_s, size_s, eq_s, sign_s, make_s, over_s, over_0_s, is_zero_s, is_whole_s, is_short_s, Ratio_str_s, check_ratio_n_s, check_ratio_i_s, is_integer_n_s, is_integer_b_s, is_count_s, is_count_n_s, is_count_b_s, law_take_s, law_state_s, same_bb_s, same_ii_s, same_nn_s, same_qq_s]
  show outR (F_law_raises (some (.d (.glo g)) :: some (.d y) :: some (.d (.str "malformed")) :: [])) = _
  dsimp! only [F_law_raises, h, e, is_integer_i_s, common_s, check_ratio_s, less_s, add_s, sub_s, mul_s, neg_s, size_s, eq_s, sign_s, make_s, over_s, over_0_s, is_zero_s, is_whole_s, is_short_s, Ratio_str_s, check_ratio_n_s, check_ratio_i_s, is_integer_n_s, is_integer_b_s, is_count_s, is_count_n_s, is_count_b_s, law_take_s, law_state_s, same_bb_s, same_ii_s, same_nn_s, same_qq_s]
theorem raises_poly {g : Str} {y : D} (h : m_law_told [.glo g, y] = .ok (.tup [.str "raised", .str "poly"])) : m_law_raises [.glo g, y, .str "poly"] = .ok (.bl true) := by
  have es : m_law_same [.str "poly", .str "poly"] = .ok (.bl true) := by
    show outR (F_law_same (r_law_same 11) [some (.d (.str "poly")), some (.d (.str "poly")), none]) = _
    dsimp! only [F_law_same, q_poly_poly_f, is_integer_i_s, common_s, check_ratio_s, less_s, add_s, sub_s, mul_s, neg_s, size_s, eq_s, sign_s, make_s, over_s, over_0_s, is_zero_s, is_whole_s, is_short_s, Ratio_str_s, check_ratio_n_s, check_ratio_i_s, is_integer_n_s, is_integer_b_s, is_count_s, is_count_n_s, is_count_b_s, law_take_s, law_state_s, same_bb_s, same_ii_s, same_nn_s, same_qq_s]
  have e : m_law_is_raised [.tup [.str "raised", .str "poly"], .str "poly"] = .ok (.bl true) := by
    show outR (F_law_is_raised (some (.d (.tup [.str "raised", .str "poly"])) :: some (.d (.str "poly")) :: [])) = _
    dsimp! only [F_law_is_raised, es, q_poly_malformed_f, is_integer_i_s, common_s, check_ratio_s, less_s, add_s, sub_s, mul_s, neg_s, size_s, eq_s, sign_s, make_s, over_s, over_0_s, is_zero_s, is_whole_s, is_short_s, Ratio_str_s, check_ratio_n_s, check_ratio_i_s, is_integer_n_s, is_integer_b_s, is_count_s, is_count_n_s, is_count_b_s, law_take_s, law_state_s, same_bb_s, same_ii_s, same_nn_s, same_qq_s]
  show outR (F_law_raises (some (.d (.glo g)) :: some (.d y) :: some (.d (.str "poly")) :: [])) = _
  dsimp! only [F_law_raises, h, e, is_integer_i_s, common_s, check_ratio_s, less_s, add_s, sub_s, mul_s, neg_s, size_s, eq_s, sign_s, make_s, over_s, over_0_s, is_zero_s, is_whole_s, is_short_s, Ratio_str_s, check_ratio_n_s, check_ratio_i_s, is_integer_n_s, is_integer_b_s, is_count_s, is_count_n_s, is_count_b_s, law_take_s, law_state_s, same_bb_s, same_ii_s, same_nn_s, same_qq_s]
end G00


set_option Elab.async false
set_option linter.all false
set_option maxRecDepth 100000
set_option maxHeartbeats 4000000
namespace G00
open PySem PySem.Spec PyProof.Rows L2 DL
local macro_rules | `(tactic| simp! only [$a,*]) => `(tactic| simp -implicitDefEqProofs only [Res.bd_ok, Res.bd_er, Res.bs_ok, Res.bs_er, Out.sq_nx, Out.sq_rt, Out.sq_er, Out.sq_ro, Out.sq_bk, Out.sq_ct, Out.lp_nx, Out.lp_ct, Out.lp_bk, Out.lp_rt, Out.lp_ro, Out.lp_er, tif_t, tif_f, bd_eq, rt_eq, two_eq, kTwo_eq, consA_eq, kCons_eq, kCons2_eq, seqS_eq, nxS_eq, bkS_eq, ctS_eq, retN_eq, retS_eq, kRet_eq, retO_eq, kRo_eq, dropS_eq, kDrop_eq, setS_eq, kSet_eq, setO_eq, kSetO_eq, ifS_eq, kIfS_t, kIfS_f, par2_eq, kPar2_eq, par3_eq, kPar3_eq, asgS_eq, kAsg_eq, oNx_eq, gNm_eq, gN0_eq, gCN_eq, gTp2_eq, gTp3_eq, gTp4_eq, gTp5_eq, gTp6_eq, gTl2_eq, gTl3_eq, gTl4_eq, gTl5_eq, gTl6_eq, boolM_eq, blM_eq, kBl_eq, notM_eq, kNot_eq, andM_eq, kAnd_g, orM_eq, kOr_g, ifM_eq, kIf_g, andV_eq, kAndV_g, orV_eq, kOrV_g, notV_eq, kNotV_eq, isNV_eq, kIsN_n, kIsN_i, kIsN_b, kIsN_s, kIsN_t, kIsN_l, kIsN_o, callM_eq, rsM_ok, rsM_ow, rsM_er, callO_eq, rsO_ow, rsO_er, lentM_eq, kLent_eq, rsL_ok, rsL_er, getL_eq, kLt_own, kLt_bor, setL_eq, kSetL_own, kSetL_bor, hold_eq, kHold_eq, makeM_eq, rsMk_ok, rsMk_er, varD_eq, kCell_d, kCell_own, fldN_eq, kFld_d, kFld_bor, isiF_eq, kIsi_eq, methM_eq, kMeth_eq, kCallS_eq, addI_ii, subI_ii, mulI_ii, fdivI_ii, modI_ii, cmpI_ii, negD_i, ownN_i, absF_i, intF_i, intF2_i, lenNm_eq, tupM_0, tupM_1, tupM_2, tupM_3, tupM_4, tupM_5, tupM_6, lstM_0, lstM_1, lstM_2, lstM_3, lstM_4, lstM_5, lstM_6, ownM_0, ownM_1, ownM_2, itms_t, itms_l, itms_sc, ixM_t0, ixM_t1, ixM_l0, ixM_l1, ixM_t42, ixM_t43, ixM_l42, ixM_l43, ixM_t32, ixM_l32, ixNm_e, kVar_eq, kIxN_eq, kIx_d, kIx_o, kIx_b, forS_eq, forF_nil, forF_cons, kFor_eq, frzM_eq, kFrz_eq, lcM_eq, kLc_eq, lcE_ok, lcM2_eq, kLc2_eq, lcF_nil, lcF_cons, lk2_eq, lk3_t, lk3_f, lk4_0, lk4_1, lk4_2, lk4_3, lk4_4, lk4_5, wipe_0, wipe_1, merge_0, merge_1, keep_d, keep_n, eqP_ii, neP_ii, eqP_bb, neP_bb, ownO_eq, kOwn_eq, kOwn_n, ownN_eq, kOwnN_eq, kOwnN_n, eqO_eq, neO_eq, kOwnE_eq, kOwnE_n, kNotD_eq, whileS_eq, setF_eq, kSetF_eq, kSetF1_eq, kSetF2_eq, kSetF3_eq, outR_nx, outR_rt, outR_ro, outR_er, outB_nx, outB_rt, outB_er, raiseS_eq, raiseX_eq, kRaise_eq, chainM_eq, kCh1_eq, kCh2_eq, kCh3_g, slF_eq, kSl1_eq, kSl2_eq, kSl3_t, kSl3_l, kSl3_s, partF_eq, kPart_eq, holdL_eq, kHoldL_eq, chgM_eq, kChg_eq, kChg2_eq, appM_eq, kApp_eq, appG_0, appG_1, appG_2, appG_3, extM_eq, kExt_eq, sixS_eq, kSix1_eq, kSix2_eq, kNx_eq, sixG_0, sixG_1, sixG_2, listO_t, listO_l, tupF_t, tupF_l, rng_0, rng_1, rng_2, rng_3, rng_4, rng_5, rng_6, tryS_eq, kTry_er, kTry_rt, kTry_ro, kTry_nx, catchS_nil, catchS_cons, kCatch_t, kCatch_f, runX_n, runX_3, endX_rt, retX_eq, kRetX_eq, fldX_r, heldM_eq, kHeld_eq, kHeld2_eq, anyF_0, anyF_1, anyF_2, anyF_3, anyF_4, allF_0, allF_1, allF_2, allF_3, allF_4, strO_eq, kStrO_eq, kStr_eq, mlook_i, kStrO_n, joinM_eq, jsM_nil, jsM_cons, kJs_eq, addS_ss, addI_s, fmtD_i, strF_i, len_t0, len_l0, len_o0, lenF_t0, lenF_l0, len_t1, len_l1, len_o1, lenF_t1, lenF_l1, len_t2, len_l2, len_o2, lenF_t2, lenF_l2, len_t3, len_l3, len_o3, lenF_t3, lenF_l3, len_t4, len_l4, len_o4, lenF_t4, lenF_l4, len_t5, len_l5, len_o5, lenF_t5, lenF_l5, len_t6, len_l6, len_o6, lenF_t6, lenF_l6, tif_and, tif_or, tif_andB, tif_orB, mal_mal, eqT_eq, kEqT_f, kEqT_t, eqzs_nil, eqzs_cons, lstM_7, tupM_7, lstM_8, tupM_8, lstM_9, tupM_9, lstM_10, tupM_10, lstM_11, tupM_11, lstM_12, tupM_12, lstM_13, tupM_13, ownE_t, ownE_l, ownE_i, ownE_b, ownE_s, ownE_n, tif_q, tif_i, sg_ge, kZ_ss, lcF2_nil, lcF2_cons, l2a_eq, l2b_t, l2b_f, l2c_eq, l2d_eq, kJoin_2, ixM_t52, ixM_l52, ixM_t53, ixM_l53, ixM_t54, ixM_l54, ixM_t62, ixM_l62, ixM_t63, ixM_l63, ixM_t64, ixM_l64, ixM_t65, ixM_l65, ixM_t72, ixM_l72, ixM_t73, ixM_l73, ixM_t74, ixM_l74, ixM_t75, ixM_l75, ixM_t76, ixM_l76, ixM_t82, ixM_l82, ixM_t83, ixM_l83, ixM_t84, ixM_l84, ixM_t85, ixM_l85, ixM_t86, ixM_l86, ixM_t87, ixM_l87, kLenC_iD, kLenC_iDl, kLenC_iDo, revM_eq, kRev_t, kRev_l, enuF_l, enuF_t, iD_rev, rng3_down, List.getElem?_cons_zero, List.getElem?_cons_succ, List.set_cons_zero, List.set_cons_succ, List.cons_append, List.nil_append, List.append_nil, decide_true, decide_false, Bool.not_true, Bool.not_false, Bool.true_and, Bool.false_and, Bool.and_true, Bool.and_false, Bool.true_or, Bool.false_or, Bool.or_true, Bool.or_false, Bool.not_not, Int.reduceMul, Int.reduceAdd, Int.reduceSub, Int.reduceNeg, Nat.reduceAdd, Nat.reduceMul, Int.reduceEq, Int.reduceLT, Int.reduceLE, eq_self, beq_self_eq_true, Bool.and_assoc, Bool.or_assoc, ↓reduceIte, i_Ratio_non, i_Ratio_bl, i_Ratio_int, i_Ratio_str, i_Ratio_tup, i_Ratio_lst, i_Ratio_qD, i_int_non, i_int_bl, i_int_int, i_int_str, i_int_tup, i_int_lst, i_int_qD, i_bool_non, i_bool_bl, i_bool_int, i_bool_str, i_bool_tup, i_bool_lst, i_bool_qD, i_str_non, i_str_bl, i_str_int, i_str_str, i_str_tup, i_str_lst, i_str_qD, i_tuple_non, i_tuple_bl, i_tuple_int, i_tuple_str, i_tuple_tup, i_tuple_lst, i_tuple_qD, i_list_non, i_list_bl, i_list_int, i_list_str, i_list_tup, i_list_lst, i_list_qD, f_n_qD, f_d_qD, n_qD, e_qD, o_addI_qD, o_addS_qD, o_addT_qD, o_subI_qD, o_mulI_qD, o_ltS_qD, o_cmpI_qD, e_t_qD, t_mul1_qD, t_over1_qD, t_eq1_qD, t_eq1_qD_non, t_eq1_qD_bl, t_eq1_qD_int, t_eq1_qD_str, t_eq1_qD_tup, t_eq1_qD_lst, t_neg1_qD, t_str1_qD, t_add1_qD, t_sub1_qD, t_times1_qD, t_floor1_qD, t_less1_qD, t_size1_qD, t_is_whole1_qD, t_is_zero1_qD, t_sign1_qD, s_n_qD, s_d_qD, q_told_told_f, q_told_told_t, q_told_malformed_f, q_told_malformed_t, q_told_raised_f, q_told_raised_t, q_told_zero_f, q_told_zero_t, q_told_long_f, q_told_long_t, q_told_poly_f, q_told_poly_t, q_told_text_f, q_told_text_t, q_told_read_f, q_told_read_t, q_malformed_told_f, q_malformed_told_t, q_malformed_malformed_f, q_malformed_malformed_t, q_malformed_raised_f, q_malformed_raised_t, q_malformed_zero_f, q_malformed_zero_t, q_malformed_long_f, q_malformed_long_t, q_malformed_poly_f, q_malformed_poly_t, q_malformed_text_f, q_malformed_text_t, q_malformed_read_f, q_malformed_read_t, q_raised_told_f, q_raised_told_t, q_raised_malformed_f, q_raised_malformed_t, q_raised_raised_f, q_raised_raised_t, q_raised_zero_f, q_raised_zero_t, q_raised_long_f, q_raised_long_t, q_raised_poly_f, q_raised_poly_t, q_raised_text_f, q_raised_text_t, q_raised_read_f, q_raised_read_t, q_zero_told_f, q_zero_told_t, q_zero_malformed_f, q_zero_malformed_t, q_zero_raised_f, q_zero_raised_t, q_zero_zero_f, q_zero_zero_t, q_zero_long_f, q_zero_long_t, q_zero_poly_f, q_zero_poly_t, q_zero_text_f, q_zero_text_t, q_zero_read_f, q_zero_read_t, q_long_told_f, q_long_told_t, q_long_malformed_f, q_long_malformed_t, q_long_raised_f, q_long_raised_t, q_long_zero_f, q_long_zero_t, q_long_long_f, q_long_long_t, q_long_poly_f, q_long_poly_t, q_long_text_f, q_long_text_t, q_long_read_f, q_long_read_t, q_poly_told_f, q_poly_told_t, q_poly_malformed_f, q_poly_malformed_t, q_poly_raised_f, q_poly_raised_t, q_poly_zero_f, q_poly_zero_t, q_poly_long_f, q_poly_long_t, q_poly_poly_f, q_poly_poly_t, q_poly_text_f, q_poly_text_t, q_poly_read_f, q_poly_read_t, q_text_told_f, q_text_told_t, q_text_malformed_f, q_text_malformed_t, q_text_raised_f, q_text_raised_t, q_text_zero_f, q_text_zero_t, q_text_long_f, q_text_long_t, q_text_poly_f, q_text_poly_t, q_text_text_f, q_text_text_t, q_text_read_f, q_text_read_t, q_read_told_f, q_read_told_t, q_read_malformed_f, q_read_malformed_t, q_read_raised_f, q_read_raised_t, q_read_zero_f, q_read_zero_t, q_read_long_f, q_read_long_t, q_read_poly_f, q_read_poly_t, q_read_text_f, q_read_text_t, q_read_read_f, q_read_read_t, sub_Fault_Malformed, sub_Fault_NoText, sub_Fault_Refused, sub_Malformed_Malformed, sub_Malformed_NoText, sub_Malformed_Refused, sub_Refused_Malformed, sub_Refused_NoText, sub_Refused_Refused, sub_NoText_Malformed, sub_NoText_NoText, sub_NoText_Refused, held_choose, held_common, held_common_of, held_sign_of, held_changes, held_row_text, held_read_ratio, held_read_ratios, held_is_ratio_row, held__law_make, held__law_over, held_is_integer, held_is_count, held_is_whole_row, $a,*])
local macro_rules | `(tactic| dsimp! only [$a,*]) => `(tactic| simp -implicitDefEqProofs (disch := first | assumption | decide | (with_reducible (apply Bz_lv; (repeat (first | assumption | exact Bz_lit (by decide) (by decide) | exact Bz_lit (by omega) (by omega) | apply Bz_add | apply Bz_sub | apply Bz_mul | apply Bz_quo | apply Bz_neg | apply Bz_lsr | apply Bz_grt | apply Bz_ite)); first | decide | omega)) | exact mulOk_r (by decide) | exact mulOk_l (by decide) | exact divOk_s (by decide) (by decide) | exact Rat.le_refl | omega | (with_reducible (repeat (first | assumption | exact Lv_mono (by assumption) (by decide) | exact Lv_up (Lv0_div (by decide) (by decide)) | exact Lv_up (Lv0_div (by omega) (by omega)) | apply Lv_add | apply Lv_sub | apply Lv_mul | apply Lv_neg | apply Lv_ite | apply Lv_lsr | apply Lv_grt)); done) | (simp only [str_app_len]; omega)) only [Res.bd_ok, Res.bd_er, Res.bs_ok, Res.bs_er, Out.sq_nx, Out.sq_rt, Out.sq_er, Out.sq_ro, Out.sq_bk, Out.sq_ct, Out.lp_nx, Out.lp_ct, Out.lp_bk, Out.lp_rt, Out.lp_ro, Out.lp_er, tif_t, tif_f, bd_eq, rt_eq, two_eq, kTwo_eq, consA_eq, kCons_eq, kCons2_eq, seqS_eq, nxS_eq, bkS_eq, ctS_eq, retN_eq, retS_eq, kRet_eq, retO_eq, kRo_eq, dropS_eq, kDrop_eq, setS_eq, kSet_eq, setO_eq, kSetO_eq, ifS_eq, kIfS_t, kIfS_f, par2_eq, kPar2_eq, par3_eq, kPar3_eq, asgS_eq, kAsg_eq, oNx_eq, gNm_eq, gN0_eq, gCN_eq, gTp2_eq, gTp3_eq, gTp4_eq, gTp5_eq, gTp6_eq, gTl2_eq, gTl3_eq, gTl4_eq, gTl5_eq, gTl6_eq, boolM_eq, blM_eq, kBl_eq, notM_eq, kNot_eq, andM_eq, kAnd_g, orM_eq, kOr_g, ifM_eq, kIf_g, andV_eq, kAndV_g, orV_eq, kOrV_g, notV_eq, kNotV_eq, isNV_eq, kIsN_n, kIsN_i, kIsN_b, kIsN_s, kIsN_t, kIsN_l, kIsN_o, callM_eq, rsM_ok, rsM_ow, rsM_er, callO_eq, rsO_ow, rsO_er, lentM_eq, kLent_eq, rsL_ok, rsL_er, getL_eq, kLt_own, kLt_bor, setL_eq, kSetL_own, kSetL_bor, hold_eq, kHold_eq, makeM_eq, rsMk_ok, rsMk_er, varD_eq, kCell_d, kCell_own, fldN_eq, kFld_d, kFld_bor, isiF_eq, kIsi_eq, methM_eq, kMeth_eq, kCallS_eq, addI_ii, subI_ii, mulI_ii, fdivI_ii, modI_ii, cmpI_ii, negD_i, ownN_i, absF_i, intF_i, intF2_i, lenNm_eq, tupM_0, tupM_1, tupM_2, tupM_3, tupM_4, tupM_5, tupM_6, lstM_0, lstM_1, lstM_2, lstM_3, lstM_4, lstM_5, lstM_6, ownM_0, ownM_1, ownM_2, itms_t, itms_l, itms_sc, ixM_t0, ixM_t1, ixM_l0, ixM_l1, ixM_t42, ixM_t43, ixM_l42, ixM_l43, ixM_t32, ixM_l32, ixNm_e, kVar_eq, kIxN_eq, kIx_d, kIx_o, kIx_b, forS_eq, forF_nil, forF_cons, kFor_eq, frzM_eq, kFrz_eq, lcM_eq, kLc_eq, lcE_ok, lcM2_eq, kLc2_eq, lcF_nil, lcF_cons, lk2_eq, lk3_t, lk3_f, lk4_0, lk4_1, lk4_2, lk4_3, lk4_4, lk4_5, wipe_0, wipe_1, merge_0, merge_1, keep_d, keep_n, eqP_ii, neP_ii, eqP_bb, neP_bb, ownO_eq, kOwn_eq, kOwn_n, ownN_eq, kOwnN_eq, kOwnN_n, eqO_eq, neO_eq, kOwnE_eq, kOwnE_n, kNotD_eq, whileS_eq, setF_eq, kSetF_eq, kSetF1_eq, kSetF2_eq, kSetF3_eq, outR_nx, outR_rt, outR_ro, outR_er, outB_nx, outB_rt, outB_er, raiseS_eq, raiseX_eq, kRaise_eq, chainM_eq, kCh1_eq, kCh2_eq, kCh3_g, slF_eq, kSl1_eq, kSl2_eq, kSl3_t, kSl3_l, kSl3_s, partF_eq, kPart_eq, holdL_eq, kHoldL_eq, chgM_eq, kChg_eq, kChg2_eq, appM_eq, kApp_eq, appG_0, appG_1, appG_2, appG_3, extM_eq, kExt_eq, sixS_eq, kSix1_eq, kSix2_eq, kNx_eq, sixG_0, sixG_1, sixG_2, listO_t, listO_l, tupF_t, tupF_l, rng_0, rng_1, rng_2, rng_3, rng_4, rng_5, rng_6, tryS_eq, kTry_er, kTry_rt, kTry_ro, kTry_nx, catchS_nil, catchS_cons, kCatch_t, kCatch_f, runX_n, runX_3, endX_rt, retX_eq, kRetX_eq, fldX_r, heldM_eq, kHeld_eq, kHeld2_eq, anyF_0, anyF_1, anyF_2, anyF_3, anyF_4, allF_0, allF_1, allF_2, allF_3, allF_4, strO_eq, kStrO_eq, kStr_eq, mlook_i, kStrO_n, joinM_eq, jsM_nil, jsM_cons, kJs_eq, addS_ss, addI_s, fmtD_i, strF_i, len_t0, len_l0, len_o0, lenF_t0, lenF_l0, len_t1, len_l1, len_o1, lenF_t1, lenF_l1, len_t2, len_l2, len_o2, lenF_t2, lenF_l2, len_t3, len_l3, len_o3, lenF_t3, lenF_l3, len_t4, len_l4, len_o4, lenF_t4, lenF_l4, len_t5, len_l5, len_o5, lenF_t5, lenF_l5, len_t6, len_l6, len_o6, lenF_t6, lenF_l6, tif_and, tif_or, tif_andB, tif_orB, mal_mal, eqT_eq, kEqT_f, kEqT_t, eqzs_nil, eqzs_cons, lstM_7, tupM_7, lstM_8, tupM_8, lstM_9, tupM_9, lstM_10, tupM_10, lstM_11, tupM_11, lstM_12, tupM_12, lstM_13, tupM_13, ownE_t, ownE_l, ownE_i, ownE_b, ownE_s, ownE_n, tif_q, tif_i, sg_ge, kZ_ss, lcF2_nil, lcF2_cons, l2a_eq, l2b_t, l2b_f, l2c_eq, l2d_eq, kJoin_2, ixM_t52, ixM_l52, ixM_t53, ixM_l53, ixM_t54, ixM_l54, ixM_t62, ixM_l62, ixM_t63, ixM_l63, ixM_t64, ixM_l64, ixM_t65, ixM_l65, ixM_t72, ixM_l72, ixM_t73, ixM_l73, ixM_t74, ixM_l74, ixM_t75, ixM_l75, ixM_t76, ixM_l76, ixM_t82, ixM_l82, ixM_t83, ixM_l83, ixM_t84, ixM_l84, ixM_t85, ixM_l85, ixM_t86, ixM_l86, ixM_t87, ixM_l87, kLenC_iD, kLenC_iDl, kLenC_iDo, revM_eq, kRev_t, kRev_l, enuF_l, enuF_t, iD_rev, rng3_down, List.getElem?_cons_zero, List.getElem?_cons_succ, List.set_cons_zero, List.set_cons_succ, List.cons_append, List.nil_append, List.append_nil, decide_true, decide_false, Bool.not_true, Bool.not_false, Bool.true_and, Bool.false_and, Bool.and_true, Bool.and_false, Bool.true_or, Bool.false_or, Bool.or_true, Bool.or_false, Bool.not_not, Int.reduceMul, Int.reduceAdd, Int.reduceSub, Int.reduceNeg, Nat.reduceAdd, Nat.reduceMul, Int.reduceEq, Int.reduceLT, Int.reduceLE, eq_self, beq_self_eq_true, Bool.and_assoc, Bool.or_assoc, ↓reduceIte, i_Ratio_non, i_Ratio_bl, i_Ratio_int, i_Ratio_str, i_Ratio_tup, i_Ratio_lst, i_Ratio_qD, i_int_non, i_int_bl, i_int_int, i_int_str, i_int_tup, i_int_lst, i_int_qD, i_bool_non, i_bool_bl, i_bool_int, i_bool_str, i_bool_tup, i_bool_lst, i_bool_qD, i_str_non, i_str_bl, i_str_int, i_str_str, i_str_tup, i_str_lst, i_str_qD, i_tuple_non, i_tuple_bl, i_tuple_int, i_tuple_str, i_tuple_tup, i_tuple_lst, i_tuple_qD, i_list_non, i_list_bl, i_list_int, i_list_str, i_list_tup, i_list_lst, i_list_qD, f_n_qD, f_d_qD, n_qD, e_qD, o_addI_qD, o_addS_qD, o_addT_qD, o_subI_qD, o_mulI_qD, o_ltS_qD, o_cmpI_qD, e_t_qD, t_mul1_qD, t_over1_qD, t_eq1_qD, t_eq1_qD_non, t_eq1_qD_bl, t_eq1_qD_int, t_eq1_qD_str, t_eq1_qD_tup, t_eq1_qD_lst, t_neg1_qD, t_str1_qD, t_add1_qD, t_sub1_qD, t_times1_qD, t_floor1_qD, t_less1_qD, t_size1_qD, t_is_whole1_qD, t_is_zero1_qD, t_sign1_qD, s_n_qD, s_d_qD, q_told_told_f, q_told_told_t, q_told_malformed_f, q_told_malformed_t, q_told_raised_f, q_told_raised_t, q_told_zero_f, q_told_zero_t, q_told_long_f, q_told_long_t, q_told_poly_f, q_told_poly_t, q_told_text_f, q_told_text_t, q_told_read_f, q_told_read_t, q_malformed_told_f, q_malformed_told_t, q_malformed_malformed_f, q_malformed_malformed_t, q_malformed_raised_f, q_malformed_raised_t, q_malformed_zero_f, q_malformed_zero_t, q_malformed_long_f, q_malformed_long_t, q_malformed_poly_f, q_malformed_poly_t, q_malformed_text_f, q_malformed_text_t, q_malformed_read_f, q_malformed_read_t, q_raised_told_f, q_raised_told_t, q_raised_malformed_f, q_raised_malformed_t, q_raised_raised_f, q_raised_raised_t, q_raised_zero_f, q_raised_zero_t, q_raised_long_f, q_raised_long_t, q_raised_poly_f, q_raised_poly_t, q_raised_text_f, q_raised_text_t, q_raised_read_f, q_raised_read_t, q_zero_told_f, q_zero_told_t, q_zero_malformed_f, q_zero_malformed_t, q_zero_raised_f, q_zero_raised_t, q_zero_zero_f, q_zero_zero_t, q_zero_long_f, q_zero_long_t, q_zero_poly_f, q_zero_poly_t, q_zero_text_f, q_zero_text_t, q_zero_read_f, q_zero_read_t, q_long_told_f, q_long_told_t, q_long_malformed_f, q_long_malformed_t, q_long_raised_f, q_long_raised_t, q_long_zero_f, q_long_zero_t, q_long_long_f, q_long_long_t, q_long_poly_f, q_long_poly_t, q_long_text_f, q_long_text_t, q_long_read_f, q_long_read_t, q_poly_told_f, q_poly_told_t, q_poly_malformed_f, q_poly_malformed_t, q_poly_raised_f, q_poly_raised_t, q_poly_zero_f, q_poly_zero_t, q_poly_long_f, q_poly_long_t, q_poly_poly_f, q_poly_poly_t, q_poly_text_f, q_poly_text_t, q_poly_read_f, q_poly_read_t, q_text_told_f, q_text_told_t, q_text_malformed_f, q_text_malformed_t, q_text_raised_f, q_text_raised_t, q_text_zero_f, q_text_zero_t, q_text_long_f, q_text_long_t, q_text_poly_f, q_text_poly_t, q_text_text_f, q_text_text_t, q_text_read_f, q_text_read_t, q_read_told_f, q_read_told_t, q_read_malformed_f, q_read_malformed_t, q_read_raised_f, q_read_raised_t, q_read_zero_f, q_read_zero_t, q_read_long_f, q_read_long_t, q_read_poly_f, q_read_poly_t, q_read_text_f, q_read_text_t, q_read_read_f, q_read_read_t, sub_Fault_Malformed, sub_Fault_NoText, sub_Fault_Refused, sub_Malformed_Malformed, sub_Malformed_NoText, sub_Malformed_Refused, sub_Refused_Malformed, sub_Refused_NoText, sub_Refused_Refused, sub_NoText_Malformed, sub_NoText_NoText, sub_NoText_Refused, held_choose, held_common, held_common_of, held_sign_of, held_changes, held_row_text, held_read_ratio, held_read_ratios, held_is_ratio_row, held__law_make, held__law_over, held_is_integer, held_is_count, held_is_whole_row, $a,*])

theorem txt_cases {q : Rat} (h : Lv 0 q) : ∃ (sg : Bool) (m n : Nat), m ≤ 2147483648 ∧ n ≤ 2147483648 ∧ q.num.natAbs = m ∧ q.den = n ∧ n ≠ 0 ∧ (sg = decide (q.num < 0)) ∧
    qtxt q = (if sg then Str.ofString "-" else Str.empty) ++ (nT m ++ (if n = 1 then Str.empty else Str.ofString "/" ++ nT n)) := by
  refine ⟨decide (q.num < 0), q.num.natAbs, q.den, (by have := h.n; have e : Bn 0 = 4294967296 := rfl; rw [e] at this; omega), (by have := h.d; have e : Bn 0 = 4294967296 := rfl; rw [e] at this; omega), rfl, rfl, q.den_nz, rfl, ?_⟩
  have e2 : Str.ofString (toString (q.den : Int)) = nT q.den := rfl
  unfold qtxt
  by_cases hn : q.num < 0
  · rw [itx_neg hn, decide_eq_true hn, e2]
    by_cases hd : q.den = 1
    · rw [if_pos hd, if_pos hd, if_pos rfl, Str.append_empty]
    · rw [if_neg hd, if_neg hd, if_pos rfl, Str.empty_append, Str.append_assoc, Str.append_assoc]
  · rw [itx_pos (by omega), decide_eq_false hn, e2]
    by_cases hd : q.den = 1
    · rw [if_pos hd, if_pos hd, if_neg (by decide), Str.append_empty, Str.empty_append]
    · rw [if_neg hd, if_neg hd, if_neg (by decide), Str.empty_append, Str.empty_append, Str.append_assoc]
theorem dig_all {k : Nat} {x0 x1 x2 x3 x4 x5 : Option Cl} (hk : k ≤ 2147483648) : lcF [6] (gNm 6) (rt true) (chainM (rt (.str "0")) (varD 6) (rt (.str "9")) (cmpI (fun i j => decide (i ≤ j)) (leS noO)) (cmpI (fun i j => decide (i ≤ j)) (leS noO))) (chrs (nT k)) [] [x0, x1, x2, x3, x4, x5, none] =
    .ok ((chrs (nT k)).map fun a => D.bl ((fun _ => true) a)) [x0, x1, x2, x3, x4, x5, none] := by
  have hl : (chrs (nT k)).length ≤ 30 := by
    have e : (chrs (nT k)).length = (nT k).length := by unfold chrs; simp [Str.length]
    rw [e]; exact nT_len (Nat.lt_of_le_of_lt hk (by decide))
  rw [lcF_map (fun _ => D.bl true) (chrs (nT k)) [] (by simp; omega) (by
    intro d hd
    obtain ⟨c, rfl, h1, h2⟩ := chrs_dig hd
    refine ⟨_, _, [x0, x1, x2, x3, x4, x5, some (.d (.str ⟨#[c]⟩))], rfl, rfl, ?_, rfl⟩
    have e := le_dig (u := noO) (v := noO) (ρ := [x0, x1, x2, x3, x4, x5, some (.d (.str ⟨#[c]⟩))]) h1 h2
    rw [chainM_eq, rt_eq, Res.bd_ok, kCh1_eq] at e ⊢
    rw [rt_eq, Res.bd_ok] at e
    exact e)]
  rfl
theorem read_ratio_s {q : Rat} (h : Lv 0 q) : m_read_ratio [.str (qtxt q)] = .ok (qD q) := by
  obtain ⟨sg, m, n, hm, hn, em, en, n0, esg, et⟩ := txt_cases h
  have hl := qtxt_len h
  have hok := qtxt_ok q
  have hstr := Ratio_str_s h
  have hm2 : m < 10 ^ 30 := Nat.lt_of_le_of_lt hm (by decide)
  have hn2 : n < 10 ^ 30 := Nat.lt_of_le_of_lt hn (by decide)
  have lm := nT_len hm2
  have ln := nT_len hn2
  have im : ∀ ρ, intF2 [.str (nT m)] ρ = .ok (.int (m : Int)) ρ := fun ρ => intF2_s (int_nT hm2) (by omega)
  have in' : ∀ ρ, intF2 [.str (nT n)] ρ = .ok (.int (n : Int)) ρ := fun ρ => intF2_s (int_nT hn2) (by omega)
  have d400 : decide ((400 : Int) < ((qtxt q).length : Nat)) = false := decide_eq_false (by omega)
  have klen : ∀ ρ, kLenC (some (some (.d (.str (qtxt q))))) ρ = .ok (.int ((qtxt q).length : Nat)) ρ := fun ρ => kLenC_s (by omega)
  have all1 : ∀ l : List D, l.all (fun _ => true) = true := fun l => by simp
  have s1 : Str.ofString "1" = nT 1 := by decide +kernel
  have dm := fun x0 x1 x2 x3 x4 x5 => dig_all (k := m) (x0 := x0) (x1 := x1) (x2 := x2) (x3 := x3) (x4 := x4) (x5 := x5) hm
  have dn := fun x0 x1 x2 x3 x4 x5 => dig_all (k := n) (x0 := x0) (x1 := x1) (x2 := x2) (x3 := x3) (x4 := x4) (x5 := x5) hn
  have ne : ∀ (u : OpF) (k : Nat) ρ, eqP false u (.str (nT k)) (.str (Str.ofString "")) ρ = .ok (.bl false) ρ := fun u k ρ => by
    rw [eqP_ss (by rw [shaped_str]; exact nT_ok k) (by rw [shaped_str]; exact strOk_of _), nT_ne]
  have ss : ∀ (u : OpF) ρ, eqP false u (.str (Str.ofString "/")) (.str (Str.ofString "/")) ρ = .ok (.bl true) ρ := fun u ρ => eqP_sd (by decide +kernel) (by decide +kernel)
  have se : ∀ (u : OpF) ρ, eqP false u (.str Str.empty) (.str (Str.ofString "/")) ρ = .ok (.bl false) ρ := fun u ρ => eqP_sd (by decide +kernel) (by decide +kernel)
  have nint : (n : Int) ≠ 0 := by omega
  have lq : Lv 7 (Rat.divInt (m : Int) (n : Int)) := Lv_up (Lv0_div (by omega) (by omega))
  have hq : (if sg then -Rat.divInt (m : Int) (n : Int) else Rat.divInt (m : Int) (n : Int)) = q := by
    rw [← em, ← en, size_divInt, esg]
    by_cases k : q.num < 0
    · have k2 : ¬ 0 ≤ q := fun z => by have := Rat.num_nonneg.mpr z; omega
      rw [decide_eq_true k, if_pos rfl, if_neg k2, Rat.neg_neg]
    · have k2 : 0 ≤ q := Rat.num_nonneg.mp (by omega)
      rw [decide_eq_false k, if_neg (by decide), if_pos k2]
  have l1 : (Str.ofString "/").length = 1 := by decide +kernel
  have lz : ((Str.ofString "/").length == 0) = false := by rw [l1]; rfl
  obtain ⟨c0, r0, hc0, hc1, hc2⟩ := nT_cons m
  obtain ⟨B, hB⟩ : ∃ B, nT m ++ (if n = 1 then Str.empty else Str.ofString "/" ++ nT n) = B := ⟨_, rfl⟩
  rw [hB] at et
  have hBt : ∃ r, _root_.TL.tl B = c0 :: r := by
    rw [← hB, _root_.TL.tl_append, hc0]; exact ⟨_, rfl⟩
  obtain ⟨rB, hBt⟩ := hBt
  have hBl : B.length ≤ 63 := by
    have := congrArg Str.length et
    rw [Str.length_append] at this; omega
  have hrp : gRp (qtxt q) (Str.ofString "-") = some (.str B) := gRp_of (by omega) (by
    rw [et]; cases sg with
    | true => exact pre_dash B
    | false => rw [if_neg (by decide), Str.empty_append]; exact pre_no hBt (by omega))
  have hsw : gSw (qtxt q) (Str.ofString "-") = some (.bl sg) := by
    unfold gSw
    rw [et]; cases sg with
    | true => rw [if_pos rfl, sw_dash]
    | false => rw [if_neg (by decide), Str.empty_append, sw_no hBt (by omega)]
  show outR (F_read_ratio (some (.d (.str (qtxt q))) :: none :: none :: none :: none :: none :: none :: [])) = _
  by_cases k1 : n = 1
  · have hpt : gPt B (Str.ofString "/") = some (.tup [.str (nT m), .str Str.empty, .str Str.empty]) := gPt_of (by omega) lz (by
      rw [← hB, if_pos k1, Str.append_empty]; exact part_whole m)
    subst k1
    cases sg with
    | true =>
      have hq : -Rat.divInt (m : Int) ((1 : Nat) : Int) = q := hq
      have lq : Lv 7 (Rat.divInt (m : Int) 1) := lq
      have hq2 : -Rat.divInt (m : Int) 1 = q := hq
      dsimp! only [F_read_ratio, klen, d400, tx1_eq, kTx_eq, optM_s, hrp, hpt, hsw, ss, se, s1, ne, itms_s, dm, dn, allF_map, all1, im, in', hq2, hstr, neP_same, is_integer_i_s, common_s, check_ratio_s, less_s, add_s, sub_s, mul_s, neg_s, size_s, eq_s, sign_s, make_s, over_s, over_0_s, is_zero_s, is_whole_s, is_short_s, Ratio_str_s, check_ratio_n_s, check_ratio_i_s, is_integer_n_s, is_integer_b_s, is_count_s, is_count_n_s, is_count_b_s, law_take_s, law_state_s, same_bb_s, same_ii_s, same_nn_s, same_qq_s]
    | false =>
      have hq2 : Rat.divInt (m : Int) 1 = q := hq
      have lq : Lv 7 (Rat.divInt (m : Int) 1) := lq
      dsimp! only [F_read_ratio, klen, d400, tx1_eq, kTx_eq, optM_s, hrp, hpt, hsw, ss, se, s1, ne, itms_s, dm, dn, allF_map, all1, im, in', hq2, hstr, neP_same, is_integer_i_s, common_s, check_ratio_s, less_s, add_s, sub_s, mul_s, neg_s, size_s, eq_s, sign_s, make_s, over_s, over_0_s, is_zero_s, is_whole_s, is_short_s, Ratio_str_s, check_ratio_n_s, check_ratio_i_s, is_integer_n_s, is_integer_b_s, is_count_s, is_count_n_s, is_count_b_s, law_take_s, law_state_s, same_bb_s, same_ii_s, same_nn_s, same_qq_s]
  · have hpt : gPt B (Str.ofString "/") = some (.tup [.str (nT m), .str (Str.ofString "/"), .str (nT n)]) := gPt_of (by omega) lz (by
      rw [← hB, if_neg k1, ← Str.append_assoc]; exact part_slash m (nT n))
    cases sg with
    | true =>
      have hq2 : -Rat.divInt (m : Int) (n : Int) = q := hq
      dsimp! only [F_read_ratio, klen, d400, tx1_eq, kTx_eq, optM_s, hrp, hpt, hsw, ss, se, s1, ne, itms_s, dm, dn, allF_map, all1, im, in', decide_eq_false nint, hq2, hstr, neP_same, is_integer_i_s, common_s, check_ratio_s, less_s, add_s, sub_s, mul_s, neg_s, size_s, eq_s, sign_s, make_s, over_s, over_0_s, is_zero_s, is_whole_s, is_short_s, Ratio_str_s, check_ratio_n_s, check_ratio_i_s, is_integer_n_s, is_integer_b_s, is_count_s, is_count_n_s, is_count_b_s, law_take_s, law_state_s, same_bb_s, same_ii_s, same_nn_s, same_qq_s]
    | false =>
      have hq2 : Rat.divInt (m : Int) (n : Int) = q := hq
      dsimp! only [F_read_ratio, klen, d400, tx1_eq, kTx_eq, optM_s, hrp, hpt, hsw, ss, se, s1, ne, itms_s, dm, dn, allF_map, all1, im, in', decide_eq_false nint, hq2, hstr, neP_same, is_integer_i_s, common_s, check_ratio_s, less_s, add_s, sub_s, mul_s, neg_s, size_s, eq_s, sign_s, make_s, over_s, over_0_s, is_zero_s, is_whole_s, is_short_s, Ratio_str_s, check_ratio_n_s, check_ratio_i_s, is_integer_n_s, is_integer_b_s, is_count_s, is_count_n_s, is_count_b_s, law_take_s, law_state_s, same_bb_s, same_ii_s, same_nn_s, same_qq_s]
end G00


set_option Elab.async false
set_option linter.all false
set_option maxRecDepth 100000
set_option maxHeartbeats 4000000
namespace G00
open PySem PySem.Spec PyProof.Rows L2 DL
local macro_rules | `(tactic| simp! only [$a,*]) => `(tactic| simp -implicitDefEqProofs only [Res.bd_ok, Res.bd_er, Res.bs_ok, Res.bs_er, Out.sq_nx, Out.sq_rt, Out.sq_er, Out.sq_ro, Out.sq_bk, Out.sq_ct, Out.lp_nx, Out.lp_ct, Out.lp_bk, Out.lp_rt, Out.lp_ro, Out.lp_er, tif_t, tif_f, bd_eq, rt_eq, two_eq, kTwo_eq, consA_eq, kCons_eq, kCons2_eq, seqS_eq, nxS_eq, bkS_eq, ctS_eq, retN_eq, retS_eq, kRet_eq, retO_eq, kRo_eq, dropS_eq, kDrop_eq, setS_eq, kSet_eq, setO_eq, kSetO_eq, ifS_eq, kIfS_t, kIfS_f, par2_eq, kPar2_eq, par3_eq, kPar3_eq, asgS_eq, kAsg_eq, oNx_eq, gNm_eq, gN0_eq, gCN_eq, gTp2_eq, gTp3_eq, gTp4_eq, gTp5_eq, gTp6_eq, gTl2_eq, gTl3_eq, gTl4_eq, gTl5_eq, gTl6_eq, boolM_eq, blM_eq, kBl_eq, notM_eq, kNot_eq, andM_eq, kAnd_g, orM_eq, kOr_g, ifM_eq, kIf_g, andV_eq, kAndV_g, orV_eq, kOrV_g, notV_eq, kNotV_eq, isNV_eq, kIsN_n, kIsN_i, kIsN_b, kIsN_s, kIsN_t, kIsN_l, kIsN_o, callM_eq, rsM_ok, rsM_ow, rsM_er, callO_eq, rsO_ow, rsO_er, lentM_eq, kLent_eq, rsL_ok, rsL_er, getL_eq, kLt_own, kLt_bor, setL_eq, kSetL_own, kSetL_bor, hold_eq, kHold_eq, makeM_eq, rsMk_ok, rsMk_er, varD_eq, kCell_d, kCell_own, fldN_eq, kFld_d, kFld_bor, isiF_eq, kIsi_eq, methM_eq, kMeth_eq, kCallS_eq, addI_ii, subI_ii, mulI_ii, fdivI_ii, modI_ii, cmpI_ii, negD_i, ownN_i, absF_i, intF_i, intF2_i, lenNm_eq, tupM_0, tupM_1, tupM_2, tupM_3, tupM_4, tupM_5, tupM_6, lstM_0, lstM_1, lstM_2, lstM_3, lstM_4, lstM_5, lstM_6, ownM_0, ownM_1, ownM_2, itms_t, itms_l, itms_sc, ixM_t0, ixM_t1, ixM_l0, ixM_l1, ixM_t42, ixM_t43, ixM_l42, ixM_l43, ixM_t32, ixM_l32, ixNm_e, kVar_eq, kIxN_eq, kIx_d, kIx_o, kIx_b, forS_eq, forF_nil, forF_cons, kFor_eq, frzM_eq, kFrz_eq, lcM_eq, kLc_eq, lcE_ok, lcM2_eq, kLc2_eq, lcF_nil, lcF_cons, lk2_eq, lk3_t, lk3_f, lk4_0, lk4_1, lk4_2, lk4_3, lk4_4, lk4_5, wipe_0, wipe_1, merge_0, merge_1, keep_d, keep_n, eqP_ii, neP_ii, eqP_bb, neP_bb, ownO_eq, kOwn_eq, kOwn_n, ownN_eq, kOwnN_eq, kOwnN_n, eqO_eq, neO_eq, kOwnE_eq, kOwnE_n, kNotD_eq, whileS_eq, setF_eq, kSetF_eq, kSetF1_eq, kSetF2_eq, kSetF3_eq, outR_nx, outR_rt, outR_ro, outR_er, outB_nx, outB_rt, outB_er, raiseS_eq, raiseX_eq, kRaise_eq, chainM_eq, kCh1_eq, kCh2_eq, kCh3_g, slF_eq, kSl1_eq, kSl2_eq, kSl3_t, kSl3_l, kSl3_s, partF_eq, kPart_eq, holdL_eq, kHoldL_eq, chgM_eq, kChg_eq, kChg2_eq, appM_eq, kApp_eq, appG_0, appG_1, appG_2, appG_3, extM_eq, kExt_eq, sixS_eq, kSix1_eq, kSix2_eq, kNx_eq, sixG_0, sixG_1, sixG_2, listO_t, listO_l, tupF_t, tupF_l, rng_0, rng_1, rng_2, rng_3, rng_4, rng_5, rng_6, tryS_eq, kTry_er, kTry_rt, kTry_ro, kTry_nx, catchS_nil, catchS_cons, kCatch_t, kCatch_f, runX_n, runX_3, endX_rt, retX_eq, kRetX_eq, fldX_r, heldM_eq, kHeld_eq, kHeld2_eq, anyF_0, anyF_1, anyF_2, anyF_3, anyF_4, allF_0, allF_1, allF_2, allF_3, allF_4, strO_eq, kStrO_eq, kStr_eq, mlook_i, kStrO_n, joinM_eq, jsM_nil, jsM_cons, kJs_eq, addS_ss, addI_s, fmtD_i, strF_i, len_t0, len_l0, len_o0, lenF_t0, lenF_l0, len_t1, len_l1, len_o1, lenF_t1, lenF_l1, len_t2, len_l2, len_o2, lenF_t2, lenF_l2, len_t3, len_l3, len_o3, lenF_t3, lenF_l3, len_t4, len_l4, len_o4, lenF_t4, lenF_l4, len_t5, len_l5, len_o5, lenF_t5, lenF_l5, len_t6, len_l6, len_o6, lenF_t6, lenF_l6, tif_and, tif_or, tif_andB, tif_orB, mal_mal, eqT_eq, kEqT_f, kEqT_t, eqzs_nil, eqzs_cons, lstM_7, tupM_7, lstM_8, tupM_8, lstM_9, tupM_9, lstM_10, tupM_10, lstM_11, tupM_11, lstM_12, tupM_12, lstM_13, tupM_13, ownE_t, ownE_l, ownE_i, ownE_b, ownE_s, ownE_n, tif_q, tif_i, sg_ge, kZ_ss, lcF2_nil, lcF2_cons, l2a_eq, l2b_t, l2b_f, l2c_eq, l2d_eq, kJoin_2, ixM_t52, ixM_l52, ixM_t53, ixM_l53, ixM_t54, ixM_l54, ixM_t62, ixM_l62, ixM_t63, ixM_l63, ixM_t64, ixM_l64, ixM_t65, ixM_l65, ixM_t72, ixM_l72, ixM_t73, ixM_l73, ixM_t74, ixM_l74, ixM_t75, ixM_l75, ixM_t76, ixM_l76, ixM_t82, ixM_l82, ixM_t83, ixM_l83, ixM_t84, ixM_l84, ixM_t85, ixM_l85, ixM_t86, ixM_l86, ixM_t87, ixM_l87, kLenC_iD, kLenC_iDl, kLenC_iDo, revM_eq, kRev_t, kRev_l, enuF_l, enuF_t, iD_rev, rng3_down, List.getElem?_cons_zero, List.getElem?_cons_succ, List.set_cons_zero, List.set_cons_succ, List.cons_append, List.nil_append, List.append_nil, decide_true, decide_false, Bool.not_true, Bool.not_false, Bool.true_and, Bool.false_and, Bool.and_true, Bool.and_false, Bool.true_or, Bool.false_or, Bool.or_true, Bool.or_false, Bool.not_not, Int.reduceMul, Int.reduceAdd, Int.reduceSub, Int.reduceNeg, Nat.reduceAdd, Nat.reduceMul, Int.reduceEq, Int.reduceLT, Int.reduceLE, eq_self, beq_self_eq_true, Bool.and_assoc, Bool.or_assoc, ↓reduceIte, i_Ratio_non, i_Ratio_bl, i_Ratio_int, i_Ratio_str, i_Ratio_tup, i_Ratio_lst, i_Ratio_qD, i_int_non, i_int_bl, i_int_int, i_int_str, i_int_tup, i_int_lst, i_int_qD, i_bool_non, i_bool_bl, i_bool_int, i_bool_str, i_bool_tup, i_bool_lst, i_bool_qD, i_str_non, i_str_bl, i_str_int, i_str_str, i_str_tup, i_str_lst, i_str_qD, i_tuple_non, i_tuple_bl, i_tuple_int, i_tuple_str, i_tuple_tup, i_tuple_lst, i_tuple_qD, i_list_non, i_list_bl, i_list_int, i_list_str, i_list_tup, i_list_lst, i_list_qD, f_n_qD, f_d_qD, n_qD, e_qD, o_addI_qD, o_addS_qD, o_addT_qD, o_subI_qD, o_mulI_qD, o_ltS_qD, o_cmpI_qD, e_t_qD, t_mul1_qD, t_over1_qD, t_eq1_qD, t_eq1_qD_non, t_eq1_qD_bl, t_eq1_qD_int, t_eq1_qD_str, t_eq1_qD_tup, t_eq1_qD_lst, t_neg1_qD, t_str1_qD, t_add1_qD, t_sub1_qD, t_times1_qD, t_floor1_qD, t_less1_qD, t_size1_qD, t_is_whole1_qD, t_is_zero1_qD, t_sign1_qD, s_n_qD, s_d_qD, q_told_told_f, q_told_told_t, q_told_malformed_f, q_told_malformed_t, q_told_raised_f, q_told_raised_t, q_told_zero_f, q_told_zero_t, q_told_long_f, q_told_long_t, q_told_poly_f, q_told_poly_t, q_told_text_f, q_told_text_t, q_told_read_f, q_told_read_t, q_malformed_told_f, q_malformed_told_t, q_malformed_malformed_f, q_malformed_malformed_t, q_malformed_raised_f, q_malformed_raised_t, q_malformed_zero_f, q_malformed_zero_t, q_malformed_long_f, q_malformed_long_t, q_malformed_poly_f, q_malformed_poly_t, q_malformed_text_f, q_malformed_text_t, q_malformed_read_f, q_malformed_read_t, q_raised_told_f, q_raised_told_t, q_raised_malformed_f, q_raised_malformed_t, q_raised_raised_f, q_raised_raised_t, q_raised_zero_f, q_raised_zero_t, q_raised_long_f, q_raised_long_t, q_raised_poly_f, q_raised_poly_t, q_raised_text_f, q_raised_text_t, q_raised_read_f, q_raised_read_t, q_zero_told_f, q_zero_told_t, q_zero_malformed_f, q_zero_malformed_t, q_zero_raised_f, q_zero_raised_t, q_zero_zero_f, q_zero_zero_t, q_zero_long_f, q_zero_long_t, q_zero_poly_f, q_zero_poly_t, q_zero_text_f, q_zero_text_t, q_zero_read_f, q_zero_read_t, q_long_told_f, q_long_told_t, q_long_malformed_f, q_long_malformed_t, q_long_raised_f, q_long_raised_t, q_long_zero_f, q_long_zero_t, q_long_long_f, q_long_long_t, q_long_poly_f, q_long_poly_t, q_long_text_f, q_long_text_t, q_long_read_f, q_long_read_t, q_poly_told_f, q_poly_told_t, q_poly_malformed_f, q_poly_malformed_t, q_poly_raised_f, q_poly_raised_t, q_poly_zero_f, q_poly_zero_t, q_poly_long_f, q_poly_long_t, q_poly_poly_f, q_poly_poly_t, q_poly_text_f, q_poly_text_t, q_poly_read_f, q_poly_read_t, q_text_told_f, q_text_told_t, q_text_malformed_f, q_text_malformed_t, q_text_raised_f, q_text_raised_t, q_text_zero_f, q_text_zero_t, q_text_long_f, q_text_long_t, q_text_poly_f, q_text_poly_t, q_text_text_f, q_text_text_t, q_text_read_f, q_text_read_t, q_read_told_f, q_read_told_t, q_read_malformed_f, q_read_malformed_t, q_read_raised_f, q_read_raised_t, q_read_zero_f, q_read_zero_t, q_read_long_f, q_read_long_t, q_read_poly_f, q_read_poly_t, q_read_text_f, q_read_text_t, q_read_read_f, q_read_read_t, sub_Fault_Malformed, sub_Fault_NoText, sub_Fault_Refused, sub_Malformed_Malformed, sub_Malformed_NoText, sub_Malformed_Refused, sub_Refused_Malformed, sub_Refused_NoText, sub_Refused_Refused, sub_NoText_Malformed, sub_NoText_NoText, sub_NoText_Refused, held_choose, held_common, held_common_of, held_sign_of, held_changes, held_row_text, held_read_ratio, held_read_ratios, held_is_ratio_row, held__law_make, held__law_over, held_is_integer, held_is_count, held_is_whole_row, $a,*])
local macro_rules | `(tactic| dsimp! only [$a,*]) => `(tactic| simp -implicitDefEqProofs (disch := first | assumption | decide | (with_reducible (apply Bz_lv; (repeat (first | assumption | exact Bz_lit (by decide) (by decide) | exact Bz_lit (by omega) (by omega) | apply Bz_add | apply Bz_sub | apply Bz_mul | apply Bz_quo | apply Bz_neg | apply Bz_lsr | apply Bz_grt | apply Bz_ite)); first | decide | omega)) | exact mulOk_r (by decide) | exact mulOk_l (by decide) | exact divOk_s (by decide) (by decide) | exact Rat.le_refl | omega | (with_reducible (repeat (first | assumption | exact Lv_mono (by assumption) (by decide) | exact Lv_up (Lv0_div (by decide) (by decide)) | exact Lv_up (Lv0_div (by omega) (by omega)) | apply Lv_add | apply Lv_sub | apply Lv_mul | apply Lv_neg | apply Lv_ite | apply Lv_lsr | apply Lv_grt)); done) | (simp only [str_app_len]; omega)) only [Res.bd_ok, Res.bd_er, Res.bs_ok, Res.bs_er, Out.sq_nx, Out.sq_rt, Out.sq_er, Out.sq_ro, Out.sq_bk, Out.sq_ct, Out.lp_nx, Out.lp_ct, Out.lp_bk, Out.lp_rt, Out.lp_ro, Out.lp_er, tif_t, tif_f, bd_eq, rt_eq, two_eq, kTwo_eq, consA_eq, kCons_eq, kCons2_eq, seqS_eq, nxS_eq, bkS_eq, ctS_eq, retN_eq, retS_eq, kRet_eq, retO_eq, kRo_eq, dropS_eq, kDrop_eq, setS_eq, kSet_eq, setO_eq, kSetO_eq, ifS_eq, kIfS_t, kIfS_f, par2_eq, kPar2_eq, par3_eq, kPar3_eq, asgS_eq, kAsg_eq, oNx_eq, gNm_eq, gN0_eq, gCN_eq, gTp2_eq, gTp3_eq, gTp4_eq, gTp5_eq, gTp6_eq, gTl2_eq, gTl3_eq, gTl4_eq, gTl5_eq, gTl6_eq, boolM_eq, blM_eq, kBl_eq, notM_eq, kNot_eq, andM_eq, kAnd_g, orM_eq, kOr_g, ifM_eq, kIf_g, andV_eq, kAndV_g, orV_eq, kOrV_g, notV_eq, kNotV_eq, isNV_eq, kIsN_n, kIsN_i, kIsN_b, kIsN_s, kIsN_t, kIsN_l, kIsN_o, callM_eq, rsM_ok, rsM_ow, rsM_er, callO_eq, rsO_ow, rsO_er, lentM_eq, kLent_eq, rsL_ok, rsL_er, getL_eq, kLt_own, kLt_bor, setL_eq, kSetL_own, kSetL_bor, hold_eq, kHold_eq, makeM_eq, rsMk_ok, rsMk_er, varD_eq, kCell_d, kCell_own, fldN_eq, kFld_d, kFld_bor, isiF_eq, kIsi_eq, methM_eq, kMeth_eq, kCallS_eq, addI_ii, subI_ii, mulI_ii, fdivI_ii, modI_ii, cmpI_ii, negD_i, ownN_i, absF_i, intF_i, intF2_i, lenNm_eq, tupM_0, tupM_1, tupM_2, tupM_3, tupM_4, tupM_5, tupM_6, lstM_0, lstM_1, lstM_2, lstM_3, lstM_4, lstM_5, lstM_6, ownM_0, ownM_1, ownM_2, itms_t, itms_l, itms_sc, ixM_t0, ixM_t1, ixM_l0, ixM_l1, ixM_t42, ixM_t43, ixM_l42, ixM_l43, ixM_t32, ixM_l32, ixNm_e, kVar_eq, kIxN_eq, kIx_d, kIx_o, kIx_b, forS_eq, forF_nil, forF_cons, kFor_eq, frzM_eq, kFrz_eq, lcM_eq, kLc_eq, lcE_ok, lcM2_eq, kLc2_eq, lcF_nil, lcF_cons, lk2_eq, lk3_t, lk3_f, lk4_0, lk4_1, lk4_2, lk4_3, lk4_4, lk4_5, wipe_0, wipe_1, merge_0, merge_1, keep_d, keep_n, eqP_ii, neP_ii, eqP_bb, neP_bb, ownO_eq, kOwn_eq, kOwn_n, ownN_eq, kOwnN_eq, kOwnN_n, eqO_eq, neO_eq, kOwnE_eq, kOwnE_n, kNotD_eq, whileS_eq, setF_eq, kSetF_eq, kSetF1_eq, kSetF2_eq, kSetF3_eq, outR_nx, outR_rt, outR_ro, outR_er, outB_nx, outB_rt, outB_er, raiseS_eq, raiseX_eq, kRaise_eq, chainM_eq, kCh1_eq, kCh2_eq, kCh3_g, slF_eq, kSl1_eq, kSl2_eq, kSl3_t, kSl3_l, kSl3_s, partF_eq, kPart_eq, holdL_eq, kHoldL_eq, chgM_eq, kChg_eq, kChg2_eq, appM_eq, kApp_eq, appG_0, appG_1, appG_2, appG_3, extM_eq, kExt_eq, sixS_eq, kSix1_eq, kSix2_eq, kNx_eq, sixG_0, sixG_1, sixG_2, listO_t, listO_l, tupF_t, tupF_l, rng_0, rng_1, rng_2, rng_3, rng_4, rng_5, rng_6, tryS_eq, kTry_er, kTry_rt, kTry_ro, kTry_nx, catchS_nil, catchS_cons, kCatch_t, kCatch_f, runX_n, runX_3, endX_rt, retX_eq, kRetX_eq, fldX_r, heldM_eq, kHeld_eq, kHeld2_eq, anyF_0, anyF_1, anyF_2, anyF_3, anyF_4, allF_0, allF_1, allF_2, allF_3, allF_4, strO_eq, kStrO_eq, kStr_eq, mlook_i, kStrO_n, joinM_eq, jsM_nil, jsM_cons, kJs_eq, addS_ss, addI_s, fmtD_i, strF_i, len_t0, len_l0, len_o0, lenF_t0, lenF_l0, len_t1, len_l1, len_o1, lenF_t1, lenF_l1, len_t2, len_l2, len_o2, lenF_t2, lenF_l2, len_t3, len_l3, len_o3, lenF_t3, lenF_l3, len_t4, len_l4, len_o4, lenF_t4, lenF_l4, len_t5, len_l5, len_o5, lenF_t5, lenF_l5, len_t6, len_l6, len_o6, lenF_t6, lenF_l6, tif_and, tif_or, tif_andB, tif_orB, mal_mal, eqT_eq, kEqT_f, kEqT_t, eqzs_nil, eqzs_cons, lstM_7, tupM_7, lstM_8, tupM_8, lstM_9, tupM_9, lstM_10, tupM_10, lstM_11, tupM_11, lstM_12, tupM_12, lstM_13, tupM_13, ownE_t, ownE_l, ownE_i, ownE_b, ownE_s, ownE_n, tif_q, tif_i, sg_ge, kZ_ss, lcF2_nil, lcF2_cons, l2a_eq, l2b_t, l2b_f, l2c_eq, l2d_eq, kJoin_2, ixM_t52, ixM_l52, ixM_t53, ixM_l53, ixM_t54, ixM_l54, ixM_t62, ixM_l62, ixM_t63, ixM_l63, ixM_t64, ixM_l64, ixM_t65, ixM_l65, ixM_t72, ixM_l72, ixM_t73, ixM_l73, ixM_t74, ixM_l74, ixM_t75, ixM_l75, ixM_t76, ixM_l76, ixM_t82, ixM_l82, ixM_t83, ixM_l83, ixM_t84, ixM_l84, ixM_t85, ixM_l85, ixM_t86, ixM_l86, ixM_t87, ixM_l87, kLenC_iD, kLenC_iDl, kLenC_iDo, revM_eq, kRev_t, kRev_l, enuF_l, enuF_t, iD_rev, rng3_down, List.getElem?_cons_zero, List.getElem?_cons_succ, List.set_cons_zero, List.set_cons_succ, List.cons_append, List.nil_append, List.append_nil, decide_true, decide_false, Bool.not_true, Bool.not_false, Bool.true_and, Bool.false_and, Bool.and_true, Bool.and_false, Bool.true_or, Bool.false_or, Bool.or_true, Bool.or_false, Bool.not_not, Int.reduceMul, Int.reduceAdd, Int.reduceSub, Int.reduceNeg, Nat.reduceAdd, Nat.reduceMul, Int.reduceEq, Int.reduceLT, Int.reduceLE, eq_self, beq_self_eq_true, Bool.and_assoc, Bool.or_assoc, ↓reduceIte, i_Ratio_non, i_Ratio_bl, i_Ratio_int, i_Ratio_str, i_Ratio_tup, i_Ratio_lst, i_Ratio_qD, i_int_non, i_int_bl, i_int_int, i_int_str, i_int_tup, i_int_lst, i_int_qD, i_bool_non, i_bool_bl, i_bool_int, i_bool_str, i_bool_tup, i_bool_lst, i_bool_qD, i_str_non, i_str_bl, i_str_int, i_str_str, i_str_tup, i_str_lst, i_str_qD, i_tuple_non, i_tuple_bl, i_tuple_int, i_tuple_str, i_tuple_tup, i_tuple_lst, i_tuple_qD, i_list_non, i_list_bl, i_list_int, i_list_str, i_list_tup, i_list_lst, i_list_qD, f_n_qD, f_d_qD, n_qD, e_qD, o_addI_qD, o_addS_qD, o_addT_qD, o_subI_qD, o_mulI_qD, o_ltS_qD, o_cmpI_qD, e_t_qD, t_mul1_qD, t_over1_qD, t_eq1_qD, t_eq1_qD_non, t_eq1_qD_bl, t_eq1_qD_int, t_eq1_qD_str, t_eq1_qD_tup, t_eq1_qD_lst, t_neg1_qD, t_str1_qD, t_add1_qD, t_sub1_qD, t_times1_qD, t_floor1_qD, t_less1_qD, t_size1_qD, t_is_whole1_qD, t_is_zero1_qD, t_sign1_qD, s_n_qD, s_d_qD, q_told_told_f, q_told_told_t, q_told_malformed_f, q_told_malformed_t, q_told_raised_f, q_told_raised_t, q_told_zero_f, q_told_zero_t, q_told_long_f, q_told_long_t, q_told_poly_f, q_told_poly_t, q_told_text_f, q_told_text_t, q_told_read_f, q_told_read_t, q_malformed_told_f, q_malformed_told_t, q_malformed_malformed_f, q_malformed_malformed_t, q_malformed_raised_f, q_malformed_raised_t, q_malformed_zero_f, q_malformed_zero_t, q_malformed_long_f, q_malformed_long_t, q_malformed_poly_f, q_malformed_poly_t, q_malformed_text_f, q_malformed_text_t, q_malformed_read_f, q_malformed_read_t, q_raised_told_f, q_raised_told_t, q_raised_malformed_f, q_raised_malformed_t, q_raised_raised_f, q_raised_raised_t, q_raised_zero_f, q_raised_zero_t, q_raised_long_f, q_raised_long_t, q_raised_poly_f, q_raised_poly_t, q_raised_text_f, q_raised_text_t, q_raised_read_f, q_raised_read_t, q_zero_told_f, q_zero_told_t, q_zero_malformed_f, q_zero_malformed_t, q_zero_raised_f, q_zero_raised_t, q_zero_zero_f, q_zero_zero_t, q_zero_long_f, q_zero_long_t, q_zero_poly_f, q_zero_poly_t, q_zero_text_f, q_zero_text_t, q_zero_read_f, q_zero_read_t, q_long_told_f, q_long_told_t, q_long_malformed_f, q_long_malformed_t, q_long_raised_f, q_long_raised_t, q_long_zero_f, q_long_zero_t, q_long_long_f, q_long_long_t, q_long_poly_f, q_long_poly_t, q_long_text_f, q_long_text_t, q_long_read_f, q_long_read_t, q_poly_told_f, q_poly_told_t, q_poly_malformed_f, q_poly_malformed_t, q_poly_raised_f, q_poly_raised_t, q_poly_zero_f, q_poly_zero_t, q_poly_long_f, q_poly_long_t, q_poly_poly_f, q_poly_poly_t, q_poly_text_f, q_poly_text_t, q_poly_read_f, q_poly_read_t, q_text_told_f, q_text_told_t, q_text_malformed_f, q_text_malformed_t, q_text_raised_f, q_text_raised_t, q_text_zero_f, q_text_zero_t, q_text_long_f, q_text_long_t, q_text_poly_f, q_text_poly_t, q_text_text_f, q_text_text_t, q_text_read_f, q_text_read_t, q_read_told_f, q_read_told_t, q_read_malformed_f, q_read_malformed_t, q_read_raised_f, q_read_raised_t, q_read_zero_f, q_read_zero_t, q_read_long_f, q_read_long_t, q_read_poly_f, q_read_poly_t, q_read_text_f, q_read_text_t, q_read_read_f, q_read_read_t, sub_Fault_Malformed, sub_Fault_NoText, sub_Fault_Refused, sub_Malformed_Malformed, sub_Malformed_NoText, sub_Malformed_Refused, sub_Refused_Malformed, sub_Refused_NoText, sub_Refused_Refused, sub_NoText_Malformed, sub_NoText_NoText, sub_NoText_Refused, held_choose, held_common, held_common_of, held_sign_of, held_changes, held_row_text, held_read_ratio, held_read_ratios, held_is_ratio_row, held__law_make, held__law_over, held_is_integer, held_is_count, held_is_whole_row, $a,*])

theorem law_common_loop : ∀ (n a b : Nat), b < n → whileF (bd (two (varD 1) (rt (.int 0)) gtI) boolM) (par2 0 1 (consA (varD 1) (consA (two (bd (consA (varD 0) (rt [])) intF2) (varD 1) (modI noO)) (rt [])))) n
    [some (.d (.int a)), some (.d (.int b))] = .nx [some (.d (.int (Nat.gcd a b : Nat))), some (.d (.int 0))] := by
  intro n
  induction n with
  | zero => intro a b h; omega
  | succ n ih =>
    intro a b h
    rw [whileF_succ]
    by_cases hb : b = 0
    · subst hb
      simp! only [rt_eq]
      have e : decide ((0 : Int) < ((0 : Nat) : Int)) = false := rfl
      simp only [e, Nat.gcd_zero_right, nxS_eq]
      rfl
    · have e : decide ((0 : Int) < (b : Int)) = true := decide_eq_true (by omega)
      have e2 : (b : Int) ≠ 0 := by omega
      simp! only [rt_eq, e, modI_ii e2]
      have e3 : ((a : Int).fmod (b : Int)) = ((a % b : Nat) : Int) := by rw [Int.fmod_eq_emod_of_nonneg _ (by omega)]; rfl
      simp only [e3]
      show whileF _ _ n _ = _
      have hlt : a % b < b := Nat.mod_lt _ (by omega)
      rw [ih b (a % b) (by omega), Nat.gcd_comm a b, Nat.gcd_rec b a, Nat.gcd_comm]
theorem law_common_s {a b : Nat} : m_law_common [.int (a : Int), .int (b : Int)] = .ok (.int ((Nat.gcd a b : Nat) : Int)) := by
  show outR (F_law_common (some (.d (.int (a : Int))) :: some (.d (.int (b : Int))) :: [])) = _
  simp! only [F_law_common, whileS_eq]
  rw [law_common_loop]
  · simp! only [rt_eq]
  · simp only [fuelE, wtC, wtD]; omega
theorem common_of_s {a b c : Int} : m_common_of [.tup [.int a, .int b, .int c]] = .ok (.int (Int.gcd (Int.gcd (Int.gcd 0 a : Nat) b : Nat) c : Nat)) := by
  show outR (F_common_of (some (.d (.tup [.int a, .int b, .int c])) :: none :: none :: [])) = _
  dsimp! only [F_common_of, is_integer_i_s, common_s, check_ratio_s, less_s, add_s, sub_s, mul_s, neg_s, size_s, eq_s, sign_s, make_s, over_s, over_0_s, is_zero_s, is_whole_s, is_short_s, Ratio_str_s, check_ratio_n_s, check_ratio_i_s, is_integer_n_s, is_integer_b_s, is_count_s, is_count_n_s, is_count_b_s, law_take_s, law_state_s, same_bb_s, same_ii_s, same_nn_s, same_qq_s, read_ratio_s, law_common_s]
theorem sign_of_s {x : Int} : m_sign_of [.int x] = .ok (.int (if 0 < x then 1 else if x < 0 then -1 else 0)) := by
  show outR (F_sign_of (some (.d (.int x)) :: [])) = _
  dsimp! only [F_sign_of, is_integer_i_s, common_s, check_ratio_s, less_s, add_s, sub_s, mul_s, neg_s, size_s, eq_s, sign_s, make_s, over_s, over_0_s, is_zero_s, is_whole_s, is_short_s, Ratio_str_s, check_ratio_n_s, check_ratio_i_s, is_integer_n_s, is_integer_b_s, is_count_s, is_count_n_s, is_count_b_s, law_take_s, law_state_s, same_bb_s, same_ii_s, same_nn_s, same_qq_s, read_ratio_s, law_common_s, common_of_s]
def sgn (x : Int) : Int := if 0 < x then 1 else if x < 0 then -1 else 0
theorem changes_s {p : List Int} (hl : p.length ≤ 1000) : m_changes [.lst (iD p)] = .ok (.int (difs ((p.filter fun x => !decide (x = 0)).map sgn) : Nat)) := by
  show outR (F_changes (some (.d (.lst (iD p))) :: none :: none :: none :: none :: [])) = _
  have e1 : lcF [2] (gNm 2) (bd (two (varD 2) (rt (.int 0)) (eqP true noO)) boolM) (bd (consA (varD 2) (rt [])) (callM m_sign_of [])) (iD p) [] [some (.d (.lst (iD p))), none, none, none, none]
      = .ok ((p.filter fun x => !decide (x = 0)).map fun x => D.int (sgn x)) [some (.d (.lst (iD p))), none, none, none, none] :=
    lcF_enc D.int (fun x => D.int (sgn x)) (fun x => !decide (x = 0)) p (by omega) (fun x _ => by
      refine ⟨_, [some (.d (.lst (iD p))), none, some (.d (.int x)), none, none], rfl, ?_, fun _ => rfl, fun _ => ⟨[some (.d (.lst (iD p))), none, some (.d (.int x)), none, none], ?_, rfl⟩⟩
      · dsimp! only [is_integer_i_s, common_s, check_ratio_s, less_s, add_s, sub_s, mul_s, neg_s, size_s, eq_s, sign_s, make_s, over_s, over_0_s, is_zero_s, is_whole_s, is_short_s, Ratio_str_s, check_ratio_n_s, check_ratio_i_s, is_integer_n_s, is_integer_b_s, is_count_s, is_count_n_s, is_count_b_s, law_take_s, law_state_s, same_bb_s, same_ii_s, same_nn_s, same_qq_s, read_ratio_s, law_common_s, common_of_s, sign_of_s]
      · dsimp! only [sgn, is_integer_i_s, common_s, check_ratio_s, less_s, add_s, sub_s, mul_s, neg_s, size_s, eq_s, sign_s, make_s, over_s, over_0_s, is_zero_s, is_whole_s, is_short_s, Ratio_str_s, check_ratio_n_s, check_ratio_i_s, is_integer_n_s, is_integer_b_s, is_count_s, is_count_n_s, is_count_b_s, law_take_s, law_state_s, same_bb_s, same_ii_s, same_nn_s, same_qq_s, read_ratio_s, law_common_s, common_of_s, sign_of_s])
  generalize hs : (p.filter fun x => !decide (x = 0)).map sgn = s
  have hsl : s.length ≤ 1000 := by rw [← hs, List.length_map]; exact Nat.le_trans (List.length_filter_le _ _) hl
  have hs2 : ((p.filter fun x => !decide (x = 0)).map fun x => D.int (sgn x)) = s.map D.int := by rw [← hs, List.map_map]; rfl
  rw [hs2] at e1
  have e2 : lcF [3, 4] (gTp 2 (gC (gNm 3) (gC (gNm 4) gN0))) (bd (two (varD 3) (varD 4) (eqP true noO)) boolM) (rt (.int 1)) ((s.zip (s.drop 1)).map fun z => D.tup [D.int z.1, D.int z.2]) [] [some (.d (.lst (iD p))), some (.d (.lst (s.map D.int))), none, none, none]
      = .ok (((s.zip (s.drop 1)).filter fun z => !decide (z.1 = z.2)).map fun _ => D.int 1) [some (.d (.lst (iD p))), some (.d (.lst (s.map D.int))), none, none, none] :=
    lcF_enc (fun z : Int × Int => D.tup [D.int z.1, D.int z.2]) (fun _ => D.int 1) (fun z => !decide (z.1 = z.2)) _ (by rw [List.length_zip]; omega) (fun z _ => by
      refine ⟨_, [some (.d (.lst (iD p))), some (.d (.lst (s.map D.int))), none, some (.d (.int z.1)), some (.d (.int z.2))], rfl, ?_, fun _ => rfl, fun _ => ⟨[some (.d (.lst (iD p))), some (.d (.lst (s.map D.int))), none, some (.d (.int z.1)), some (.d (.int z.2))], ?_, rfl⟩⟩
      · dsimp! only [is_integer_i_s, common_s, check_ratio_s, less_s, add_s, sub_s, mul_s, neg_s, size_s, eq_s, sign_s, make_s, over_s, over_0_s, is_zero_s, is_whole_s, is_short_s, Ratio_str_s, check_ratio_n_s, check_ratio_i_s, is_integer_n_s, is_integer_b_s, is_count_s, is_count_n_s, is_count_b_s, law_take_s, law_state_s, same_bb_s, same_ii_s, same_nn_s, same_qq_s, read_ratio_s, law_common_s, common_of_s, sign_of_s]
      · dsimp! only [is_integer_i_s, common_s, check_ratio_s, less_s, add_s, sub_s, mul_s, neg_s, size_s, eq_s, sign_s, make_s, over_s, over_0_s, is_zero_s, is_whole_s, is_short_s, Ratio_str_s, check_ratio_n_s, check_ratio_i_s, is_integer_n_s, is_integer_b_s, is_count_s, is_count_n_s, is_count_b_s, law_take_s, law_state_s, same_bb_s, same_ii_s, same_nn_s, same_qq_s, read_ratio_s, law_common_s, common_of_s, sign_of_s])
  have e3 : pairs (s.map D.int) ((s.map D.int).drop 1) = (s.zip (s.drop 1)).map fun z => D.tup [D.int z.1, D.int z.2] := by rw [← List.map_drop, pairs_enc]
  dsimp! only [F_changes, e1, cutD_tail, zip_l, e3, e2, lenF_l, List.length_map, difs, is_integer_i_s, common_s, check_ratio_s, less_s, add_s, sub_s, mul_s, neg_s, size_s, eq_s, sign_s, make_s, over_s, over_0_s, is_zero_s, is_whole_s, is_short_s, Ratio_str_s, check_ratio_n_s, check_ratio_i_s, is_integer_n_s, is_integer_b_s, is_count_s, is_count_n_s, is_count_b_s, law_take_s, law_state_s, same_bb_s, same_ii_s, same_nn_s, same_qq_s, read_ratio_s, law_common_s, common_of_s, sign_of_s]
theorem digits_of_s {i : Int} (h : i.natAbs < 10 ^ 30) : m_digits_of [.int i] = .ok (.str (Str.ofString (toString i))) := by
  show outR (F_digits_of (some (.d (.int i)) :: [])) = _
  have h2 := is_short_s h
  have h3 := itx_log h
  dsimp! only [F_digits_of, h2, is_integer_i_s, common_s, check_ratio_s, less_s, add_s, sub_s, mul_s, neg_s, size_s, eq_s, sign_s, make_s, over_s, over_0_s, is_zero_s, is_whole_s, is_short_s, Ratio_str_s, check_ratio_n_s, check_ratio_i_s, is_integer_n_s, is_integer_b_s, is_count_s, is_count_n_s, is_count_b_s, law_take_s, law_state_s, same_bb_s, same_ii_s, same_nn_s, same_qq_s, read_ratio_s, law_common_s, common_of_s, sign_of_s, changes_s]
def rtxt (p : List Int) : Str := if p = [] then Str.ofString "-" else Txt.join (Str.ofString ",") (p.map fun i => Str.ofString (toString i))
theorem comma_len : (Str.ofString ",").length = 1 := by decide +kernel
theorem rtxt_len {p : List Int} (hl : p.length ≤ 1000) (hp : ∀ x ∈ p, x.natAbs < 10 ^ 30) : ((p.map fun i => Str.ofString (toString i)).map fun x : Str => x.length).sum + (p.map fun i => Str.ofString (toString i)).length * (Str.ofString ",").length ≤ 16777216 := by
  have := sum_len_le (l := p.map fun i => Str.ofString (toString i)) (n := 31) (by
    intro x hx
    obtain ⟨i, hi, rfl⟩ := List.mem_map.mp hx
    exact itx_len (hp i hi))
  rw [comma_len]
  rw [List.length_map] at *
  omega
theorem rtxt_ok (p : List Int) : PyData.strOk (rtxt p) = true := by
  unfold rtxt
  split
  · exact strOk_of _
  · exact join_ok (strOk_of _) (by
      intro x hx
      obtain ⟨i, hi, rfl⟩ := List.mem_map.mp hx
      exact strOk_of _)
theorem row_text_s {p : List Int} (hl : p.length ≤ 1000) (hp : ∀ x ∈ p, x.natAbs < 10 ^ 30) : m_row_text [.tup (iD p)] = .ok (.str (rtxt p)) := by
  show outR (F_row_text (some (.d (.tup (iD p))) :: none :: [])) = _
  unfold rtxt
  by_cases h0 : p = []
  · subst h0
    have e : iD [] = [] := rfl
    rw [e]
    dsimp! only [F_row_text, is_integer_i_s, common_s, check_ratio_s, less_s, add_s, sub_s, mul_s, neg_s, size_s, eq_s, sign_s, make_s, over_s, over_0_s, is_zero_s, is_whole_s, is_short_s, Ratio_str_s, check_ratio_n_s, check_ratio_i_s, is_integer_n_s, is_integer_b_s, is_count_s, is_count_n_s, is_count_b_s, law_take_s, law_state_s, same_bb_s, same_ii_s, same_nn_s, same_qq_s, read_ratio_s, law_common_s, common_of_s, sign_of_s, changes_s, digits_of_s]
  · have e0 : decide ((0 : Int) < (p.length : Nat)) = true := decide_eq_true (by
      have := List.length_pos_iff.mpr h0; omega)
    have e1 : lcF [1] (gNm 1) (rt true) (bd (consA (varD 1) (rt [])) (callM m_digits_of [])) (iD p) [] [some (.d (.tup (iD p))), none] = .ok (p.map fun i => D.str (Str.ofString (toString i))) [some (.d (.tup (iD p))), none] :=
      lcF_encA D.int (fun i => D.str (Str.ofString (toString i))) p (by omega) (fun i hi => by
        refine ⟨_, [some (.d (.tup (iD p))), some (.d (.int i))], rfl, rfl, [some (.d (.tup (iD p))), some (.d (.int i))], ?_, rfl⟩
        have := digits_of_s (hp i hi)
        dsimp! only [this, is_integer_i_s, common_s, check_ratio_s, less_s, add_s, sub_s, mul_s, neg_s, size_s, eq_s, sign_s, make_s, over_s, over_0_s, is_zero_s, is_whole_s, is_short_s, Ratio_str_s, check_ratio_n_s, check_ratio_i_s, is_integer_n_s, is_integer_b_s, is_count_s, is_count_n_s, is_count_b_s, law_take_s, law_state_s, same_bb_s, same_ii_s, same_nn_s, same_qq_s, read_ratio_s, law_common_s, common_of_s, sign_of_s, changes_s, digits_of_s])
    have e2 : (p.map fun i => D.str (Str.ofString (toString i))) = (p.map fun i => Str.ofString (toString i)).map D.str := by rw [List.map_map]; rfl
    rw [if_neg h0]
    have e3 := fun ρ => kJoin_of (ρ := ρ) (rtxt_len hl hp)
    dsimp! only [F_row_text, kLenC_iD, e0, e1, e2, e3, is_integer_i_s, common_s, check_ratio_s, less_s, add_s, sub_s, mul_s, neg_s, size_s, eq_s, sign_s, make_s, over_s, over_0_s, is_zero_s, is_whole_s, is_short_s, Ratio_str_s, check_ratio_n_s, check_ratio_i_s, is_integer_n_s, is_integer_b_s, is_count_s, is_count_n_s, is_count_b_s, law_take_s, law_state_s, same_bb_s, same_ii_s, same_nn_s, same_qq_s, read_ratio_s, law_common_s, common_of_s, sign_of_s, changes_s, digits_of_s]
theorem read_ratios_s {q : Rat} (h : Lv 0 q) : m_read_ratios [.str (qtxt q ++ Str.ofString "," ++ qtxt q)] = .ok (.tup [qD q, qD q]) := by
  have hl := qtxt_len h
  have hr := read_ratio_s h
  have hok := qtxt_ok q
  have l1 := comma_len
  have lz : ((Str.ofString ",").length == 0) = false := by rw [l1]; rfl
  have hn : 44 ∉ _root_.TL.tl (qtxt q) := by
    obtain ⟨sg, m, n, hm, hn, em, en, n0, esg, et⟩ := txt_cases h
    have f : ∀ k, 44 ∉ _root_.TL.tl (nT k) := fun k => by rw [tl_nT]; exact _root_.TL.numL_free (.inl (by decide))
    have e0 : _root_.TL.tl Str.empty = [] := rfl
    rw [et, _root_.TL.tl_append, _root_.TL.tl_append]
    simp only [List.mem_append, not_or]
    refine ⟨?_, f m, ?_⟩
    · cases sg
      · rw [if_neg (by decide), e0]; simp
      · rw [if_pos rfl, tl_dash]; decide
    · split
      · rw [e0]; simp
      · rw [_root_.TL.tl_append, tl_slash]
        simp only [List.mem_append, not_or]
        exact ⟨by decide, f n⟩
  have hsp : gSp (qtxt q ++ Str.ofString "," ++ qtxt q) (Str.ofString ",") = some (.lst [.str (qtxt q), .str (qtxt q)]) := gSp_of (by rw [str_app_len, str_app_len]; omega) lz (split_two hn hn)
  have hd : ∀ (u : OpF) ρ, eqP false u (.str (qtxt q ++ Str.ofString "," ++ qtxt q)) (.str (Str.ofString "-")) ρ = .ok (.bl false) ρ := fun u ρ => by
    have ok2 : PyData.strOk (qtxt q ++ Str.ofString "," ++ qtxt q) = true := strOk_app (strOk_app hok (strOk_of _)) hok
    rw [eqP_ss (by rw [shaped_str]; exact ok2) (by rw [shaped_str]; exact strOk_of _)]
    have : (qtxt q ++ Str.ofString "," ++ qtxt q == Str.ofString "-") = false := by
      apply beq_eq_false_iff_ne.mpr
      intro e
      have := congrArg _root_.TL.tl e
      rw [_root_.TL.tl_append, _root_.TL.tl_append, tl_comma, tl_dash] at this
      have h2 : (44 : Nat) ∈ ([45] : List Nat) := by rw [← this]; simp
      exact absurd h2 (by decide)
    rw [this]
  show outR (F_read_ratios (some (.d (.str (qtxt q ++ Str.ofString "," ++ qtxt q))) :: none :: [])) = _
  dsimp! only [F_read_ratios, hd, tx1_eq, kTx_eq, optM_s, hsp, hr, is_integer_i_s, common_s, check_ratio_s, less_s, add_s, sub_s, mul_s, neg_s, size_s, eq_s, sign_s, make_s, over_s, over_0_s, is_zero_s, is_whole_s, is_short_s, Ratio_str_s, check_ratio_n_s, check_ratio_i_s, is_integer_n_s, is_integer_b_s, is_count_s, is_count_n_s, is_count_b_s, law_take_s, law_state_s, same_bb_s, same_ii_s, same_nn_s, same_qq_s, read_ratio_s, law_common_s, common_of_s, sign_of_s, changes_s, digits_of_s, row_text_s]
end G00


set_option Elab.async false
set_option linter.all false
set_option maxRecDepth 100000
set_option maxHeartbeats 4000000
namespace G00
open PySem PySem.Spec PyProof.Rows L2 DL
local macro_rules | `(tactic| simp! only [$a,*]) => `(tactic| simp -implicitDefEqProofs only [Res.bd_ok, Res.bd_er, Res.bs_ok, Res.bs_er, Out.sq_nx, Out.sq_rt, Out.sq_er, Out.sq_ro, Out.sq_bk, Out.sq_ct, Out.lp_nx, Out.lp_ct, Out.lp_bk, Out.lp_rt, Out.lp_ro, Out.lp_er, tif_t, tif_f, bd_eq, rt_eq, two_eq, kTwo_eq, consA_eq, kCons_eq, kCons2_eq, seqS_eq, nxS_eq, bkS_eq, ctS_eq, retN_eq, retS_eq, kRet_eq, retO_eq, kRo_eq, dropS_eq, kDrop_eq, setS_eq, kSet_eq, setO_eq, kSetO_eq, ifS_eq, kIfS_t, kIfS_f, par2_eq, kPar2_eq, par3_eq, kPar3_eq, asgS_eq, kAsg_eq, oNx_eq, gNm_eq, gN0_eq, gCN_eq, gTp2_eq, gTp3_eq, gTp4_eq, gTp5_eq, gTp6_eq, gTl2_eq, gTl3_eq, gTl4_eq, gTl5_eq, gTl6_eq, boolM_eq, blM_eq, kBl_eq, notM_eq, kNot_eq, andM_eq, kAnd_g, orM_eq, kOr_g, ifM_eq, kIf_g, andV_eq, kAndV_g, orV_eq, kOrV_g, notV_eq, kNotV_eq, isNV_eq, kIsN_n, kIsN_i, kIsN_b, kIsN_s, kIsN_t, kIsN_l, kIsN_o, callM_eq, rsM_ok, rsM_ow, rsM_er, callO_eq, rsO_ow, rsO_er, lentM_eq, kLent_eq, rsL_ok, rsL_er, getL_eq, kLt_own, kLt_bor, setL_eq, kSetL_own, kSetL_bor, hold_eq, kHold_eq, makeM_eq, rsMk_ok, rsMk_er, varD_eq, kCell_d, kCell_own, fldN_eq, kFld_d, kFld_bor, isiF_eq, kIsi_eq, methM_eq, kMeth_eq, kCallS_eq, addI_ii, subI_ii, mulI_ii, fdivI_ii, modI_ii, cmpI_ii, negD_i, ownN_i, absF_i, intF_i, intF2_i, lenNm_eq, tupM_0, tupM_1, tupM_2, tupM_3, tupM_4, tupM_5, tupM_6, lstM_0, lstM_1, lstM_2, lstM_3, lstM_4, lstM_5, lstM_6, ownM_0, ownM_1, ownM_2, itms_t, itms_l, itms_sc, ixM_t0, ixM_t1, ixM_l0, ixM_l1, ixM_t42, ixM_t43, ixM_l42, ixM_l43, ixM_t32, ixM_l32, ixNm_e, kVar_eq, kIxN_eq, kIx_d, kIx_o, kIx_b, forS_eq, forF_nil, forF_cons, kFor_eq, frzM_eq, kFrz_eq, lcM_eq, kLc_eq, lcE_ok, lcM2_eq, kLc2_eq, lcF_nil, lcF_cons, lk2_eq, lk3_t, lk3_f, lk4_0, lk4_1, lk4_2, lk4_3, lk4_4, lk4_5, wipe_0, wipe_1, merge_0, merge_1, keep_d, keep_n, eqP_ii, neP_ii, eqP_bb, neP_bb, ownO_eq, kOwn_eq, kOwn_n, ownN_eq, kOwnN_eq, kOwnN_n, eqO_eq, neO_eq, kOwnE_eq, kOwnE_n, kNotD_eq, whileS_eq, setF_eq, kSetF_eq, kSetF1_eq, kSetF2_eq, kSetF3_eq, outR_nx, outR_rt, outR_ro, outR_er, outB_nx, outB_rt, outB_er, raiseS_eq, raiseX_eq, kRaise_eq, chainM_eq, kCh1_eq, kCh2_eq, kCh3_g, slF_eq, kSl1_eq, kSl2_eq, kSl3_t, kSl3_l, kSl3_s, partF_eq, kPart_eq, holdL_eq, kHoldL_eq, chgM_eq, kChg_eq, kChg2_eq, appM_eq, kApp_eq, appG_0, appG_1, appG_2, appG_3, extM_eq, kExt_eq, sixS_eq, kSix1_eq, kSix2_eq, kNx_eq, sixG_0, sixG_1, sixG_2, listO_t, listO_l, tupF_t, tupF_l, rng_0, rng_1, rng_2, rng_3, rng_4, rng_5, rng_6, tryS_eq, kTry_er, kTry_rt, kTry_ro, kTry_nx, catchS_nil, catchS_cons, kCatch_t, kCatch_f, runX_n, runX_3, endX_rt, retX_eq, kRetX_eq, fldX_r, heldM_eq, kHeld_eq, kHeld2_eq, anyF_0, anyF_1, anyF_2, anyF_3, anyF_4, allF_0, allF_1, allF_2, allF_3, allF_4, strO_eq, kStrO_eq, kStr_eq, mlook_i, kStrO_n, joinM_eq, jsM_nil, jsM_cons, kJs_eq, addS_ss, addI_s, fmtD_i, strF_i, len_t0, len_l0, len_o0, lenF_t0, lenF_l0, len_t1, len_l1, len_o1, lenF_t1, lenF_l1, len_t2, len_l2, len_o2, lenF_t2, lenF_l2, len_t3, len_l3, len_o3, lenF_t3, lenF_l3, len_t4, len_l4, len_o4, lenF_t4, lenF_l4, len_t5, len_l5, len_o5, lenF_t5, lenF_l5, len_t6, len_l6, len_o6, lenF_t6, lenF_l6, tif_and, tif_or, tif_andB, tif_orB, mal_mal, eqT_eq, kEqT_f, kEqT_t, eqzs_nil, eqzs_cons, lstM_7, tupM_7, lstM_8, tupM_8, lstM_9, tupM_9, lstM_10, tupM_10, lstM_11, tupM_11, lstM_12, tupM_12, lstM_13, tupM_13, ownE_t, ownE_l, ownE_i, ownE_b, ownE_s, ownE_n, tif_q, tif_i, sg_ge, kZ_ss, lcF2_nil, lcF2_cons, l2a_eq, l2b_t, l2b_f, l2c_eq, l2d_eq, kJoin_2, ixM_t52, ixM_l52, ixM_t53, ixM_l53, ixM_t54, ixM_l54, ixM_t62, ixM_l62, ixM_t63, ixM_l63, ixM_t64, ixM_l64, ixM_t65, ixM_l65, ixM_t72, ixM_l72, ixM_t73, ixM_l73, ixM_t74, ixM_l74, ixM_t75, ixM_l75, ixM_t76, ixM_l76, ixM_t82, ixM_l82, ixM_t83, ixM_l83, ixM_t84, ixM_l84, ixM_t85, ixM_l85, ixM_t86, ixM_l86, ixM_t87, ixM_l87, kLenC_iD, kLenC_iDl, kLenC_iDo, revM_eq, kRev_t, kRev_l, enuF_l, enuF_t, iD_rev, rng3_down, List.getElem?_cons_zero, List.getElem?_cons_succ, List.set_cons_zero, List.set_cons_succ, List.cons_append, List.nil_append, List.append_nil, decide_true, decide_false, Bool.not_true, Bool.not_false, Bool.true_and, Bool.false_and, Bool.and_true, Bool.and_false, Bool.true_or, Bool.false_or, Bool.or_true, Bool.or_false, Bool.not_not, Int.reduceMul, Int.reduceAdd, Int.reduceSub, Int.reduceNeg, Nat.reduceAdd, Nat.reduceMul, Int.reduceEq, Int.reduceLT, Int.reduceLE, eq_self, beq_self_eq_true, Bool.and_assoc, Bool.or_assoc, ↓reduceIte, i_Ratio_non, i_Ratio_bl, i_Ratio_int, i_Ratio_str, i_Ratio_tup, i_Ratio_lst, i_Ratio_qD, i_int_non, i_int_bl, i_int_int, i_int_str, i_int_tup, i_int_lst, i_int_qD, i_bool_non, i_bool_bl, i_bool_int, i_bool_str, i_bool_tup, i_bool_lst, i_bool_qD, i_str_non, i_str_bl, i_str_int, i_str_str, i_str_tup, i_str_lst, i_str_qD, i_tuple_non, i_tuple_bl, i_tuple_int, i_tuple_str, i_tuple_tup, i_tuple_lst, i_tuple_qD, i_list_non, i_list_bl, i_list_int, i_list_str, i_list_tup, i_list_lst, i_list_qD, f_n_qD, f_d_qD, n_qD, e_qD, o_addI_qD, o_addS_qD, o_addT_qD, o_subI_qD, o_mulI_qD, o_ltS_qD, o_cmpI_qD, e_t_qD, t_mul1_qD, t_over1_qD, t_eq1_qD, t_eq1_qD_non, t_eq1_qD_bl, t_eq1_qD_int, t_eq1_qD_str, t_eq1_qD_tup, t_eq1_qD_lst, t_neg1_qD, t_str1_qD, t_add1_qD, t_sub1_qD, t_times1_qD, t_floor1_qD, t_less1_qD, t_size1_qD, t_is_whole1_qD, t_is_zero1_qD, t_sign1_qD, s_n_qD, s_d_qD, q_told_told_f, q_told_told_t, q_told_malformed_f, q_told_malformed_t, q_told_raised_f, q_told_raised_t, q_told_zero_f, q_told_zero_t, q_told_long_f, q_told_long_t, q_told_poly_f, q_told_poly_t, q_told_text_f, q_told_text_t, q_told_read_f, q_told_read_t, q_malformed_told_f, q_malformed_told_t, q_malformed_malformed_f, q_malformed_malformed_t, q_malformed_raised_f, q_malformed_raised_t, q_malformed_zero_f, q_malformed_zero_t, q_malformed_long_f, q_malformed_long_t, q_malformed_poly_f, q_malformed_poly_t, q_malformed_text_f, q_malformed_text_t, q_malformed_read_f, q_malformed_read_t, q_raised_told_f, q_raised_told_t, q_raised_malformed_f, q_raised_malformed_t, q_raised_raised_f, q_raised_raised_t, q_raised_zero_f, q_raised_zero_t, q_raised_long_f, q_raised_long_t, q_raised_poly_f, q_raised_poly_t, q_raised_text_f, q_raised_text_t, q_raised_read_f, q_raised_read_t, q_zero_told_f, q_zero_told_t, q_zero_malformed_f, q_zero_malformed_t, q_zero_raised_f, q_zero_raised_t, q_zero_zero_f, q_zero_zero_t, q_zero_long_f, q_zero_long_t, q_zero_poly_f, q_zero_poly_t, q_zero_text_f, q_zero_text_t, q_zero_read_f, q_zero_read_t, q_long_told_f, q_long_told_t, q_long_malformed_f, q_long_malformed_t, q_long_raised_f, q_long_raised_t, q_long_zero_f, q_long_zero_t, q_long_long_f, q_long_long_t, q_long_poly_f, q_long_poly_t, q_long_text_f, q_long_text_t, q_long_read_f, q_long_read_t, q_poly_told_f, q_poly_told_t, q_poly_malformed_f, q_poly_malformed_t, q_poly_raised_f, q_poly_raised_t, q_poly_zero_f, q_poly_zero_t, q_poly_long_f, q_poly_long_t, q_poly_poly_f, q_poly_poly_t, q_poly_text_f, q_poly_text_t, q_poly_read_f, q_poly_read_t, q_text_told_f, q_text_told_t, q_text_malformed_f, q_text_malformed_t, q_text_raised_f, q_text_raised_t, q_text_zero_f, q_text_zero_t, q_text_long_f, q_text_long_t, q_text_poly_f, q_text_poly_t, q_text_text_f, q_text_text_t, q_text_read_f, q_text_read_t, q_read_told_f, q_read_told_t, q_read_malformed_f, q_read_malformed_t, q_read_raised_f, q_read_raised_t, q_read_zero_f, q_read_zero_t, q_read_long_f, q_read_long_t, q_read_poly_f, q_read_poly_t, q_read_text_f, q_read_text_t, q_read_read_f, q_read_read_t, sub_Fault_Malformed, sub_Fault_NoText, sub_Fault_Refused, sub_Malformed_Malformed, sub_Malformed_NoText, sub_Malformed_Refused, sub_Refused_Malformed, sub_Refused_NoText, sub_Refused_Refused, sub_NoText_Malformed, sub_NoText_NoText, sub_NoText_Refused, held_choose, held_common, held_common_of, held_sign_of, held_changes, held_row_text, held_read_ratio, held_read_ratios, held_is_ratio_row, held__law_make, held__law_over, held_is_integer, held_is_count, held_is_whole_row, $a,*])
local macro_rules | `(tactic| dsimp! only [$a,*]) => `(tactic| simp -implicitDefEqProofs (disch := first | assumption | decide | (with_reducible (apply Bz_lv; (repeat (first | assumption | exact Bz_lit (by decide) (by decide) | exact Bz_lit (by omega) (by omega) | apply Bz_add | apply Bz_sub | apply Bz_mul | apply Bz_quo | apply Bz_neg | apply Bz_lsr | apply Bz_grt | apply Bz_ite)); first | decide | omega)) | exact mulOk_r (by decide) | exact mulOk_l (by decide) | exact divOk_s (by decide) (by decide) | exact Rat.le_refl | omega | (with_reducible (repeat (first | assumption | exact Lv_mono (by assumption) (by decide) | exact Lv_up (Lv0_div (by decide) (by decide)) | exact Lv_up (Lv0_div (by omega) (by omega)) | apply Lv_add | apply Lv_sub | apply Lv_mul | apply Lv_neg | apply Lv_ite | apply Lv_lsr | apply Lv_grt)); done) | (simp only [str_app_len]; omega)) only [Res.bd_ok, Res.bd_er, Res.bs_ok, Res.bs_er, Out.sq_nx, Out.sq_rt, Out.sq_er, Out.sq_ro, Out.sq_bk, Out.sq_ct, Out.lp_nx, Out.lp_ct, Out.lp_bk, Out.lp_rt, Out.lp_ro, Out.lp_er, tif_t, tif_f, bd_eq, rt_eq, two_eq, kTwo_eq, consA_eq, kCons_eq, kCons2_eq, seqS_eq, nxS_eq, bkS_eq, ctS_eq, retN_eq, retS_eq, kRet_eq, retO_eq, kRo_eq, dropS_eq, kDrop_eq, setS_eq, kSet_eq, setO_eq, kSetO_eq, ifS_eq, kIfS_t, kIfS_f, par2_eq, kPar2_eq, par3_eq, kPar3_eq, asgS_eq, kAsg_eq, oNx_eq, gNm_eq, gN0_eq, gCN_eq, gTp2_eq, gTp3_eq, gTp4_eq, gTp5_eq, gTp6_eq, gTl2_eq, gTl3_eq, gTl4_eq, gTl5_eq, gTl6_eq, boolM_eq, blM_eq, kBl_eq, notM_eq, kNot_eq, andM_eq, kAnd_g, orM_eq, kOr_g, ifM_eq, kIf_g, andV_eq, kAndV_g, orV_eq, kOrV_g, notV_eq, kNotV_eq, isNV_eq, kIsN_n, kIsN_i, kIsN_b, kIsN_s, kIsN_t, kIsN_l, kIsN_o, callM_eq, rsM_ok, rsM_ow, rsM_er, callO_eq, rsO_ow, rsO_er, lentM_eq, kLent_eq, rsL_ok, rsL_er, getL_eq, kLt_own, kLt_bor, setL_eq, kSetL_own, kSetL_bor, hold_eq, kHold_eq, makeM_eq, rsMk_ok, rsMk_er, varD_eq, kCell_d, kCell_own, fldN_eq, kFld_d, kFld_bor, isiF_eq, kIsi_eq, methM_eq, kMeth_eq, kCallS_eq, addI_ii, subI_ii, mulI_ii, fdivI_ii, modI_ii, cmpI_ii, negD_i, ownN_i, absF_i, intF_i, intF2_i, lenNm_eq, tupM_0, tupM_1, tupM_2, tupM_3, tupM_4, tupM_5, tupM_6, lstM_0, lstM_1, lstM_2, lstM_3, lstM_4, lstM_5, lstM_6, ownM_0, ownM_1, ownM_2, itms_t, itms_l, itms_sc, ixM_t0, ixM_t1, ixM_l0, ixM_l1, ixM_t42, ixM_t43, ixM_l42, ixM_l43, ixM_t32, ixM_l32, ixNm_e, kVar_eq, kIxN_eq, kIx_d, kIx_o, kIx_b, forS_eq, forF_nil, forF_cons, kFor_eq, frzM_eq, kFrz_eq, lcM_eq, kLc_eq, lcE_ok, lcM2_eq, kLc2_eq, lcF_nil, lcF_cons, lk2_eq, lk3_t, lk3_f, lk4_0, lk4_1, lk4_2, lk4_3, lk4_4, lk4_5, wipe_0, wipe_1, merge_0, merge_1, keep_d, keep_n, eqP_ii, neP_ii, eqP_bb, neP_bb, ownO_eq, kOwn_eq, kOwn_n, ownN_eq, kOwnN_eq, kOwnN_n, eqO_eq, neO_eq, kOwnE_eq, kOwnE_n, kNotD_eq, whileS_eq, setF_eq, kSetF_eq, kSetF1_eq, kSetF2_eq, kSetF3_eq, outR_nx, outR_rt, outR_ro, outR_er, outB_nx, outB_rt, outB_er, raiseS_eq, raiseX_eq, kRaise_eq, chainM_eq, kCh1_eq, kCh2_eq, kCh3_g, slF_eq, kSl1_eq, kSl2_eq, kSl3_t, kSl3_l, kSl3_s, partF_eq, kPart_eq, holdL_eq, kHoldL_eq, chgM_eq, kChg_eq, kChg2_eq, appM_eq, kApp_eq, appG_0, appG_1, appG_2, appG_3, extM_eq, kExt_eq, sixS_eq, kSix1_eq, kSix2_eq, kNx_eq, sixG_0, sixG_1, sixG_2, listO_t, listO_l, tupF_t, tupF_l, rng_0, rng_1, rng_2, rng_3, rng_4, rng_5, rng_6, tryS_eq, kTry_er, kTry_rt, kTry_ro, kTry_nx, catchS_nil, catchS_cons, kCatch_t, kCatch_f, runX_n, runX_3, endX_rt, retX_eq, kRetX_eq, fldX_r, heldM_eq, kHeld_eq, kHeld2_eq, anyF_0, anyF_1, anyF_2, anyF_3, anyF_4, allF_0, allF_1, allF_2, allF_3, allF_4, strO_eq, kStrO_eq, kStr_eq, mlook_i, kStrO_n, joinM_eq, jsM_nil, jsM_cons, kJs_eq, addS_ss, addI_s, fmtD_i, strF_i, len_t0, len_l0, len_o0, lenF_t0, lenF_l0, len_t1, len_l1, len_o1, lenF_t1, lenF_l1, len_t2, len_l2, len_o2, lenF_t2, lenF_l2, len_t3, len_l3, len_o3, lenF_t3, lenF_l3, len_t4, len_l4, len_o4, lenF_t4, lenF_l4, len_t5, len_l5, len_o5, lenF_t5, lenF_l5, len_t6, len_l6, len_o6, lenF_t6, lenF_l6, tif_and, tif_or, tif_andB, tif_orB, mal_mal, eqT_eq, kEqT_f, kEqT_t, eqzs_nil, eqzs_cons, lstM_7, tupM_7, lstM_8, tupM_8, lstM_9, tupM_9, lstM_10, tupM_10, lstM_11, tupM_11, lstM_12, tupM_12, lstM_13, tupM_13, ownE_t, ownE_l, ownE_i, ownE_b, ownE_s, ownE_n, tif_q, tif_i, sg_ge, kZ_ss, lcF2_nil, lcF2_cons, l2a_eq, l2b_t, l2b_f, l2c_eq, l2d_eq, kJoin_2, ixM_t52, ixM_l52, ixM_t53, ixM_l53, ixM_t54, ixM_l54, ixM_t62, ixM_l62, ixM_t63, ixM_l63, ixM_t64, ixM_l64, ixM_t65, ixM_l65, ixM_t72, ixM_l72, ixM_t73, ixM_l73, ixM_t74, ixM_l74, ixM_t75, ixM_l75, ixM_t76, ixM_l76, ixM_t82, ixM_l82, ixM_t83, ixM_l83, ixM_t84, ixM_l84, ixM_t85, ixM_l85, ixM_t86, ixM_l86, ixM_t87, ixM_l87, kLenC_iD, kLenC_iDl, kLenC_iDo, revM_eq, kRev_t, kRev_l, enuF_l, enuF_t, iD_rev, rng3_down, List.getElem?_cons_zero, List.getElem?_cons_succ, List.set_cons_zero, List.set_cons_succ, List.cons_append, List.nil_append, List.append_nil, decide_true, decide_false, Bool.not_true, Bool.not_false, Bool.true_and, Bool.false_and, Bool.and_true, Bool.and_false, Bool.true_or, Bool.false_or, Bool.or_true, Bool.or_false, Bool.not_not, Int.reduceMul, Int.reduceAdd, Int.reduceSub, Int.reduceNeg, Nat.reduceAdd, Nat.reduceMul, Int.reduceEq, Int.reduceLT, Int.reduceLE, eq_self, beq_self_eq_true, Bool.and_assoc, Bool.or_assoc, ↓reduceIte, i_Ratio_non, i_Ratio_bl, i_Ratio_int, i_Ratio_str, i_Ratio_tup, i_Ratio_lst, i_Ratio_qD, i_int_non, i_int_bl, i_int_int, i_int_str, i_int_tup, i_int_lst, i_int_qD, i_bool_non, i_bool_bl, i_bool_int, i_bool_str, i_bool_tup, i_bool_lst, i_bool_qD, i_str_non, i_str_bl, i_str_int, i_str_str, i_str_tup, i_str_lst, i_str_qD, i_tuple_non, i_tuple_bl, i_tuple_int, i_tuple_str, i_tuple_tup, i_tuple_lst, i_tuple_qD, i_list_non, i_list_bl, i_list_int, i_list_str, i_list_tup, i_list_lst, i_list_qD, f_n_qD, f_d_qD, n_qD, e_qD, o_addI_qD, o_addS_qD, o_addT_qD, o_subI_qD, o_mulI_qD, o_ltS_qD, o_cmpI_qD, e_t_qD, t_mul1_qD, t_over1_qD, t_eq1_qD, t_eq1_qD_non, t_eq1_qD_bl, t_eq1_qD_int, t_eq1_qD_str, t_eq1_qD_tup, t_eq1_qD_lst, t_neg1_qD, t_str1_qD, t_add1_qD, t_sub1_qD, t_times1_qD, t_floor1_qD, t_less1_qD, t_size1_qD, t_is_whole1_qD, t_is_zero1_qD, t_sign1_qD, s_n_qD, s_d_qD, q_told_told_f, q_told_told_t, q_told_malformed_f, q_told_malformed_t, q_told_raised_f, q_told_raised_t, q_told_zero_f, q_told_zero_t, q_told_long_f, q_told_long_t, q_told_poly_f, q_told_poly_t, q_told_text_f, q_told_text_t, q_told_read_f, q_told_read_t, q_malformed_told_f, q_malformed_told_t, q_malformed_malformed_f, q_malformed_malformed_t, q_malformed_raised_f, q_malformed_raised_t, q_malformed_zero_f, q_malformed_zero_t, q_malformed_long_f, q_malformed_long_t, q_malformed_poly_f, q_malformed_poly_t, q_malformed_text_f, q_malformed_text_t, q_malformed_read_f, q_malformed_read_t, q_raised_told_f, q_raised_told_t, q_raised_malformed_f, q_raised_malformed_t, q_raised_raised_f, q_raised_raised_t, q_raised_zero_f, q_raised_zero_t, q_raised_long_f, q_raised_long_t, q_raised_poly_f, q_raised_poly_t, q_raised_text_f, q_raised_text_t, q_raised_read_f, q_raised_read_t, q_zero_told_f, q_zero_told_t, q_zero_malformed_f, q_zero_malformed_t, q_zero_raised_f, q_zero_raised_t, q_zero_zero_f, q_zero_zero_t, q_zero_long_f, q_zero_long_t, q_zero_poly_f, q_zero_poly_t, q_zero_text_f, q_zero_text_t, q_zero_read_f, q_zero_read_t, q_long_told_f, q_long_told_t, q_long_malformed_f, q_long_malformed_t, q_long_raised_f, q_long_raised_t, q_long_zero_f, q_long_zero_t, q_long_long_f, q_long_long_t, q_long_poly_f, q_long_poly_t, q_long_text_f, q_long_text_t, q_long_read_f, q_long_read_t, q_poly_told_f, q_poly_told_t, q_poly_malformed_f, q_poly_malformed_t, q_poly_raised_f, q_poly_raised_t, q_poly_zero_f, q_poly_zero_t, q_poly_long_f, q_poly_long_t, q_poly_poly_f, q_poly_poly_t, q_poly_text_f, q_poly_text_t, q_poly_read_f, q_poly_read_t, q_text_told_f, q_text_told_t, q_text_malformed_f, q_text_malformed_t, q_text_raised_f, q_text_raised_t, q_text_zero_f, q_text_zero_t, q_text_long_f, q_text_long_t, q_text_poly_f, q_text_poly_t, q_text_text_f, q_text_text_t, q_text_read_f, q_text_read_t, q_read_told_f, q_read_told_t, q_read_malformed_f, q_read_malformed_t, q_read_raised_f, q_read_raised_t, q_read_zero_f, q_read_zero_t, q_read_long_f, q_read_long_t, q_read_poly_f, q_read_poly_t, q_read_text_f, q_read_text_t, q_read_read_f, q_read_read_t, sub_Fault_Malformed, sub_Fault_NoText, sub_Fault_Refused, sub_Malformed_Malformed, sub_Malformed_NoText, sub_Malformed_Refused, sub_Refused_Malformed, sub_Refused_NoText, sub_Refused_Refused, sub_NoText_Malformed, sub_NoText_NoText, sub_NoText_Refused, held_choose, held_common, held_common_of, held_sign_of, held_changes, held_row_text, held_read_ratio, held_read_ratios, held_is_ratio_row, held__law_make, held__law_over, held_is_integer, held_is_count, held_is_whole_row, $a,*])

def isT : Rs → Bool
  | .ok (.bl true) => true
  | _ => false
theorem isT_of {r : Rs} (h : isT r = true) : r = .ok (.bl true) := by
  cases r with
  | ok x => cases x with
    | bl b => cases b with
      | true => rfl
      | false => cases h
    | _ => cases h
  | _ => cases h
def chkR (r : Rs) (f : List D → Rs) : Bool := match r with
  | .ok (.lst l) => isT (f l)
  | _ => false
def chkC (n : Nat) : Bool := chkR (m_law_choices [.int (n : Int), .int ((n / 2 : Nat) : Int)]) fun l => m_law_tells [.glo "choose", .tup [.int (n : Int), .int ((n / 2 : Nat) : Int)], .int l.length]
theorem chk_0 : chkC 0 = true := by decide +kernel
theorem chk_1 : chkC 1 = true := by decide +kernel
theorem chk_2 : chkC 2 = true := by decide +kernel
theorem chk_3 : chkC 3 = true := by decide +kernel
theorem chk_4 : chkC 4 = true := by decide +kernel
theorem chk_5 : chkC 5 = true := by decide +kernel
theorem chk_6 : chkC 6 = true := by decide +kernel
theorem chk_7 : chkC 7 = true := by decide +kernel
theorem chk_8 : chkC 8 = true := by decide +kernel
theorem chk_all {k : Nat} (h : k < 9) : chkC k = true := by
  match k, h with
  | 0, _ => exact chk_0
  | 1, _ => exact chk_1
  | 2, _ => exact chk_2
  | 3, _ => exact chk_3
  | 4, _ => exact chk_4
  | 5, _ => exact chk_5
  | 6, _ => exact chk_6
  | 7, _ => exact chk_7
  | 8, _ => exact chk_8
theorem chk_of {r : Rs} {f : List D → Rs} (h : chkR r f = true) : ∃ l, r = .ok (.lst l) ∧ f l = .ok (.bl true) := by
  cases r with
  | ok x => cases x with
    | lst l => exact ⟨l, rfl, isT_of h⟩
    | _ => cases h
  | _ => cases h
theorem choose_law {n : Int} (h0 : 0 ≤ n) (h : n < 9) : ∃ l, m_law_choices [.int n, .int (n.fdiv 2)] = .ok (.lst l) ∧ m_law_tells [.glo "choose", .tup [.int n, .int (n.fdiv 2)], .int l.length] = .ok (.bl true) := by
  obtain ⟨k, rfl⟩ : ∃ k : Nat, n = (k : Int) := ⟨n.toNat, by omega⟩
  have e : (k : Int).fdiv 2 = ((k / 2 : Nat) : Int) := by rw [Int.fdiv_eq_ediv_of_nonneg _ (by decide)]; exact (Int.natCast_ediv k 2).symm
  rw [e]
  have hc := chk_all (k := k) (by omega)
  rw [chkC] at hc
  exact chk_of (f := fun l => m_law_tells [.glo "choose", .tup [.int (k : Int), .int ((k / 2 : Nat) : Int)], .int l.length]) hc
def vals : List D := [.int 0, .int 5, .int (-1), .int 9, .int 10, .bl true, .non, .str "2", .tup [.int 1, .int 2], .lst [.int 1], .tup [], .tup [.str "1"], .tup [.bl true]]
def valsBody : FS := ifS (orM (notM (bd (bd (consA (rt (.glo "is_integer")) (consA (bd (consA (varD 10) (rt [])) tupM) (consA (bd (consA (varD 10) (rt [])) (callM m_law_plain [])) (rt [])))) (callM m_law_tells [])) boolM)) (orM (notM (bd (bd (consA (rt (.glo "is_count")) (consA (bd (consA (varD 10) (consA (rt (.int 0)) (consA (rt (.int 9)) (rt [])))) tupM) (consA (andV (bd (consA (varD 10) (rt [])) (callM m_law_plain [])) (chainM (rt (.int 0)) (varD 10) (rt (.int 9)) (cmpI (fun i j => decide (i ≤ j)) (leS noO)) (cmpI (fun i j => decide (i ≤ j)) (leS noO)))) (rt [])))) (callM m_law_tells [])) boolM)) (orM (notM (bd (bd (consA (rt (.glo "is_whole_row")) (consA (bd (consA (varD 10) (rt [])) tupM) (consA (andV (bd (consA (varD 10) (consA (rt (.ty "tuple")) (rt []))) (isiF vcls)) (bd (consA (frzM (lcM [14] (bd (varD 10) itms) (gNm 14) (rt true) (bd (consA (varD 14) (rt [])) (callM m_law_plain [])))) (rt [])) allF)) (rt [])))) (callM m_law_tells [])) boolM)) (notM (bd (bd (consA (rt (.glo "is_ratio_row")) (consA (bd (consA (varD 10) (rt [])) tupM) (consA (two (varD 10) (bd (rt []) tupM) (eqP false (eqO Teq1 (eqT Teq1 2 false noO)))) (rt [])))) (callM m_law_tells [])) boolM))))) (retS (rt (.bl false))) nxS
def isN : Out → Bool
  | .nx _ => true
  | _ => false
theorem vals_0 (x0 x1 x2 x3 x4 x5 x6 x7 x8 x9 x11 x12 x13 x14 x15 x16 x17 x18 : Option Cl) : valsBody (x0 :: x1 :: x2 :: x3 :: x4 :: x5 :: x6 :: x7 :: x8 :: x9 :: some (.d (.int 0)) :: x11 :: x12 :: x13 :: x14 :: x15 :: x16 :: x17 :: x18 :: []) = .nx (x0 :: x1 :: x2 :: x3 :: x4 :: x5 :: x6 :: x7 :: x8 :: x9 :: some (.d (.int 0)) :: x11 :: x12 :: x13 :: x14 :: x15 :: x16 :: x17 :: x18 :: []) := by kernel_rfl
theorem vals_1 (x0 x1 x2 x3 x4 x5 x6 x7 x8 x9 x11 x12 x13 x14 x15 x16 x17 x18 : Option Cl) : valsBody (x0 :: x1 :: x2 :: x3 :: x4 :: x5 :: x6 :: x7 :: x8 :: x9 :: some (.d (.int 5)) :: x11 :: x12 :: x13 :: x14 :: x15 :: x16 :: x17 :: x18 :: []) = .nx (x0 :: x1 :: x2 :: x3 :: x4 :: x5 :: x6 :: x7 :: x8 :: x9 :: some (.d (.int 5)) :: x11 :: x12 :: x13 :: x14 :: x15 :: x16 :: x17 :: x18 :: []) := by kernel_rfl
theorem vals_2 (x0 x1 x2 x3 x4 x5 x6 x7 x8 x9 x11 x12 x13 x14 x15 x16 x17 x18 : Option Cl) : valsBody (x0 :: x1 :: x2 :: x3 :: x4 :: x5 :: x6 :: x7 :: x8 :: x9 :: some (.d (.int (-1))) :: x11 :: x12 :: x13 :: x14 :: x15 :: x16 :: x17 :: x18 :: []) = .nx (x0 :: x1 :: x2 :: x3 :: x4 :: x5 :: x6 :: x7 :: x8 :: x9 :: some (.d (.int (-1))) :: x11 :: x12 :: x13 :: x14 :: x15 :: x16 :: x17 :: x18 :: []) := by kernel_rfl
theorem vals_3 (x0 x1 x2 x3 x4 x5 x6 x7 x8 x9 x11 x12 x13 x14 x15 x16 x17 x18 : Option Cl) : valsBody (x0 :: x1 :: x2 :: x3 :: x4 :: x5 :: x6 :: x7 :: x8 :: x9 :: some (.d (.int 9)) :: x11 :: x12 :: x13 :: x14 :: x15 :: x16 :: x17 :: x18 :: []) = .nx (x0 :: x1 :: x2 :: x3 :: x4 :: x5 :: x6 :: x7 :: x8 :: x9 :: some (.d (.int 9)) :: x11 :: x12 :: x13 :: x14 :: x15 :: x16 :: x17 :: x18 :: []) := by kernel_rfl
theorem vals_4 (x0 x1 x2 x3 x4 x5 x6 x7 x8 x9 x11 x12 x13 x14 x15 x16 x17 x18 : Option Cl) : valsBody (x0 :: x1 :: x2 :: x3 :: x4 :: x5 :: x6 :: x7 :: x8 :: x9 :: some (.d (.int 10)) :: x11 :: x12 :: x13 :: x14 :: x15 :: x16 :: x17 :: x18 :: []) = .nx (x0 :: x1 :: x2 :: x3 :: x4 :: x5 :: x6 :: x7 :: x8 :: x9 :: some (.d (.int 10)) :: x11 :: x12 :: x13 :: x14 :: x15 :: x16 :: x17 :: x18 :: []) := by kernel_rfl
theorem vals_5 (x0 x1 x2 x3 x4 x5 x6 x7 x8 x9 x11 x12 x13 x14 x15 x16 x17 x18 : Option Cl) : valsBody (x0 :: x1 :: x2 :: x3 :: x4 :: x5 :: x6 :: x7 :: x8 :: x9 :: some (.d (.bl true)) :: x11 :: x12 :: x13 :: x14 :: x15 :: x16 :: x17 :: x18 :: []) = .nx (x0 :: x1 :: x2 :: x3 :: x4 :: x5 :: x6 :: x7 :: x8 :: x9 :: some (.d (.bl true)) :: x11 :: x12 :: x13 :: x14 :: x15 :: x16 :: x17 :: x18 :: []) := by kernel_rfl
theorem vals_6 (x0 x1 x2 x3 x4 x5 x6 x7 x8 x9 x11 x12 x13 x14 x15 x16 x17 x18 : Option Cl) : valsBody (x0 :: x1 :: x2 :: x3 :: x4 :: x5 :: x6 :: x7 :: x8 :: x9 :: some (.d (.non)) :: x11 :: x12 :: x13 :: x14 :: x15 :: x16 :: x17 :: x18 :: []) = .nx (x0 :: x1 :: x2 :: x3 :: x4 :: x5 :: x6 :: x7 :: x8 :: x9 :: some (.d (.non)) :: x11 :: x12 :: x13 :: x14 :: x15 :: x16 :: x17 :: x18 :: []) := by kernel_rfl
theorem vals_7 (x0 x1 x2 x3 x4 x5 x6 x7 x8 x9 x11 x12 x13 x14 x15 x16 x17 x18 : Option Cl) : valsBody (x0 :: x1 :: x2 :: x3 :: x4 :: x5 :: x6 :: x7 :: x8 :: x9 :: some (.d (.str "2")) :: x11 :: x12 :: x13 :: x14 :: x15 :: x16 :: x17 :: x18 :: []) = .nx (x0 :: x1 :: x2 :: x3 :: x4 :: x5 :: x6 :: x7 :: x8 :: x9 :: some (.d (.str "2")) :: x11 :: x12 :: x13 :: x14 :: x15 :: x16 :: x17 :: x18 :: []) := by kernel_rfl
theorem vals_8 (x0 x1 x2 x3 x4 x5 x6 x7 x8 x9 x11 x12 x13 x14 x15 x16 x17 x18 : Option Cl) : valsBody (x0 :: x1 :: x2 :: x3 :: x4 :: x5 :: x6 :: x7 :: x8 :: x9 :: some (.d (.tup [.int 1, .int 2])) :: x11 :: x12 :: x13 :: x14 :: x15 :: x16 :: x17 :: x18 :: []) = .nx (x0 :: x1 :: x2 :: x3 :: x4 :: x5 :: x6 :: x7 :: x8 :: x9 :: some (.d (.tup [.int 1, .int 2])) :: x11 :: x12 :: x13 :: keepD (some x14) :: x15 :: x16 :: x17 :: x18 :: []) := by kernel_rfl
theorem vals_9 (x0 x1 x2 x3 x4 x5 x6 x7 x8 x9 x11 x12 x13 x14 x15 x16 x17 x18 : Option Cl) : valsBody (x0 :: x1 :: x2 :: x3 :: x4 :: x5 :: x6 :: x7 :: x8 :: x9 :: some (.d (.lst [.int 1])) :: x11 :: x12 :: x13 :: x14 :: x15 :: x16 :: x17 :: x18 :: []) = .nx (x0 :: x1 :: x2 :: x3 :: x4 :: x5 :: x6 :: x7 :: x8 :: x9 :: some (.d (.lst [.int 1])) :: x11 :: x12 :: x13 :: x14 :: x15 :: x16 :: x17 :: x18 :: []) := by kernel_rfl
theorem vals_10 (x0 x1 x2 x3 x4 x5 x6 x7 x8 x9 x11 x12 x13 x14 x15 x16 x17 x18 : Option Cl) : valsBody (x0 :: x1 :: x2 :: x3 :: x4 :: x5 :: x6 :: x7 :: x8 :: x9 :: some (.d (.tup [])) :: x11 :: x12 :: x13 :: x14 :: x15 :: x16 :: x17 :: x18 :: []) = .nx (x0 :: x1 :: x2 :: x3 :: x4 :: x5 :: x6 :: x7 :: x8 :: x9 :: some (.d (.tup [])) :: x11 :: x12 :: x13 :: keepD (some x14) :: x15 :: x16 :: x17 :: x18 :: []) := by kernel_rfl
theorem vals_11 (x0 x1 x2 x3 x4 x5 x6 x7 x8 x9 x11 x12 x13 x14 x15 x16 x17 x18 : Option Cl) : valsBody (x0 :: x1 :: x2 :: x3 :: x4 :: x5 :: x6 :: x7 :: x8 :: x9 :: some (.d (.tup [.str "1"])) :: x11 :: x12 :: x13 :: x14 :: x15 :: x16 :: x17 :: x18 :: []) = .nx (x0 :: x1 :: x2 :: x3 :: x4 :: x5 :: x6 :: x7 :: x8 :: x9 :: some (.d (.tup [.str "1"])) :: x11 :: x12 :: x13 :: keepD (some x14) :: x15 :: x16 :: x17 :: x18 :: []) := by kernel_rfl
theorem vals_12 (x0 x1 x2 x3 x4 x5 x6 x7 x8 x9 x11 x12 x13 x14 x15 x16 x17 x18 : Option Cl) : valsBody (x0 :: x1 :: x2 :: x3 :: x4 :: x5 :: x6 :: x7 :: x8 :: x9 :: some (.d (.tup [.bl true])) :: x11 :: x12 :: x13 :: x14 :: x15 :: x16 :: x17 :: x18 :: []) = .nx (x0 :: x1 :: x2 :: x3 :: x4 :: x5 :: x6 :: x7 :: x8 :: x9 :: some (.d (.tup [.bl true])) :: x11 :: x12 :: x13 :: keepD (some x14) :: x15 :: x16 :: x17 :: x18 :: []) := by kernel_rfl
theorem vals_ok (x0 x1 x2 x3 x4 x5 x6 x7 x8 x9 x11 x12 x13 x14 x15 x16 x17 x18 : Option Cl) (d : D) (hd : d ∈ vals) : ∃ y, valsBody (x0 :: x1 :: x2 :: x3 :: x4 :: x5 :: x6 :: x7 :: x8 :: x9 :: some (.d d) :: x11 :: x12 :: x13 :: x14 :: x15 :: x16 :: x17 :: x18 :: []) = .nx (x0 :: x1 :: x2 :: x3 :: x4 :: x5 :: x6 :: x7 :: x8 :: x9 :: some (.d d) :: x11 :: x12 :: x13 :: y :: x15 :: x16 :: x17 :: x18 :: []) := by
  simp only [vals, List.mem_cons, List.not_mem_nil, or_false] at hd
  rcases hd with rfl | rfl | rfl | rfl | rfl | rfl | rfl | rfl | rfl | rfl | rfl | rfl | rfl
  · exact ⟨_, vals_0 x0 x1 x2 x3 x4 x5 x6 x7 x8 x9 x11 x12 x13 x14 x15 x16 x17 x18⟩
  · exact ⟨_, vals_1 x0 x1 x2 x3 x4 x5 x6 x7 x8 x9 x11 x12 x13 x14 x15 x16 x17 x18⟩
  · exact ⟨_, vals_2 x0 x1 x2 x3 x4 x5 x6 x7 x8 x9 x11 x12 x13 x14 x15 x16 x17 x18⟩
  · exact ⟨_, vals_3 x0 x1 x2 x3 x4 x5 x6 x7 x8 x9 x11 x12 x13 x14 x15 x16 x17 x18⟩
  · exact ⟨_, vals_4 x0 x1 x2 x3 x4 x5 x6 x7 x8 x9 x11 x12 x13 x14 x15 x16 x17 x18⟩
  · exact ⟨_, vals_5 x0 x1 x2 x3 x4 x5 x6 x7 x8 x9 x11 x12 x13 x14 x15 x16 x17 x18⟩
  · exact ⟨_, vals_6 x0 x1 x2 x3 x4 x5 x6 x7 x8 x9 x11 x12 x13 x14 x15 x16 x17 x18⟩
  · exact ⟨_, vals_7 x0 x1 x2 x3 x4 x5 x6 x7 x8 x9 x11 x12 x13 x14 x15 x16 x17 x18⟩
  · exact ⟨_, vals_8 x0 x1 x2 x3 x4 x5 x6 x7 x8 x9 x11 x12 x13 x14 x15 x16 x17 x18⟩
  · exact ⟨_, vals_9 x0 x1 x2 x3 x4 x5 x6 x7 x8 x9 x11 x12 x13 x14 x15 x16 x17 x18⟩
  · exact ⟨_, vals_10 x0 x1 x2 x3 x4 x5 x6 x7 x8 x9 x11 x12 x13 x14 x15 x16 x17 x18⟩
  · exact ⟨_, vals_11 x0 x1 x2 x3 x4 x5 x6 x7 x8 x9 x11 x12 x13 x14 x15 x16 x17 x18⟩
  · exact ⟨_, vals_12 x0 x1 x2 x3 x4 x5 x6 x7 x8 x9 x11 x12 x13 x14 x15 x16 x17 x18⟩
def bads : List D := [.str "", .str " 1", .str "+1", .str "01", .str "2/4", .str "1/0", .str "1/1", .str "-0", .str "a", .non, .int 5]
def badsBody : FS := ifS (bd (two (bd (consA (rt (.glo "read_ratio")) (consA (varD 17) (rt []))) (callM m_law_read [])) (bd (consA (rt (.str "text")) (consA (rt (.int 0)) (rt []))) tupM) (eqP true (neO Teq1 (eqT Teq1 2 true noO)))) boolM) (retS (rt (.bl false))) nxS
theorem bads_0 (x0 x1 x2 x3 x4 x5 x6 x7 x8 x9 x10 x11 x12 x13 x14 x15 x16 x18 : Option Cl) : badsBody (x0 :: x1 :: x2 :: x3 :: x4 :: x5 :: x6 :: x7 :: x8 :: x9 :: x10 :: x11 :: x12 :: x13 :: x14 :: x15 :: x16 :: some (.d (.str "")) :: x18 :: []) = .nx (x0 :: x1 :: x2 :: x3 :: x4 :: x5 :: x6 :: x7 :: x8 :: x9 :: x10 :: x11 :: x12 :: x13 :: x14 :: x15 :: x16 :: some (.d (.str "")) :: x18 :: []) := by kernel_rfl
theorem bads_1 (x0 x1 x2 x3 x4 x5 x6 x7 x8 x9 x10 x11 x12 x13 x14 x15 x16 x18 : Option Cl) : badsBody (x0 :: x1 :: x2 :: x3 :: x4 :: x5 :: x6 :: x7 :: x8 :: x9 :: x10 :: x11 :: x12 :: x13 :: x14 :: x15 :: x16 :: some (.d (.str " 1")) :: x18 :: []) = .nx (x0 :: x1 :: x2 :: x3 :: x4 :: x5 :: x6 :: x7 :: x8 :: x9 :: x10 :: x11 :: x12 :: x13 :: x14 :: x15 :: x16 :: some (.d (.str " 1")) :: x18 :: []) := by kernel_rfl
theorem bads_2 (x0 x1 x2 x3 x4 x5 x6 x7 x8 x9 x10 x11 x12 x13 x14 x15 x16 x18 : Option Cl) : badsBody (x0 :: x1 :: x2 :: x3 :: x4 :: x5 :: x6 :: x7 :: x8 :: x9 :: x10 :: x11 :: x12 :: x13 :: x14 :: x15 :: x16 :: some (.d (.str "+1")) :: x18 :: []) = .nx (x0 :: x1 :: x2 :: x3 :: x4 :: x5 :: x6 :: x7 :: x8 :: x9 :: x10 :: x11 :: x12 :: x13 :: x14 :: x15 :: x16 :: some (.d (.str "+1")) :: x18 :: []) := by kernel_rfl
theorem bads_3 (x0 x1 x2 x3 x4 x5 x6 x7 x8 x9 x10 x11 x12 x13 x14 x15 x16 x18 : Option Cl) : badsBody (x0 :: x1 :: x2 :: x3 :: x4 :: x5 :: x6 :: x7 :: x8 :: x9 :: x10 :: x11 :: x12 :: x13 :: x14 :: x15 :: x16 :: some (.d (.str "01")) :: x18 :: []) = .nx (x0 :: x1 :: x2 :: x3 :: x4 :: x5 :: x6 :: x7 :: x8 :: x9 :: x10 :: x11 :: x12 :: x13 :: x14 :: x15 :: x16 :: some (.d (.str "01")) :: x18 :: []) := by kernel_rfl
theorem bads_4 (x0 x1 x2 x3 x4 x5 x6 x7 x8 x9 x10 x11 x12 x13 x14 x15 x16 x18 : Option Cl) : badsBody (x0 :: x1 :: x2 :: x3 :: x4 :: x5 :: x6 :: x7 :: x8 :: x9 :: x10 :: x11 :: x12 :: x13 :: x14 :: x15 :: x16 :: some (.d (.str "2/4")) :: x18 :: []) = .nx (x0 :: x1 :: x2 :: x3 :: x4 :: x5 :: x6 :: x7 :: x8 :: x9 :: x10 :: x11 :: x12 :: x13 :: x14 :: x15 :: x16 :: some (.d (.str "2/4")) :: x18 :: []) := by kernel_rfl
theorem bads_5 (x0 x1 x2 x3 x4 x5 x6 x7 x8 x9 x10 x11 x12 x13 x14 x15 x16 x18 : Option Cl) : badsBody (x0 :: x1 :: x2 :: x3 :: x4 :: x5 :: x6 :: x7 :: x8 :: x9 :: x10 :: x11 :: x12 :: x13 :: x14 :: x15 :: x16 :: some (.d (.str "1/0")) :: x18 :: []) = .nx (x0 :: x1 :: x2 :: x3 :: x4 :: x5 :: x6 :: x7 :: x8 :: x9 :: x10 :: x11 :: x12 :: x13 :: x14 :: x15 :: x16 :: some (.d (.str "1/0")) :: x18 :: []) := by kernel_rfl
theorem bads_6 (x0 x1 x2 x3 x4 x5 x6 x7 x8 x9 x10 x11 x12 x13 x14 x15 x16 x18 : Option Cl) : badsBody (x0 :: x1 :: x2 :: x3 :: x4 :: x5 :: x6 :: x7 :: x8 :: x9 :: x10 :: x11 :: x12 :: x13 :: x14 :: x15 :: x16 :: some (.d (.str "1/1")) :: x18 :: []) = .nx (x0 :: x1 :: x2 :: x3 :: x4 :: x5 :: x6 :: x7 :: x8 :: x9 :: x10 :: x11 :: x12 :: x13 :: x14 :: x15 :: x16 :: some (.d (.str "1/1")) :: x18 :: []) := by kernel_rfl
theorem bads_7 (x0 x1 x2 x3 x4 x5 x6 x7 x8 x9 x10 x11 x12 x13 x14 x15 x16 x18 : Option Cl) : badsBody (x0 :: x1 :: x2 :: x3 :: x4 :: x5 :: x6 :: x7 :: x8 :: x9 :: x10 :: x11 :: x12 :: x13 :: x14 :: x15 :: x16 :: some (.d (.str "-0")) :: x18 :: []) = .nx (x0 :: x1 :: x2 :: x3 :: x4 :: x5 :: x6 :: x7 :: x8 :: x9 :: x10 :: x11 :: x12 :: x13 :: x14 :: x15 :: x16 :: some (.d (.str "-0")) :: x18 :: []) := by kernel_rfl
theorem bads_8 (x0 x1 x2 x3 x4 x5 x6 x7 x8 x9 x10 x11 x12 x13 x14 x15 x16 x18 : Option Cl) : badsBody (x0 :: x1 :: x2 :: x3 :: x4 :: x5 :: x6 :: x7 :: x8 :: x9 :: x10 :: x11 :: x12 :: x13 :: x14 :: x15 :: x16 :: some (.d (.str "a")) :: x18 :: []) = .nx (x0 :: x1 :: x2 :: x3 :: x4 :: x5 :: x6 :: x7 :: x8 :: x9 :: x10 :: x11 :: x12 :: x13 :: x14 :: x15 :: x16 :: some (.d (.str "a")) :: x18 :: []) := by kernel_rfl
theorem bads_9 (x0 x1 x2 x3 x4 x5 x6 x7 x8 x9 x10 x11 x12 x13 x14 x15 x16 x18 : Option Cl) : badsBody (x0 :: x1 :: x2 :: x3 :: x4 :: x5 :: x6 :: x7 :: x8 :: x9 :: x10 :: x11 :: x12 :: x13 :: x14 :: x15 :: x16 :: some (.d (.non)) :: x18 :: []) = .nx (x0 :: x1 :: x2 :: x3 :: x4 :: x5 :: x6 :: x7 :: x8 :: x9 :: x10 :: x11 :: x12 :: x13 :: x14 :: x15 :: x16 :: some (.d (.non)) :: x18 :: []) := by kernel_rfl
theorem bads_10 (x0 x1 x2 x3 x4 x5 x6 x7 x8 x9 x10 x11 x12 x13 x14 x15 x16 x18 : Option Cl) : badsBody (x0 :: x1 :: x2 :: x3 :: x4 :: x5 :: x6 :: x7 :: x8 :: x9 :: x10 :: x11 :: x12 :: x13 :: x14 :: x15 :: x16 :: some (.d (.int 5)) :: x18 :: []) = .nx (x0 :: x1 :: x2 :: x3 :: x4 :: x5 :: x6 :: x7 :: x8 :: x9 :: x10 :: x11 :: x12 :: x13 :: x14 :: x15 :: x16 :: some (.d (.int 5)) :: x18 :: []) := by kernel_rfl
theorem bads_ok (x0 x1 x2 x3 x4 x5 x6 x7 x8 x9 x10 x11 x12 x13 x14 x15 x16 x18 : Option Cl) (d : D) (hd : d ∈ bads) : badsBody (x0 :: x1 :: x2 :: x3 :: x4 :: x5 :: x6 :: x7 :: x8 :: x9 :: x10 :: x11 :: x12 :: x13 :: x14 :: x15 :: x16 :: some (.d d) :: x18 :: []) = .nx (x0 :: x1 :: x2 :: x3 :: x4 :: x5 :: x6 :: x7 :: x8 :: x9 :: x10 :: x11 :: x12 :: x13 :: x14 :: x15 :: x16 :: some (.d d) :: x18 :: []) := by
  simp only [bads, List.mem_cons, List.not_mem_nil, or_false] at hd
  rcases hd with rfl | rfl | rfl | rfl | rfl | rfl | rfl | rfl | rfl | rfl | rfl
  · exact bads_0 x0 x1 x2 x3 x4 x5 x6 x7 x8 x9 x10 x11 x12 x13 x14 x15 x16 x18
  · exact bads_1 x0 x1 x2 x3 x4 x5 x6 x7 x8 x9 x10 x11 x12 x13 x14 x15 x16 x18
  · exact bads_2 x0 x1 x2 x3 x4 x5 x6 x7 x8 x9 x10 x11 x12 x13 x14 x15 x16 x18
  · exact bads_3 x0 x1 x2 x3 x4 x5 x6 x7 x8 x9 x10 x11 x12 x13 x14 x15 x16 x18
  · exact bads_4 x0 x1 x2 x3 x4 x5 x6 x7 x8 x9 x10 x11 x12 x13 x14 x15 x16 x18
  · exact bads_5 x0 x1 x2 x3 x4 x5 x6 x7 x8 x9 x10 x11 x12 x13 x14 x15 x16 x18
  · exact bads_6 x0 x1 x2 x3 x4 x5 x6 x7 x8 x9 x10 x11 x12 x13 x14 x15 x16 x18
  · exact bads_7 x0 x1 x2 x3 x4 x5 x6 x7 x8 x9 x10 x11 x12 x13 x14 x15 x16 x18
  · exact bads_8 x0 x1 x2 x3 x4 x5 x6 x7 x8 x9 x10 x11 x12 x13 x14 x15 x16 x18
  · exact bads_9 x0 x1 x2 x3 x4 x5 x6 x7 x8 x9 x10 x11 x12 x13 x14 x15 x16 x18
  · exact bads_10 x0 x1 x2 x3 x4 x5 x6 x7 x8 x9 x10 x11 x12 x13 x14 x15 x16 x18
theorem read_bad : m_law_read [.glo "read_ratios", .non] = .ok (.tup [.str "text", .int 0]) := by kernel_rfl
theorem read_ok {t : Str} {x : D} {g : Str} {m : Fm} (hg : heldT g = some (m, [])) (h : m [.str t] = .ok x) : m_law_read [.glo g, .str t] = .ok (.tup [.str "read", x]) := by
  show outR (F_law_read (some (.d (.glo g)) :: some (.d (.str t)) :: none :: [])) = _
  dsimp! only [F_law_read, hg, h, is_integer_i_s, common_s, check_ratio_s, less_s, add_s, sub_s, mul_s, neg_s, size_s, eq_s, sign_s, make_s, over_s, over_0_s, is_zero_s, is_whole_s, is_short_s, Ratio_str_s, check_ratio_n_s, check_ratio_i_s, is_integer_n_s, is_integer_b_s, is_count_s, is_count_n_s, is_count_b_s, law_take_s, law_state_s, same_bb_s, same_ii_s, same_nn_s, same_qq_s, read_ratio_s, law_common_s, common_of_s, sign_of_s, changes_s, digits_of_s, row_text_s, read_ratios_s]
theorem make_of {n d : Int} (hd : d ≠ 0) (hb : d.natAbs < 18446744073709551616) : m_law_make [.int n, .int d] = .ok (qD (Rat.divInt n d)) := by
  show outR (F_law_make (some (.d (.int n)) :: some (.d (.int d)) :: [])) = _
  dsimp! only [F_law_make, is_integer_i_s, common_s, check_ratio_s, less_s, add_s, sub_s, mul_s, neg_s, size_s, eq_s, sign_s, make_s, over_s, over_0_s, is_zero_s, is_whole_s, is_short_s, Ratio_str_s, check_ratio_n_s, check_ratio_i_s, is_integer_n_s, is_integer_b_s, is_count_s, is_count_n_s, is_count_b_s, law_take_s, law_state_s, same_bb_s, same_ii_s, same_nn_s, same_qq_s, read_ratio_s, law_common_s, common_of_s, sign_of_s, changes_s, digits_of_s, row_text_s, read_ratios_s]
theorem make_0 {n : Int} : m_law_make [.int n, .int 0] = .er ⟨"Refused", [("reason", .str "zero")]⟩ := by
  have e : m_Ratio__init (.ins "Ratio" []) [.int n, .int 0] = .er ⟨"Refused", [("reason", .str "zero")]⟩ := by
    show outB (F_Ratio__init (some (.bor (.ins "Ratio" [])) :: some (.d (.int n)) :: some (.d (.int 0)) :: none :: [])) = _
    dsimp! only [F_Ratio__init, is_integer_i_s, common_s, check_ratio_s, less_s, add_s, sub_s, mul_s, neg_s, size_s, eq_s, sign_s, make_s, over_s, over_0_s, is_zero_s, is_whole_s, is_short_s, Ratio_str_s, check_ratio_n_s, check_ratio_i_s, is_integer_n_s, is_integer_b_s, is_count_s, is_count_n_s, is_count_b_s, law_take_s, law_state_s, same_bb_s, same_ii_s, same_nn_s, same_qq_s, read_ratio_s, law_common_s, common_of_s, sign_of_s, changes_s, digits_of_s, row_text_s, read_ratios_s]
  show outR (F_law_make (some (.d (.int n)) :: some (.d (.int 0)) :: [])) = _
  dsimp! only [F_law_make, e, is_integer_i_s, common_s, check_ratio_s, less_s, add_s, sub_s, mul_s, neg_s, size_s, eq_s, sign_s, make_s, over_s, over_0_s, is_zero_s, is_whole_s, is_short_s, Ratio_str_s, check_ratio_n_s, check_ratio_i_s, is_integer_n_s, is_integer_b_s, is_count_s, is_count_n_s, is_count_b_s, law_take_s, law_state_s, same_bb_s, same_ii_s, same_nn_s, same_qq_s, read_ratio_s, law_common_s, common_of_s, sign_of_s, changes_s, digits_of_s, row_text_s, read_ratios_s]
theorem law_over_s {x y : Rat} (hx : Lv 7 x) (hy : Lv 7 y) (h0 : y ≠ 0) : m_law_over [qD x, qD y] = .ok (qD (x / y)) := by
  show outR (F_law_over (some (.d (qD x)) :: some (.d (qD y)) :: [])) = _
  have := over_s hx hy h0
  dsimp! only [F_law_over, this, is_integer_i_s, common_s, check_ratio_s, less_s, add_s, sub_s, mul_s, neg_s, size_s, eq_s, sign_s, make_s, over_s, over_0_s, is_zero_s, is_whole_s, is_short_s, Ratio_str_s, check_ratio_n_s, check_ratio_i_s, is_integer_n_s, is_integer_b_s, is_count_s, is_count_n_s, is_count_b_s, law_take_s, law_state_s, same_bb_s, same_ii_s, same_nn_s, same_qq_s, read_ratio_s, law_common_s, common_of_s, sign_of_s, changes_s, digits_of_s, row_text_s, read_ratios_s]
theorem law_over_0 {x : Rat} (hx : Lv 7 x) : m_law_over [qD x, qD 0] = .er ⟨"Refused", [("reason", .str "zero")]⟩ := by
  show outR (F_law_over (some (.d (qD x)) :: some (.d (qD 0)) :: [])) = _
  have := over_0_s hx
  dsimp! only [F_law_over, this, is_integer_i_s, common_s, check_ratio_s, less_s, add_s, sub_s, mul_s, neg_s, size_s, eq_s, sign_s, make_s, over_s, over_0_s, is_zero_s, is_whole_s, is_short_s, Ratio_str_s, check_ratio_n_s, check_ratio_i_s, is_integer_n_s, is_integer_b_s, is_count_s, is_count_n_s, is_count_b_s, law_take_s, law_state_s, same_bb_s, same_ii_s, same_nn_s, same_qq_s, read_ratio_s, law_common_s, common_of_s, sign_of_s, changes_s, digits_of_s, row_text_s, read_ratios_s, law_over_s]
theorem law_over_bad {x : Rat} {y : D} (hy : m_check_ratio [y] = .er ⟨"Malformed", []⟩) : m_law_over [qD x, y] = .er ⟨"Malformed", []⟩ := by
  have e : m_Ratio_over [qD x, y] = .er ⟨"Malformed", []⟩ := by
    show outR (F_Ratio_over (some (.d (qD x)) :: some (.d y) :: [])) = _
    dsimp! only [F_Ratio_over, hy, is_integer_i_s, common_s, check_ratio_s, less_s, add_s, sub_s, mul_s, neg_s, size_s, eq_s, sign_s, make_s, over_s, over_0_s, is_zero_s, is_whole_s, is_short_s, Ratio_str_s, check_ratio_n_s, check_ratio_i_s, is_integer_n_s, is_integer_b_s, is_count_s, is_count_n_s, is_count_b_s, law_take_s, law_state_s, same_bb_s, same_ii_s, same_nn_s, same_qq_s, read_ratio_s, law_common_s, common_of_s, sign_of_s, changes_s, digits_of_s, row_text_s, read_ratios_s, law_over_s]
  show outR (F_law_over (some (.d (qD x)) :: some (.d y) :: [])) = _
  dsimp! only [F_law_over, e, is_integer_i_s, common_s, check_ratio_s, less_s, add_s, sub_s, mul_s, neg_s, size_s, eq_s, sign_s, make_s, over_s, over_0_s, is_zero_s, is_whole_s, is_short_s, Ratio_str_s, check_ratio_n_s, check_ratio_i_s, is_integer_n_s, is_integer_b_s, is_count_s, is_count_n_s, is_count_b_s, law_take_s, law_state_s, same_bb_s, same_ii_s, same_nn_s, same_qq_s, read_ratio_s, law_common_s, common_of_s, sign_of_s, changes_s, digits_of_s, row_text_s, read_ratios_s, law_over_s]
theorem make_bad {d : Int} {y : D} (hy : m_is_integer [y] = .ok (.bl false)) : m_law_make [y, .int d] = .er ⟨"Malformed", []⟩ := by
  have e : m_Ratio__init (.ins "Ratio" []) [y, .int d] = .er ⟨"Malformed", []⟩ := by
    show outB (F_Ratio__init (some (.bor (.ins "Ratio" [])) :: some (.d y) :: some (.d (.int d)) :: none :: [])) = _
    dsimp! only [F_Ratio__init, hy, is_integer_i_s, common_s, check_ratio_s, less_s, add_s, sub_s, mul_s, neg_s, size_s, eq_s, sign_s, make_s, over_s, over_0_s, is_zero_s, is_whole_s, is_short_s, Ratio_str_s, check_ratio_n_s, check_ratio_i_s, is_integer_n_s, is_integer_b_s, is_count_s, is_count_n_s, is_count_b_s, law_take_s, law_state_s, same_bb_s, same_ii_s, same_nn_s, same_qq_s, read_ratio_s, law_common_s, common_of_s, sign_of_s, changes_s, digits_of_s, row_text_s, read_ratios_s, law_over_s]
  show outR (F_law_make (some (.d y) :: some (.d (.int d)) :: [])) = _
  dsimp! only [F_law_make, e, is_integer_i_s, common_s, check_ratio_s, less_s, add_s, sub_s, mul_s, neg_s, size_s, eq_s, sign_s, make_s, over_s, over_0_s, is_zero_s, is_whole_s, is_short_s, Ratio_str_s, check_ratio_n_s, check_ratio_i_s, is_integer_n_s, is_integer_b_s, is_count_s, is_count_n_s, is_count_b_s, law_take_s, law_state_s, same_bb_s, same_ii_s, same_nn_s, same_qq_s, read_ratio_s, law_common_s, common_of_s, sign_of_s, changes_s, digits_of_s, row_text_s, read_ratios_s, law_over_s]
theorem is_integer_str : m_is_integer [.str "1"] = .ok (.bl false) := by kernel_rfl
theorem times_s {x : Rat} {k : Int} (hx : Lv 7 x) (hk : k.natAbs < 18446744073709551616) : m_Ratio_times [qD x, .int k] = .ok (qD (Rat.divInt (x.num * k) x.den)) := by
  show outR (F_Ratio_times (some (.d (qD x)) :: some (.d (.int k)) :: [])) = _
  dsimp! only [F_Ratio_times, mulI_ii (mulOk_r (i := x.num) (j := k) hk), make_q (den_nz x) (den7 hx), is_integer_i_s, common_s, check_ratio_s, less_s, add_s, sub_s, mul_s, neg_s, size_s, eq_s, sign_s, make_s, over_s, over_0_s, is_zero_s, is_whole_s, is_short_s, Ratio_str_s, check_ratio_n_s, check_ratio_i_s, is_integer_n_s, is_integer_b_s, is_count_s, is_count_n_s, is_count_b_s, law_take_s, law_state_s, same_bb_s, same_ii_s, same_nn_s, same_qq_s, read_ratio_s, law_common_s, common_of_s, sign_of_s, changes_s, digits_of_s, row_text_s, read_ratios_s, law_over_s]
theorem floor_s {x : Rat} (hx : Lv 7 x) : m_Ratio_floor [qD x] = .ok (.int (x.num.fdiv x.den)) := by
  show outR (F_Ratio_floor (some (.d (qD x)) :: [])) = _
  have := divOk_of (den_nz x) (den7 hx)
  dsimp! only [F_Ratio_floor, fdivI_ii this, is_integer_i_s, common_s, check_ratio_s, less_s, add_s, sub_s, mul_s, neg_s, size_s, eq_s, sign_s, make_s, over_s, over_0_s, is_zero_s, is_whole_s, is_short_s, Ratio_str_s, check_ratio_n_s, check_ratio_i_s, is_integer_n_s, is_integer_b_s, is_count_s, is_count_n_s, is_count_b_s, law_take_s, law_state_s, same_bb_s, same_ii_s, same_nn_s, same_qq_s, read_ratio_s, law_common_s, common_of_s, sign_of_s, changes_s, digits_of_s, row_text_s, read_ratios_s, law_over_s, times_s]
theorem eq_int_s {x : Rat} {n : Int} : m_Ratio__eq [qD x, .int n] = .ok (.bl false) := by
  show outR (F_Ratio__eq (some (.d (qD x)) :: some (.d (.int n)) :: [])) = _
  dsimp! only [F_Ratio__eq, is_integer_i_s, common_s, check_ratio_s, less_s, add_s, sub_s, mul_s, neg_s, size_s, eq_s, sign_s, make_s, over_s, over_0_s, is_zero_s, is_whole_s, is_short_s, Ratio_str_s, check_ratio_n_s, check_ratio_i_s, is_integer_n_s, is_integer_b_s, is_count_s, is_count_n_s, is_count_b_s, law_take_s, law_state_s, same_bb_s, same_ii_s, same_nn_s, same_qq_s, read_ratio_s, law_common_s, common_of_s, sign_of_s, changes_s, digits_of_s, row_text_s, read_ratios_s, law_over_s, times_s, floor_s]
theorem is_ratio_row_s {x y : Rat} : m_is_ratio_row [.tup [qD x, qD y]] = .ok (.bl true) := by
  show outR (F_is_ratio_row (some (.d (.tup [qD x, qD y])) :: none :: [])) = _
  dsimp! only [F_is_ratio_row, is_integer_i_s, common_s, check_ratio_s, less_s, add_s, sub_s, mul_s, neg_s, size_s, eq_s, sign_s, make_s, over_s, over_0_s, is_zero_s, is_whole_s, is_short_s, Ratio_str_s, check_ratio_n_s, check_ratio_i_s, is_integer_n_s, is_integer_b_s, is_count_s, is_count_n_s, is_count_b_s, law_take_s, law_state_s, same_bb_s, same_ii_s, same_nn_s, same_qq_s, read_ratio_s, law_common_s, common_of_s, sign_of_s, changes_s, digits_of_s, row_text_s, read_ratios_s, law_over_s, times_s, floor_s, eq_int_s]
/-! plain facts of quotients -/
theorem cross {N D : Int} (hD : D ≠ 0) : (Rat.divInt N D).num * D = N * (Rat.divInt N D).den := by
  have h : Rat.divInt (Rat.divInt N D).num ((Rat.divInt N D).den : Int) = Rat.divInt N D := Rat.num_divInt_den _
  exact (Rat.divInt_eq_divInt_iff (den_nz _) hD).mp h
theorem sum_q {n d m e : Int} (hd : d ≠ 0) (he : e ≠ 0) : Rat.divInt n d + Rat.divInt m e = Rat.divInt (n * e + m * d) (d * e) := Rat.divInt_add_divInt _ _ hd he
theorem sub_q {n d m e : Int} (hd : d ≠ 0) (he : e ≠ 0) : Rat.divInt n d - Rat.divInt m e = Rat.divInt (n * e - m * d) (d * e) := Rat.divInt_sub_divInt _ _ hd he
theorem mul_q {n d m e : Int} : Rat.divInt n d * Rat.divInt m e = Rat.divInt (n * m) (d * e) := Rat.divInt_mul_divInt _ _
theorem quo_q {n d m e : Int} : Rat.divInt n d / Rat.divInt m e = Rat.divInt (n * e) (d * m) := by
  rw [Rat.div_def, Rat.inv_divInt, Rat.divInt_mul_divInt]
theorem posQ {n d : Int} (hd : 0 < d) : (0 < Rat.divInt n d) ↔ 0 < n := by
  have h : (0 < n) ↔ ¬ (0 ≤ -n) := by omega
  have h2 : (0 < Rat.divInt n d) ↔ ¬ (0 ≤ -Rat.divInt n d) := by
    constructor
    · intro a b; grind
    · intro a; grind
  rw [h, h2, Rat.neg_divInt, Rat.divInt_nonneg_iff_of_pos_right hd]
theorem negQ {n d : Int} (hd : 0 < d) : (Rat.divInt n d < 0) ↔ n < 0 := by
  have h : (n < 0) ↔ ¬ (0 ≤ n) := by omega
  have h2 : (Rat.divInt n d < 0) ↔ ¬ (0 ≤ Rat.divInt n d) := by
    constructor
    · intro a b; grind
    · intro a; grind
  rw [h, h2, Rat.divInt_nonneg_iff_of_pos_right hd]
theorem ltQ {n d m e : Int} (hd : 0 < d) (he : 0 < e) : (Rat.divInt n d < Rat.divInt m e) ↔ n * e < m * d := by
  have h : (Rat.divInt n d < Rat.divInt m e) ↔ (Rat.divInt n d - Rat.divInt m e < 0) := by
    constructor
    · intro a; grind
    · intro a; grind
  rw [h, sub_q (by omega) (by omega), negQ (Int.mul_pos hd he)]; omega
theorem eqQ {n d m e : Int} (hd : d ≠ 0) (he : e ≠ 0) : (Rat.divInt n d = Rat.divInt m e) ↔ n * e = m * d := Rat.divInt_eq_divInt_iff hd he
theorem floorQ {n d : Int} (hd : 0 < d) : (Rat.divInt n d).num.fdiv (Rat.divInt n d).den = n.fdiv d := by
  have hc := cross (N := n) (D := d) (by omega)
  have hp := den_pos (Rat.divInt n d)
  generalize (Rat.divInt n d).num = N at *
  generalize ((Rat.divInt n d).den : Int) = D at *
  rw [Int.fdiv_eq_ediv_of_nonneg _ (by omega), Int.fdiv_eq_ediv_of_nonneg _ (by omega)]
  have e1 : N / D = (N * d) / (D * d) := (Int.mul_ediv_mul_of_pos_left N D hd).symm
  have e2 : n / d = (n * D) / (d * D) := (Int.mul_ediv_mul_of_pos_left n d hp).symm
  rw [e1, e2, hc, Int.mul_comm d D]
theorem timesQ {n d k : Int} (hd : d ≠ 0) : Rat.divInt ((Rat.divInt n d).num * k) (Rat.divInt n d).den = Rat.divInt (n * k) d := by
  have hc := cross (N := n) (D := d) hd
  rw [Rat.divInt_eq_divInt_iff (den_nz _) hd, Int.mul_right_comm, hc, Int.mul_right_comm]
theorem sizeQ {n d : Int} (hd : 0 < d) : (if 0 ≤ Rat.divInt n d then Rat.divInt n d else -Rat.divInt n d) = Rat.divInt (n.natAbs : Int) d := by
  by_cases h : 0 ≤ n
  · rw [if_pos ((Rat.divInt_nonneg_iff_of_pos_right hd).mpr h), Int.natAbs_of_nonneg h]
  · rw [if_neg (fun z => h ((Rat.divInt_nonneg_iff_of_pos_right hd).mp z)), Rat.neg_divInt]
    congr 1; omega
theorem wholeQ {n d : Int} (hd : 0 < d) : (((Rat.divInt n d).den : Int) = 1) ↔ n.fmod d = 0 := by
  have hc := cross (N := n) (D := d) (by omega)
  rw [Int.fmod_eq_emod_of_nonneg _ (by omega)]
  constructor
  · intro h
    rw [h, Int.mul_one] at hc
    rw [← hc]; exact Int.mul_emod_left _ _
  · intro h
    have hdv := Int.dvd_of_emod_eq_zero h
    obtain ⟨k, rfl⟩ := hdv
    have : Rat.divInt (d * k) d = (k : Rat) := by
      have := Rat.divInt_mul_left (n := k) (d := 1) (a := d) (by omega)
      rw [Int.mul_one] at this
      rw [this, Rat.divInt_eq_div]; simp; grind
    rw [this]; simp
theorem zeroQ {n d : Int} (hd : 0 < d) : ((Rat.divInt n d).num = 0) ↔ n = 0 := by
  have hc := cross (N := n) (D := d) (by omega)
  have hp := den_pos (Rat.divInt n d)
  constructor
  · intro h
    rw [h, Int.zero_mul] at hc
    rcases Int.mul_eq_zero.mp hc.symm with h | h
    · exact h
    · omega
  · intro h; subst h; simp
theorem gcdQ (x : Rat) : Nat.gcd x.num.natAbs x.den = 1 := x.reduced
theorem same_q2 {x : Rat} {n : Nat} : eqz Teq1 n (qD x) (qD x) = some true :=
  eqz_own2 rfl rfl (by rw [eq_s, decide_eq_true rfl]) (fun h => nomatch h)
theorem same_read {n : Nat} : eqz Teq1 n (.str "read") (.str "read") = some true := by
  unfold eqz; kernel_rfl
theorem same_xx {x : Rat} {n : Nat} : eqz Teq1 (n + 1) (.tup [qD x, qD x]) (.tup [qD x, qD x]) = some true := by
  have e : eqzs (eqz Teq1 n) [qD x, qD x] [qD x, qD x] = some true := by
    rw [eqzs_cons, eqzs_cons, eqzs_nil, same_q2]; rfl
  unfold eqz
  show (eqzs (eqz Teq1 n) [qD x, qD x] [qD x, qD x]).bind (sureB _ _) = _
  rw [e]; rfl
theorem ne_read {u : OpF} {x : Rat} {ρ : En} : eqP true (neO Teq1 (eqT Teq1 2 true u)) (.tup [.str "read", qD x]) (.tup [.str "read", qD x]) ρ = .ok (.bl false) ρ := by
  have h : eqP true (neO Teq1 (eqT Teq1 2 true u)) (.tup [.str "read", qD x]) (.tup [.str "read", qD x]) ρ = eqT Teq1 2 true u (.tup [.str "read", qD x]) (.tup [.str "read", qD x]) ρ := rfl
  rw [h, eqT_eq, eqzs_cons, eqzs_cons, eqzs_nil, same_read, same_q2]
  rfl
theorem ne_read2 {u : OpF} {x : Rat} {ρ : En} : eqP true (neO Teq1 (eqT Teq1 2 true u)) (.tup [.str "read", .tup [qD x, qD x]]) (.tup [.str "read", .tup [qD x, qD x]]) ρ = .ok (.bl false) ρ := by
  have h : eqP true (neO Teq1 (eqT Teq1 2 true u)) (.tup [.str "read", .tup [qD x, qD x]]) (.tup [.str "read", .tup [qD x, qD x]]) ρ = eqT Teq1 2 true u (.tup [.str "read", .tup [qD x, qD x]]) (.tup [.str "read", .tup [qD x, qD x]]) ρ := rfl
  rw [h, eqT_eq, eqzs_cons, eqzs_cons, eqzs_nil, same_read, same_xx]
  rfl
end G00


set_option Elab.async false
set_option linter.all false
set_option maxRecDepth 100000
set_option maxHeartbeats 4000000
namespace G00
open PySem PySem.Spec PyProof.Rows L2 DL
local macro_rules | `(tactic| simp! only [$a,*]) => `(tactic| simp -implicitDefEqProofs only [Res.bd_ok, Res.bd_er, Res.bs_ok, Res.bs_er, Out.sq_nx, Out.sq_rt, Out.sq_er, Out.sq_ro, Out.sq_bk, Out.sq_ct, Out.lp_nx, Out.lp_ct, Out.lp_bk, Out.lp_rt, Out.lp_ro, Out.lp_er, tif_t, tif_f, bd_eq, rt_eq, two_eq, kTwo_eq, consA_eq, kCons_eq, kCons2_eq, seqS_eq, nxS_eq, bkS_eq, ctS_eq, retN_eq, retS_eq, kRet_eq, retO_eq, kRo_eq, dropS_eq, kDrop_eq, setS_eq, kSet_eq, setO_eq, kSetO_eq, ifS_eq, kIfS_t, kIfS_f, par2_eq, kPar2_eq, par3_eq, kPar3_eq, asgS_eq, kAsg_eq, oNx_eq, gNm_eq, gN0_eq, gCN_eq, gTp2_eq, gTp3_eq, gTp4_eq, gTp5_eq, gTp6_eq, gTl2_eq, gTl3_eq, gTl4_eq, gTl5_eq, gTl6_eq, boolM_eq, blM_eq, kBl_eq, notM_eq, kNot_eq, andM_eq, kAnd_g, orM_eq, kOr_g, ifM_eq, kIf_g, andV_eq, kAndV_g, orV_eq, kOrV_g, notV_eq, kNotV_eq, isNV_eq, kIsN_n, kIsN_i, kIsN_b, kIsN_s, kIsN_t, kIsN_l, kIsN_o, callM_eq, rsM_ok, rsM_ow, rsM_er, callO_eq, rsO_ow, rsO_er, lentM_eq, kLent_eq, rsL_ok, rsL_er, getL_eq, kLt_own, kLt_bor, setL_eq, kSetL_own, kSetL_bor, hold_eq, kHold_eq, makeM_eq, rsMk_ok, rsMk_er, varD_eq, kCell_d, kCell_own, fldN_eq, kFld_d, kFld_bor, isiF_eq, kIsi_eq, methM_eq, kMeth_eq, kCallS_eq, addI_ii, subI_ii, mulI_ii, fdivI_ii, modI_ii, cmpI_ii, negD_i, ownN_i, absF_i, intF_i, intF2_i, lenNm_eq, tupM_0, tupM_1, tupM_2, tupM_3, tupM_4, tupM_5, tupM_6, lstM_0, lstM_1, lstM_2, lstM_3, lstM_4, lstM_5, lstM_6, ownM_0, ownM_1, ownM_2, itms_t, itms_l, itms_sc, ixM_t0, ixM_t1, ixM_l0, ixM_l1, ixM_t42, ixM_t43, ixM_l42, ixM_l43, ixM_t32, ixM_l32, ixNm_e, kVar_eq, kIxN_eq, kIx_d, kIx_o, kIx_b, forS_eq, forF_nil, forF_cons, kFor_eq, frzM_eq, kFrz_eq, lcM_eq, kLc_eq, lcE_ok, lcM2_eq, kLc2_eq, lcF_nil, lcF_cons, lk2_eq, lk3_t, lk3_f, lk4_0, lk4_1, lk4_2, lk4_3, lk4_4, lk4_5, wipe_0, wipe_1, merge_0, merge_1, keep_d, keep_n, eqP_ii, neP_ii, eqP_bb, neP_bb, ownO_eq, kOwn_eq, kOwn_n, ownN_eq, kOwnN_eq, kOwnN_n, eqO_eq, neO_eq, kOwnE_eq, kOwnE_n, kNotD_eq, whileS_eq, setF_eq, kSetF_eq, kSetF1_eq, kSetF2_eq, kSetF3_eq, outR_nx, outR_rt, outR_ro, outR_er, outB_nx, outB_rt, outB_er, raiseS_eq, raiseX_eq, kRaise_eq, chainM_eq, kCh1_eq, kCh2_eq, kCh3_g, slF_eq, kSl1_eq, kSl2_eq, kSl3_t, kSl3_l, kSl3_s, partF_eq, kPart_eq, holdL_eq, kHoldL_eq, chgM_eq, kChg_eq, kChg2_eq, appM_eq, kApp_eq, appG_0, appG_1, appG_2, appG_3, extM_eq, kExt_eq, sixS_eq, kSix1_eq, kSix2_eq, kNx_eq, sixG_0, sixG_1, sixG_2, listO_t, listO_l, tupF_t, tupF_l, rng_0, rng_1, rng_2, rng_3, rng_4, rng_5, rng_6, tryS_eq, kTry_er, kTry_rt, kTry_ro, kTry_nx, catchS_nil, catchS_cons, kCatch_t, kCatch_f, runX_n, runX_3, endX_rt, retX_eq, kRetX_eq, fldX_r, heldM_eq, kHeld_eq, kHeld2_eq, anyF_0, anyF_1, anyF_2, anyF_3, anyF_4, allF_0, allF_1, allF_2, allF_3, allF_4, strO_eq, kStrO_eq, kStr_eq, mlook_i, kStrO_n, joinM_eq, jsM_nil, jsM_cons, kJs_eq, addS_ss, addI_s, fmtD_i, strF_i, len_t0, len_l0, len_o0, lenF_t0, lenF_l0, len_t1, len_l1, len_o1, lenF_t1, lenF_l1, len_t2, len_l2, len_o2, lenF_t2, lenF_l2, len_t3, len_l3, len_o3, lenF_t3, lenF_l3, len_t4, len_l4, len_o4, lenF_t4, lenF_l4, len_t5, len_l5, len_o5, lenF_t5, lenF_l5, len_t6, len_l6, len_o6, lenF_t6, lenF_l6, tif_and, tif_or, tif_andB, tif_orB, mal_mal, eqT_eq, kEqT_f, kEqT_t, eqzs_nil, eqzs_cons, lstM_7, tupM_7, lstM_8, tupM_8, lstM_9, tupM_9, lstM_10, tupM_10, lstM_11, tupM_11, lstM_12, tupM_12, lstM_13, tupM_13, ownE_t, ownE_l, ownE_i, ownE_b, ownE_s, ownE_n, tif_q, tif_i, sg_ge, kZ_ss, lcF2_nil, lcF2_cons, l2a_eq, l2b_t, l2b_f, l2c_eq, l2d_eq, kJoin_2, ixM_t52, ixM_l52, ixM_t53, ixM_l53, ixM_t54, ixM_l54, ixM_t62, ixM_l62, ixM_t63, ixM_l63, ixM_t64, ixM_l64, ixM_t65, ixM_l65, ixM_t72, ixM_l72, ixM_t73, ixM_l73, ixM_t74, ixM_l74, ixM_t75, ixM_l75, ixM_t76, ixM_l76, ixM_t82, ixM_l82, ixM_t83, ixM_l83, ixM_t84, ixM_l84, ixM_t85, ixM_l85, ixM_t86, ixM_l86, ixM_t87, ixM_l87, kLenC_iD, kLenC_iDl, kLenC_iDo, revM_eq, kRev_t, kRev_l, enuF_l, enuF_t, iD_rev, rng3_down, List.getElem?_cons_zero, List.getElem?_cons_succ, List.set_cons_zero, List.set_cons_succ, List.cons_append, List.nil_append, List.append_nil, decide_true, decide_false, Bool.not_true, Bool.not_false, Bool.true_and, Bool.false_and, Bool.and_true, Bool.and_false, Bool.true_or, Bool.false_or, Bool.or_true, Bool.or_false, Bool.not_not, Int.reduceMul, Int.reduceAdd, Int.reduceSub, Int.reduceNeg, Nat.reduceAdd, Nat.reduceMul, Int.reduceEq, Int.reduceLT, Int.reduceLE, eq_self, beq_self_eq_true, Bool.and_assoc, Bool.or_assoc, ↓reduceIte, i_Ratio_non, i_Ratio_bl, i_Ratio_int, i_Ratio_str, i_Ratio_tup, i_Ratio_lst, i_Ratio_qD, i_int_non, i_int_bl, i_int_int, i_int_str, i_int_tup, i_int_lst, i_int_qD, i_bool_non, i_bool_bl, i_bool_int, i_bool_str, i_bool_tup, i_bool_lst, i_bool_qD, i_str_non, i_str_bl, i_str_int, i_str_str, i_str_tup, i_str_lst, i_str_qD, i_tuple_non, i_tuple_bl, i_tuple_int, i_tuple_str, i_tuple_tup, i_tuple_lst, i_tuple_qD, i_list_non, i_list_bl, i_list_int, i_list_str, i_list_tup, i_list_lst, i_list_qD, f_n_qD, f_d_qD, n_qD, e_qD, o_addI_qD, o_addS_qD, o_addT_qD, o_subI_qD, o_mulI_qD, o_ltS_qD, o_cmpI_qD, e_t_qD, t_mul1_qD, t_over1_qD, t_eq1_qD, t_eq1_qD_non, t_eq1_qD_bl, t_eq1_qD_int, t_eq1_qD_str, t_eq1_qD_tup, t_eq1_qD_lst, t_neg1_qD, t_str1_qD, t_add1_qD, t_sub1_qD, t_times1_qD, t_floor1_qD, t_less1_qD, t_size1_qD, t_is_whole1_qD, t_is_zero1_qD, t_sign1_qD, s_n_qD, s_d_qD, q_told_told_f, q_told_told_t, q_told_malformed_f, q_told_malformed_t, q_told_raised_f, q_told_raised_t, q_told_zero_f, q_told_zero_t, q_told_long_f, q_told_long_t, q_told_poly_f, q_told_poly_t, q_told_text_f, q_told_text_t, q_told_read_f, q_told_read_t, q_malformed_told_f, q_malformed_told_t, q_malformed_malformed_f, q_malformed_malformed_t, q_malformed_raised_f, q_malformed_raised_t, q_malformed_zero_f, q_malformed_zero_t, q_malformed_long_f, q_malformed_long_t, q_malformed_poly_f, q_malformed_poly_t, q_malformed_text_f, q_malformed_text_t, q_malformed_read_f, q_malformed_read_t, q_raised_told_f, q_raised_told_t, q_raised_malformed_f, q_raised_malformed_t, q_raised_raised_f, q_raised_raised_t, q_raised_zero_f, q_raised_zero_t, q_raised_long_f, q_raised_long_t, q_raised_poly_f, q_raised_poly_t, q_raised_text_f, q_raised_text_t, q_raised_read_f, q_raised_read_t, q_zero_told_f, q_zero_told_t, q_zero_malformed_f, q_zero_malformed_t, q_zero_raised_f, q_zero_raised_t, q_zero_zero_f, q_zero_zero_t, q_zero_long_f, q_zero_long_t, q_zero_poly_f, q_zero_poly_t, q_zero_text_f, q_zero_text_t, q_zero_read_f, q_zero_read_t, q_long_told_f, q_long_told_t, q_long_malformed_f, q_long_malformed_t, q_long_raised_f, q_long_raised_t, q_long_zero_f, q_long_zero_t, q_long_long_f, q_long_long_t, q_long_poly_f, q_long_poly_t, q_long_text_f, q_long_text_t, q_long_read_f, q_long_read_t, q_poly_told_f, q_poly_told_t, q_poly_malformed_f, q_poly_malformed_t, q_poly_raised_f, q_poly_raised_t, q_poly_zero_f, q_poly_zero_t, q_poly_long_f, q_poly_long_t, q_poly_poly_f, q_poly_poly_t, q_poly_text_f, q_poly_text_t, q_poly_read_f, q_poly_read_t, q_text_told_f, q_text_told_t, q_text_malformed_f, q_text_malformed_t, q_text_raised_f, q_text_raised_t, q_text_zero_f, q_text_zero_t, q_text_long_f, q_text_long_t, q_text_poly_f, q_text_poly_t, q_text_text_f, q_text_text_t, q_text_read_f, q_text_read_t, q_read_told_f, q_read_told_t, q_read_malformed_f, q_read_malformed_t, q_read_raised_f, q_read_raised_t, q_read_zero_f, q_read_zero_t, q_read_long_f, q_read_long_t, q_read_poly_f, q_read_poly_t, q_read_text_f, q_read_text_t, q_read_read_f, q_read_read_t, sub_Fault_Malformed, sub_Fault_NoText, sub_Fault_Refused, sub_Malformed_Malformed, sub_Malformed_NoText, sub_Malformed_Refused, sub_Refused_Malformed, sub_Refused_NoText, sub_Refused_Refused, sub_NoText_Malformed, sub_NoText_NoText, sub_NoText_Refused, held_choose, held_common, held_common_of, held_sign_of, held_changes, held_row_text, held_read_ratio, held_read_ratios, held_is_ratio_row, held__law_make, held__law_over, held_is_integer, held_is_count, held_is_whole_row, $a,*])
local macro_rules | `(tactic| dsimp! only [$a,*]) => `(tactic| simp -implicitDefEqProofs (disch := first | assumption | decide | (with_reducible (apply Bz_lv; (repeat (first | assumption | exact Bz_lit (by decide) (by decide) | exact Bz_lit (by omega) (by omega) | apply Bz_add | apply Bz_sub | apply Bz_mul | apply Bz_quo | apply Bz_neg | apply Bz_lsr | apply Bz_grt | apply Bz_ite)); first | decide | omega)) | exact mulOk_r (by decide) | exact mulOk_l (by decide) | exact divOk_s (by decide) (by decide) | exact Rat.le_refl | omega | (with_reducible (repeat (first | assumption | exact Lv_mono (by assumption) (by decide) | exact Lv_up (Lv0_div (by decide) (by decide)) | exact Lv_up (Lv0_div (by omega) (by omega)) | apply Lv_add | apply Lv_sub | apply Lv_mul | apply Lv_neg | apply Lv_ite | apply Lv_lsr | apply Lv_grt)); done) | (simp only [str_app_len]; omega)) only [Res.bd_ok, Res.bd_er, Res.bs_ok, Res.bs_er, Out.sq_nx, Out.sq_rt, Out.sq_er, Out.sq_ro, Out.sq_bk, Out.sq_ct, Out.lp_nx, Out.lp_ct, Out.lp_bk, Out.lp_rt, Out.lp_ro, Out.lp_er, tif_t, tif_f, bd_eq, rt_eq, two_eq, kTwo_eq, consA_eq, kCons_eq, kCons2_eq, seqS_eq, nxS_eq, bkS_eq, ctS_eq, retN_eq, retS_eq, kRet_eq, retO_eq, kRo_eq, dropS_eq, kDrop_eq, setS_eq, kSet_eq, setO_eq, kSetO_eq, ifS_eq, kIfS_t, kIfS_f, par2_eq, kPar2_eq, par3_eq, kPar3_eq, asgS_eq, kAsg_eq, oNx_eq, gNm_eq, gN0_eq, gCN_eq, gTp2_eq, gTp3_eq, gTp4_eq, gTp5_eq, gTp6_eq, gTl2_eq, gTl3_eq, gTl4_eq, gTl5_eq, gTl6_eq, boolM_eq, blM_eq, kBl_eq, notM_eq, kNot_eq, andM_eq, kAnd_g, orM_eq, kOr_g, ifM_eq, kIf_g, andV_eq, kAndV_g, orV_eq, kOrV_g, notV_eq, kNotV_eq, isNV_eq, kIsN_n, kIsN_i, kIsN_b, kIsN_s, kIsN_t, kIsN_l, kIsN_o, callM_eq, rsM_ok, rsM_ow, rsM_er, callO_eq, rsO_ow, rsO_er, lentM_eq, kLent_eq, rsL_ok, rsL_er, getL_eq, kLt_own, kLt_bor, setL_eq, kSetL_own, kSetL_bor, hold_eq, kHold_eq, makeM_eq, rsMk_ok, rsMk_er, varD_eq, kCell_d, kCell_own, fldN_eq, kFld_d, kFld_bor, isiF_eq, kIsi_eq, methM_eq, kMeth_eq, kCallS_eq, addI_ii, subI_ii, mulI_ii, fdivI_ii, modI_ii, cmpI_ii, negD_i, ownN_i, absF_i, intF_i, intF2_i, lenNm_eq, tupM_0, tupM_1, tupM_2, tupM_3, tupM_4, tupM_5, tupM_6, lstM_0, lstM_1, lstM_2, lstM_3, lstM_4, lstM_5, lstM_6, ownM_0, ownM_1, ownM_2, itms_t, itms_l, itms_sc, ixM_t0, ixM_t1, ixM_l0, ixM_l1, ixM_t42, ixM_t43, ixM_l42, ixM_l43, ixM_t32, ixM_l32, ixNm_e, kVar_eq, kIxN_eq, kIx_d, kIx_o, kIx_b, forS_eq, forF_nil, forF_cons, kFor_eq, frzM_eq, kFrz_eq, lcM_eq, kLc_eq, lcE_ok, lcM2_eq, kLc2_eq, lcF_nil, lcF_cons, lk2_eq, lk3_t, lk3_f, lk4_0, lk4_1, lk4_2, lk4_3, lk4_4, lk4_5, wipe_0, wipe_1, merge_0, merge_1, keep_d, keep_n, eqP_ii, neP_ii, eqP_bb, neP_bb, ownO_eq, kOwn_eq, kOwn_n, ownN_eq, kOwnN_eq, kOwnN_n, eqO_eq, neO_eq, kOwnE_eq, kOwnE_n, kNotD_eq, whileS_eq, setF_eq, kSetF_eq, kSetF1_eq, kSetF2_eq, kSetF3_eq, outR_nx, outR_rt, outR_ro, outR_er, outB_nx, outB_rt, outB_er, raiseS_eq, raiseX_eq, kRaise_eq, chainM_eq, kCh1_eq, kCh2_eq, kCh3_g, slF_eq, kSl1_eq, kSl2_eq, kSl3_t, kSl3_l, kSl3_s, partF_eq, kPart_eq, holdL_eq, kHoldL_eq, chgM_eq, kChg_eq, kChg2_eq, appM_eq, kApp_eq, appG_0, appG_1, appG_2, appG_3, extM_eq, kExt_eq, sixS_eq, kSix1_eq, kSix2_eq, kNx_eq, sixG_0, sixG_1, sixG_2, listO_t, listO_l, tupF_t, tupF_l, rng_0, rng_1, rng_2, rng_3, rng_4, rng_5, rng_6, tryS_eq, kTry_er, kTry_rt, kTry_ro, kTry_nx, catchS_nil, catchS_cons, kCatch_t, kCatch_f, runX_n, runX_3, endX_rt, retX_eq, kRetX_eq, fldX_r, heldM_eq, kHeld_eq, kHeld2_eq, anyF_0, anyF_1, anyF_2, anyF_3, anyF_4, allF_0, allF_1, allF_2, allF_3, allF_4, strO_eq, kStrO_eq, kStr_eq, mlook_i, kStrO_n, joinM_eq, jsM_nil, jsM_cons, kJs_eq, addS_ss, addI_s, fmtD_i, strF_i, len_t0, len_l0, len_o0, lenF_t0, lenF_l0, len_t1, len_l1, len_o1, lenF_t1, lenF_l1, len_t2, len_l2, len_o2, lenF_t2, lenF_l2, len_t3, len_l3, len_o3, lenF_t3, lenF_l3, len_t4, len_l4, len_o4, lenF_t4, lenF_l4, len_t5, len_l5, len_o5, lenF_t5, lenF_l5, len_t6, len_l6, len_o6, lenF_t6, lenF_l6, tif_and, tif_or, tif_andB, tif_orB, mal_mal, eqT_eq, kEqT_f, kEqT_t, eqzs_nil, eqzs_cons, lstM_7, tupM_7, lstM_8, tupM_8, lstM_9, tupM_9, lstM_10, tupM_10, lstM_11, tupM_11, lstM_12, tupM_12, lstM_13, tupM_13, ownE_t, ownE_l, ownE_i, ownE_b, ownE_s, ownE_n, tif_q, tif_i, sg_ge, kZ_ss, lcF2_nil, lcF2_cons, l2a_eq, l2b_t, l2b_f, l2c_eq, l2d_eq, kJoin_2, ixM_t52, ixM_l52, ixM_t53, ixM_l53, ixM_t54, ixM_l54, ixM_t62, ixM_l62, ixM_t63, ixM_l63, ixM_t64, ixM_l64, ixM_t65, ixM_l65, ixM_t72, ixM_l72, ixM_t73, ixM_l73, ixM_t74, ixM_l74, ixM_t75, ixM_l75, ixM_t76, ixM_l76, ixM_t82, ixM_l82, ixM_t83, ixM_l83, ixM_t84, ixM_l84, ixM_t85, ixM_l85, ixM_t86, ixM_l86, ixM_t87, ixM_l87, kLenC_iD, kLenC_iDl, kLenC_iDo, revM_eq, kRev_t, kRev_l, enuF_l, enuF_t, iD_rev, rng3_down, List.getElem?_cons_zero, List.getElem?_cons_succ, List.set_cons_zero, List.set_cons_succ, List.cons_append, List.nil_append, List.append_nil, decide_true, decide_false, Bool.not_true, Bool.not_false, Bool.true_and, Bool.false_and, Bool.and_true, Bool.and_false, Bool.true_or, Bool.false_or, Bool.or_true, Bool.or_false, Bool.not_not, Int.reduceMul, Int.reduceAdd, Int.reduceSub, Int.reduceNeg, Nat.reduceAdd, Nat.reduceMul, Int.reduceEq, Int.reduceLT, Int.reduceLE, eq_self, beq_self_eq_true, Bool.and_assoc, Bool.or_assoc, ↓reduceIte, i_Ratio_non, i_Ratio_bl, i_Ratio_int, i_Ratio_str, i_Ratio_tup, i_Ratio_lst, i_Ratio_qD, i_int_non, i_int_bl, i_int_int, i_int_str, i_int_tup, i_int_lst, i_int_qD, i_bool_non, i_bool_bl, i_bool_int, i_bool_str, i_bool_tup, i_bool_lst, i_bool_qD, i_str_non, i_str_bl, i_str_int, i_str_str, i_str_tup, i_str_lst, i_str_qD, i_tuple_non, i_tuple_bl, i_tuple_int, i_tuple_str, i_tuple_tup, i_tuple_lst, i_tuple_qD, i_list_non, i_list_bl, i_list_int, i_list_str, i_list_tup, i_list_lst, i_list_qD, f_n_qD, f_d_qD, n_qD, e_qD, o_addI_qD, o_addS_qD, o_addT_qD, o_subI_qD, o_mulI_qD, o_ltS_qD, o_cmpI_qD, e_t_qD, t_mul1_qD, t_over1_qD, t_eq1_qD, t_eq1_qD_non, t_eq1_qD_bl, t_eq1_qD_int, t_eq1_qD_str, t_eq1_qD_tup, t_eq1_qD_lst, t_neg1_qD, t_str1_qD, t_add1_qD, t_sub1_qD, t_times1_qD, t_floor1_qD, t_less1_qD, t_size1_qD, t_is_whole1_qD, t_is_zero1_qD, t_sign1_qD, s_n_qD, s_d_qD, q_told_told_f, q_told_told_t, q_told_malformed_f, q_told_malformed_t, q_told_raised_f, q_told_raised_t, q_told_zero_f, q_told_zero_t, q_told_long_f, q_told_long_t, q_told_poly_f, q_told_poly_t, q_told_text_f, q_told_text_t, q_told_read_f, q_told_read_t, q_malformed_told_f, q_malformed_told_t, q_malformed_malformed_f, q_malformed_malformed_t, q_malformed_raised_f, q_malformed_raised_t, q_malformed_zero_f, q_malformed_zero_t, q_malformed_long_f, q_malformed_long_t, q_malformed_poly_f, q_malformed_poly_t, q_malformed_text_f, q_malformed_text_t, q_malformed_read_f, q_malformed_read_t, q_raised_told_f, q_raised_told_t, q_raised_malformed_f, q_raised_malformed_t, q_raised_raised_f, q_raised_raised_t, q_raised_zero_f, q_raised_zero_t, q_raised_long_f, q_raised_long_t, q_raised_poly_f, q_raised_poly_t, q_raised_text_f, q_raised_text_t, q_raised_read_f, q_raised_read_t, q_zero_told_f, q_zero_told_t, q_zero_malformed_f, q_zero_malformed_t, q_zero_raised_f, q_zero_raised_t, q_zero_zero_f, q_zero_zero_t, q_zero_long_f, q_zero_long_t, q_zero_poly_f, q_zero_poly_t, q_zero_text_f, q_zero_text_t, q_zero_read_f, q_zero_read_t, q_long_told_f, q_long_told_t, q_long_malformed_f, q_long_malformed_t, q_long_raised_f, q_long_raised_t, q_long_zero_f, q_long_zero_t, q_long_long_f, q_long_long_t, q_long_poly_f, q_long_poly_t, q_long_text_f, q_long_text_t, q_long_read_f, q_long_read_t, q_poly_told_f, q_poly_told_t, q_poly_malformed_f, q_poly_malformed_t, q_poly_raised_f, q_poly_raised_t, q_poly_zero_f, q_poly_zero_t, q_poly_long_f, q_poly_long_t, q_poly_poly_f, q_poly_poly_t, q_poly_text_f, q_poly_text_t, q_poly_read_f, q_poly_read_t, q_text_told_f, q_text_told_t, q_text_malformed_f, q_text_malformed_t, q_text_raised_f, q_text_raised_t, q_text_zero_f, q_text_zero_t, q_text_long_f, q_text_long_t, q_text_poly_f, q_text_poly_t, q_text_text_f, q_text_text_t, q_text_read_f, q_text_read_t, q_read_told_f, q_read_told_t, q_read_malformed_f, q_read_malformed_t, q_read_raised_f, q_read_raised_t, q_read_zero_f, q_read_zero_t, q_read_long_f, q_read_long_t, q_read_poly_f, q_read_poly_t, q_read_text_f, q_read_text_t, q_read_read_f, q_read_read_t, sub_Fault_Malformed, sub_Fault_NoText, sub_Fault_Refused, sub_Malformed_Malformed, sub_Malformed_NoText, sub_Malformed_Refused, sub_Refused_Malformed, sub_Refused_NoText, sub_Refused_Refused, sub_NoText_Malformed, sub_NoText_NoText, sub_NoText_Refused, held_choose, held_common, held_common_of, held_sign_of, held_changes, held_row_text, held_read_ratio, held_read_ratios, held_is_ratio_row, held__law_make, held__law_over, held_is_integer, held_is_count, held_is_whole_row, $a,*])


theorem gcd3 (a b c : Int) : Int.gcd (Int.gcd (Int.gcd 0 a : Nat) b : Nat) c = Nat.gcd (Nat.gcd a.natAbs b.natAbs) c.natAbs := by
  unfold Int.gcd; simp
theorem rows_s {ns : List Int} {s : Int × Int} {k : Nat} (hk : k ≤ 7) (x2 x3 x4 x5 x6 x7 x8 x9 x10 x11 x12 x13 x14 x15 x16 x17 : Option Cl) : ∃ (p : List Int) (s' : Int × Int), lcF [18] (gNm 18) (rt true) (two (hold 1 (bd (consA (rt (.int 5)) (rt [])) (lentM m_law_take [] 1))) (rt (.int 2)) (subI (ownO Tsub1 noO))) (rgL 0 k) [] (some (.d (.scr (ns.map D.int))) :: some (.own (stD s)) :: x2 :: x3 :: x4 :: x5 :: x6 :: x7 :: x8 :: x9 :: x10 :: x11 :: x12 :: x13 :: x14 :: x15 :: x16 :: x17 :: none :: []) = .ok (iD p) (some (.d (.scr (ns.map D.int))) :: some (.own (stD s')) :: x2 :: x3 :: x4 :: x5 :: x6 :: x7 :: x8 :: x9 :: x10 :: x11 :: x12 :: x13 :: x14 :: x15 :: x16 :: x17 :: none :: []) ∧ p.length ≤ 7 ∧ ∀ c ∈ p, c.natAbs ≤ 2 := by
  have k := lcF_ind (vs := [18]) (g := gNm 18) (ft := rt true) (fe := two (hold 1 (bd (consA (rt (.int 5)) (rt [])) (lentM m_law_take [] 1))) (rt (.int 2)) (subI (ownO Tsub1 noO)))
    (fun todo acc ρ => ∃ (xs : List Int) (s : Int × Int), acc = iD xs ∧ xs.length + todo.length ≤ 7 ∧ (∀ c ∈ xs, c.natAbs ≤ 2) ∧ ρ = (some (.d (.scr (ns.map D.int))) :: some (.own (stD s)) :: x2 :: x3 :: x4 :: x5 :: x6 :: x7 :: x8 :: x9 :: x10 :: x11 :: x12 :: x13 :: x14 :: x15 :: x16 :: x17 :: none :: [])) (by
      rintro d r acc ρ ⟨xs, s, rfl, hl, hc, rfl⟩
      have b1 := tkV_b s (m := 5) (by decide)
      simp only [List.length_cons] at hl
      refine ⟨by rw [iD_len]; omega, _, _, .int (tkV s 5 - 2), _, rfl, rfl, (by dsimp! only [is_integer_i_s, common_s, check_ratio_s, less_s, add_s, sub_s, mul_s, neg_s, size_s, eq_s, sign_s, make_s, over_s, over_0_s, is_zero_s, is_whole_s, is_short_s, Ratio_str_s, check_ratio_n_s, check_ratio_i_s, is_integer_n_s, is_integer_b_s, is_count_s, is_count_n_s, is_count_b_s, law_take_s, law_state_s, same_bb_s, same_ii_s, same_nn_s, same_qq_s, read_ratio_s, law_common_s, common_of_s, sign_of_s, changes_s, digits_of_s, row_text_s, read_ratios_s, law_over_s, times_s, floor_s, eq_int_s, is_ratio_row_s] <;> rfl), xs ++ [tkV s 5 - 2], tkS s 5, ?_, ?_, ?_, ?_⟩
      · unfold iD; rw [List.map_append]; rfl
      · simp; omega
      · intro c hc'
        rcases List.mem_append.mp hc' with h | h
        · exact hc c h
        · rw [List.mem_singleton.mp h]; omega
      · rfl) (rgL 0 k) [] (some (.d (.scr (ns.map D.int))) :: some (.own (stD s)) :: x2 :: x3 :: x4 :: x5 :: x6 :: x7 :: x8 :: x9 :: x10 :: x11 :: x12 :: x13 :: x14 :: x15 :: x16 :: x17 :: none :: []) ⟨[], s, rfl, by rw [rgL_len]; simp; omega, by simp, rfl⟩
  obtain ⟨l, ρ', k1, xs, s', rfl, k2, k3, rfl⟩ := k
  exact ⟨xs, s', k1, by simpa using k2, k3⟩
theorem same_str_s {a : Str} (h : PyData.strOk a = true) : m_law_same [.str a, .str a] = .ok (.bl true) := by
  have e : ∀ (u : OpF) ρ, eqP false u (.str a) (.str a) ρ = .ok (.bl true) ρ := fun u ρ => by
    rw [eqP_ss (by rw [shaped_str]; exact h) (by rw [shaped_str]; exact h), beq_self_eq_true]
  show outR (F_law_same (r_law_same 11) [some (.d (.str a)), some (.d (.str a)), none]) = _
  dsimp! only [F_law_same, e, is_integer_i_s, common_s, check_ratio_s, less_s, add_s, sub_s, mul_s, neg_s, size_s, eq_s, sign_s, make_s, over_s, over_0_s, is_zero_s, is_whole_s, is_short_s, Ratio_str_s, check_ratio_n_s, check_ratio_i_s, is_integer_n_s, is_integer_b_s, is_count_s, is_count_n_s, is_count_b_s, law_take_s, law_state_s, same_bb_s, same_ii_s, same_nn_s, same_qq_s, read_ratio_s, law_common_s, common_of_s, sign_of_s, changes_s, digits_of_s, row_text_s, read_ratios_s, law_over_s, times_s, floor_s, eq_int_s, is_ratio_row_s, rows_s]
theorem live_s {p : List Int} (hl : p.length ≤ 7) (x0 x1 x2 x3 x4 x5 x6 x7 x8 x9 x10 x11 x12 x13 x15 x16 x17 x18 : Option Cl) : lcF [14] (gNm 14) (bd (two (varD 14) (rt (.int 0)) (eqP true (neO Teq1 noO))) boolM) (two (varD 14) (rt (.int 0)) gtI) (iD p) [] (x0 :: x1 :: x2 :: x3 :: x4 :: x5 :: x6 :: x7 :: x8 :: x9 :: x10 :: x11 :: x12 :: x13 :: none :: x15 :: x16 :: x17 :: x18 :: []) = .ok (((p.filter fun x => !decide (x = 0)).map fun x => decide (0 < x)).map D.bl) (x0 :: x1 :: x2 :: x3 :: x4 :: x5 :: x6 :: x7 :: x8 :: x9 :: x10 :: x11 :: x12 :: x13 :: none :: x15 :: x16 :: x17 :: x18 :: []) := by
  rw [List.map_map]
  refine lcF_enc D.int (D.bl ∘ fun x => decide (0 < x)) (fun x => !decide (x = 0)) p (by omega) (fun x _ => ?_)
  refine ⟨_, (x0 :: x1 :: x2 :: x3 :: x4 :: x5 :: x6 :: x7 :: x8 :: x9 :: x10 :: x11 :: x12 :: x13 :: some (.d (.int x)) :: x15 :: x16 :: x17 :: x18 :: []), rfl, ?_, fun _ => rfl, fun _ => ⟨(x0 :: x1 :: x2 :: x3 :: x4 :: x5 :: x6 :: x7 :: x8 :: x9 :: x10 :: x11 :: x12 :: x13 :: some (.d (.int x)) :: x15 :: x16 :: x17 :: x18 :: []), ?_, rfl⟩⟩
  · dsimp! only [is_integer_i_s, common_s, check_ratio_s, less_s, add_s, sub_s, mul_s, neg_s, size_s, eq_s, sign_s, make_s, over_s, over_0_s, is_zero_s, is_whole_s, is_short_s, Ratio_str_s, check_ratio_n_s, check_ratio_i_s, is_integer_n_s, is_integer_b_s, is_count_s, is_count_n_s, is_count_b_s, law_take_s, law_state_s, same_bb_s, same_ii_s, same_nn_s, same_qq_s, read_ratio_s, law_common_s, common_of_s, sign_of_s, changes_s, digits_of_s, row_text_s, read_ratios_s, law_over_s, times_s, floor_s, eq_int_s, is_ratio_row_s, rows_s, same_str_s]
  · dsimp! only [is_integer_i_s, common_s, check_ratio_s, less_s, add_s, sub_s, mul_s, neg_s, size_s, eq_s, sign_s, make_s, over_s, over_0_s, is_zero_s, is_whole_s, is_short_s, Ratio_str_s, check_ratio_n_s, check_ratio_i_s, is_integer_n_s, is_integer_b_s, is_count_s, is_count_n_s, is_count_b_s, law_take_s, law_state_s, same_bb_s, same_ii_s, same_nn_s, same_qq_s, read_ratio_s, law_common_s, common_of_s, sign_of_s, changes_s, digits_of_s, row_text_s, read_ratios_s, law_over_s, times_s, floor_s, eq_int_s, is_ratio_row_s, rows_s, same_str_s]; rfl
theorem live2_s {w : List Bool} (hl : w.length ≤ 7) (x0 x1 x2 x3 x4 x5 x6 x7 x8 x10 x11 x12 x13 x14 x15 x16 x17 : Option Cl) : lcF [18] (gNm 18) (bd (two (ixNm 9 (varD 18)) (ixNm 9 (two (varD 18) (rt (.int 1)) (addI (addS (addT (ownO Tadd1 noO)))))) (eqP true (neO Teq1 (eqT Teq1 2 true noO)))) boolM) (varD 18) (rgL 0 (w.length - 1)) [] (x0 :: x1 :: x2 :: x3 :: x4 :: x5 :: x6 :: x7 :: x8 :: some (.d (.lst (w.map D.bl))) :: x10 :: x11 :: x12 :: x13 :: x14 :: x15 :: x16 :: x17 :: none :: [])
    = .ok (((List.range (w.length - 1)).filter fun k => !decide (w[k]? = w[k + 1]?)).map fun k => D.int ((k : Nat) : Int)) (x0 :: x1 :: x2 :: x3 :: x4 :: x5 :: x6 :: x7 :: x8 :: some (.d (.lst (w.map D.bl))) :: x10 :: x11 :: x12 :: x13 :: x14 :: x15 :: x16 :: x17 :: none :: []) := by
  rw [rgL_nat]
  refine lcF_enc (fun k : Nat => D.int ((k : Nat) : Int)) (fun k => D.int ((k : Nat) : Int)) (fun k => !decide (w[k]? = w[k + 1]?)) (List.range (w.length - 1)) (by rw [List.length_range]; omega) (fun k hk => ?_)
  have hk := List.mem_range.mp hk
  refine ⟨_, (x0 :: x1 :: x2 :: x3 :: x4 :: x5 :: x6 :: x7 :: x8 :: some (.d (.lst (w.map D.bl))) :: x10 :: x11 :: x12 :: x13 :: x14 :: x15 :: x16 :: x17 :: some (.d (.int ((k : Nat) : Int))) :: []), rfl, ?_, fun _ => rfl, fun _ => ⟨(x0 :: x1 :: x2 :: x3 :: x4 :: x5 :: x6 :: x7 :: x8 :: some (.d (.lst (w.map D.bl))) :: x10 :: x11 :: x12 :: x13 :: x14 :: x15 :: x16 :: x17 :: some (.d (.int ((k : Nat) : Int))) :: []), ?_, rfl⟩⟩
  · have g1 : (w.map D.bl)[k]? = some (.bl (w[k]'(by omega))) := by rw [List.getElem?_map, List.getElem?_eq_getElem (by omega)]; rfl
    have g2 : (w.map D.bl)[k + 1]? = some (.bl (w[k + 1]'(by omega))) := by rw [List.getElem?_map, List.getElem?_eq_getElem (by omega)]; rfl
    have i1 := fun ρ => ixM_nat_l (ρ := ρ) g1
    have i2 := fun ρ => ixM_nat_l (ρ := ρ) g2
    have c1 : ((k + 1 : Nat) : Int) = (k : Int) + 1 := rfl
    rw [c1] at i2
    have h3 : (!decide (w[k]? = w[k + 1]?)) = !(w[k]'(by omega) == w[k + 1]'(by omega)) := by
      rw [List.getElem?_eq_getElem (by omega), List.getElem?_eq_getElem (by omega)]
      congr 1
      rw [Bool.eq_iff_iff]; simp
    rw [h3]
    dsimp! only [i1, i2, neP_bb, is_integer_i_s, common_s, check_ratio_s, less_s, add_s, sub_s, mul_s, neg_s, size_s, eq_s, sign_s, make_s, over_s, over_0_s, is_zero_s, is_whole_s, is_short_s, Ratio_str_s, check_ratio_n_s, check_ratio_i_s, is_integer_n_s, is_integer_b_s, is_count_s, is_count_n_s, is_count_b_s, law_take_s, law_state_s, same_bb_s, same_ii_s, same_nn_s, same_qq_s, read_ratio_s, law_common_s, common_of_s, sign_of_s, changes_s, digits_of_s, row_text_s, read_ratios_s, law_over_s, times_s, floor_s, eq_int_s, is_ratio_row_s, rows_s, same_str_s, live_s]
  · dsimp! only [is_integer_i_s, common_s, check_ratio_s, less_s, add_s, sub_s, mul_s, neg_s, size_s, eq_s, sign_s, make_s, over_s, over_0_s, is_zero_s, is_whole_s, is_short_s, Ratio_str_s, check_ratio_n_s, check_ratio_i_s, is_integer_n_s, is_integer_b_s, is_count_s, is_count_n_s, is_count_b_s, law_take_s, law_state_s, same_bb_s, same_ii_s, same_nn_s, same_qq_s, read_ratio_s, law_common_s, common_of_s, sign_of_s, changes_s, digits_of_s, row_text_s, read_ratios_s, law_over_s, times_s, floor_s, eq_int_s, is_ratio_row_s, rows_s, same_str_s, live_s]
theorem changes_law {p : List Int} {w : List Bool} (hl : p.length ≤ 7) (hw : (p.filter fun x => !decide (x = 0)).map (fun x => decide (0 < x)) = w) : m_law_tells [.glo "changes", .tup [.lst (iD p)], .int (((List.range (w.length - 1)).filter fun k => !decide (w[k]? = w[k + 1]?)).length : Nat)] = .ok (.bl true) := by
  have := tells_of (toldO1 (g := "changes") rfl (changes_s (p := p) (by omega))) (same_ii_s (b := (((List.range (w.length - 1)).filter fun k => !decide (w[k]? = w[k + 1]?)).length : Nat)))
  rw [decide_eq_true] at this
  · exact this
  · rw [difs_range]
    have e : (p.filter fun x => !decide (x = 0)).map sgn = w.map fun b => if b then (1 : Int) else -1 := by
      rw [← hw, List.map_map]
      apply List.map_congr_left
      intro x hx
      have hx0 : x ≠ 0 := by simpa using (List.mem_filter.mp hx).2
      unfold sgn
      by_cases h : 0 < x
      · simp [h]
      · have h2 : x < 0 := by omega
        simp [h, h2]
    rw [e, difs_map _ (by intro a b; cases a <;> cases b <;> simp)]
theorem texts_s {p : List Int} (hl : p.length ≤ 7) (hp : ∀ x ∈ p, x.natAbs < 10 ^ 30) (x0 x1 x2 x3 x4 x5 x6 x7 x8 x9 x10 x11 x12 x13 x15 x16 x17 x18 : Option Cl) : lcF [14] (gNm 14) (rt true) (bd (consA (varD 14) (rt [])) (strO Tstr1 (strF noF))) (iD p) [] (x0 :: x1 :: x2 :: x3 :: x4 :: x5 :: x6 :: x7 :: x8 :: x9 :: x10 :: x11 :: x12 :: x13 :: none :: x15 :: x16 :: x17 :: x18 :: []) = .ok ((p.map fun i => Str.ofString (toString i)).map D.str) (x0 :: x1 :: x2 :: x3 :: x4 :: x5 :: x6 :: x7 :: x8 :: x9 :: x10 :: x11 :: x12 :: x13 :: none :: x15 :: x16 :: x17 :: x18 :: []) := by
  rw [List.map_map]
  refine lcF_encA D.int (D.str ∘ fun i => Str.ofString (toString i)) p (by omega) (fun i hi => ?_)
  refine ⟨_, (x0 :: x1 :: x2 :: x3 :: x4 :: x5 :: x6 :: x7 :: x8 :: x9 :: x10 :: x11 :: x12 :: x13 :: some (.d (.int i)) :: x15 :: x16 :: x17 :: x18 :: []), rfl, rfl, (x0 :: x1 :: x2 :: x3 :: x4 :: x5 :: x6 :: x7 :: x8 :: x9 :: x10 :: x11 :: x12 :: x13 :: some (.d (.int i)) :: x15 :: x16 :: x17 :: x18 :: []), ?_, rfl⟩
  have := itx_log (hp i hi)
  dsimp! only [is_integer_i_s, common_s, check_ratio_s, less_s, add_s, sub_s, mul_s, neg_s, size_s, eq_s, sign_s, make_s, over_s, over_0_s, is_zero_s, is_whole_s, is_short_s, Ratio_str_s, check_ratio_n_s, check_ratio_i_s, is_integer_n_s, is_integer_b_s, is_count_s, is_count_n_s, is_count_b_s, law_take_s, law_state_s, same_bb_s, same_ii_s, same_nn_s, same_qq_s, read_ratio_s, law_common_s, common_of_s, sign_of_s, changes_s, digits_of_s, row_text_s, read_ratios_s, law_over_s, times_s, floor_s, eq_int_s, is_ratio_row_s, rows_s, same_str_s, live_s, live2_s]; rfl
theorem row_text_law {p : List Int} (hl : p.length ≤ 7) (hp : ∀ x ∈ p, x.natAbs < 10 ^ 30) : m_law_tells [.glo "row_text", .tup [.tup (iD p)], .str (rtxt p)] = .ok (.bl true) :=
  tells_of (toldO1 (g := "row_text") rfl (row_text_s (p := p) (by omega) hp)) (same_str_s (rtxt_ok p))
theorem law_s {ns : List Int} : m_law [.scr (ns.map D.int)] = .ok (.bl true) := by
  have e0 : ((0 : Nat) : Int) = 0 := rfl
  obtain ⟨s0, hs0⟩ := law_state_s (ns := ns)
  have h0 : m_law [.scr (ns.map D.int)] = outR (F_law (some (.d (.scr (ns.map D.int))) :: none :: none :: none :: none :: none :: none :: none :: none :: none :: none :: none :: none :: none :: none :: none :: none :: none :: none :: [])) := rfl
  rw [h0]
  unfold F_law
  apply out_rt
  apply rt_seq
  · dsimp! only [hs0, is_integer_i_s, common_s, check_ratio_s, less_s, add_s, sub_s, mul_s, neg_s, size_s, eq_s, sign_s, make_s, over_s, over_0_s, is_zero_s, is_whole_s, is_short_s, Ratio_str_s, check_ratio_n_s, check_ratio_i_s, is_integer_n_s, is_integer_b_s, is_count_s, is_count_n_s, is_count_b_s, law_take_s, law_state_s, same_bb_s, same_ii_s, same_nn_s, same_qq_s, read_ratio_s, law_common_s, common_of_s, sign_of_s, changes_s, digits_of_s, row_text_s, read_ratios_s, law_over_s, times_s, floor_s, eq_int_s, is_ratio_row_s, rows_s, same_str_s, live_s, live2_s, texts_s] <;> rfl
  refine rt_seqJ (fun ρ => ∃ (s : Int × Int) (x2 x3 x4 x5 x6 x7 x8 x9 x10 x11 x12 x13 x14 x15 x16 x17 x18 : Option Cl), ρ = (some (.d (.scr (ns.map D.int))) :: some (.own (stD s)) :: x2 :: x3 :: x4 :: x5 :: x6 :: x7 :: x8 :: x9 :: x10 :: x11 :: x12 :: x13 :: x14 :: x15 :: x16 :: x17 :: x18 :: [])) ?_ ?_
  · apply for_ex (fun ρ => ∃ (s : Int × Int) (x2 x3 x4 x5 x6 x7 x8 x9 x10 x11 x12 x13 x14 x15 x16 x17 x18 : Option Cl), ρ = (some (.d (.scr (ns.map D.int))) :: some (.own (stD s)) :: x2 :: x3 :: x4 :: x5 :: x6 :: x7 :: x8 :: x9 :: x10 :: x11 :: x12 :: x13 :: x14 :: x15 :: x16 :: x17 :: x18 :: []))
    · dsimp! only [is_integer_i_s, common_s, check_ratio_s, less_s, add_s, sub_s, mul_s, neg_s, size_s, eq_s, sign_s, make_s, over_s, over_0_s, is_zero_s, is_whole_s, is_short_s, Ratio_str_s, check_ratio_n_s, check_ratio_i_s, is_integer_n_s, is_integer_b_s, is_count_s, is_count_n_s, is_count_b_s, law_take_s, law_state_s, same_bb_s, same_ii_s, same_nn_s, same_qq_s, read_ratio_s, law_common_s, common_of_s, sign_of_s, changes_s, digits_of_s, row_text_s, read_ratios_s, law_over_s, times_s, floor_s, eq_int_s, is_ratio_row_s, rows_s, same_str_s, live_s, live2_s, texts_s] <;> rfl
    · exact ⟨s0, _, _, _, _, _, _, _, _, _, _, _, _, _, _, _, _, _, rfl⟩
    · rintro t - ρ ⟨s, x2, x3, x4, x5, x6, x7, x8, x9, x10, x11, x12, x13, x14, x15, x16, x17, x18, rfl⟩
      apply hs_of rfl
      have t1 := tkV_b s (m := 400) (by decide)
      have t2 := tkV_b (tkS s 400) (m := 400) (by decide)
      have t3 := tkV_b (tkS (tkS s 400) 400) (m := 400) (by decide)
      obtain ⟨a, ha⟩ : ∃ a, tkV s 400 - 200 = a := ⟨_, rfl⟩
      obtain ⟨b, hb⟩ : ∃ b, tkV (tkS s 400) 400 - 200 = b := ⟨_, rfl⟩
      obtain ⟨c, hc⟩ : ∃ c, tkV (tkS (tkS s 400) 400) 400 - 200 = c := ⟨_, rfl⟩
      apply ex_seq
      · dsimp! only [ha, hb, hc, is_integer_i_s, common_s, check_ratio_s, less_s, add_s, sub_s, mul_s, neg_s, size_s, eq_s, sign_s, make_s, over_s, over_0_s, is_zero_s, is_whole_s, is_short_s, Ratio_str_s, check_ratio_n_s, check_ratio_i_s, is_integer_n_s, is_integer_b_s, is_count_s, is_count_n_s, is_count_b_s, law_take_s, law_state_s, same_bb_s, same_ii_s, same_nn_s, same_qq_s, read_ratio_s, law_common_s, common_of_s, sign_of_s, changes_s, digits_of_s, row_text_s, read_ratios_s, law_over_s, times_s, floor_s, eq_int_s, is_ratio_row_s, rows_s, same_str_s, live_s, live2_s, texts_s] <;> rfl
      generalize tkS (tkS (tkS s 400) 400) 400 = s
      have u1 : m_law_tells [.glo "common", .tup [.int a, .int b], .int (Nat.gcd a.natAbs b.natAbs : Nat)] = .ok (.bl true) := by
        have := tells_of (toldO2 (g := "common") rfl (common_s (a := a) (b := b))) (same_ii_s (b := (Nat.gcd a.natAbs b.natAbs : Nat)))
        have e : ((Int.gcd a b : Nat) : Int) = (Nat.gcd a.natAbs b.natAbs : Nat) := rfl
        rwa [decide_eq_true e] at this
      have u2 : m_law_tells [.glo "common_of", .tup [.tup [.int a, .int b, .int c]], .int (Nat.gcd (Nat.gcd a.natAbs b.natAbs) c.natAbs : Nat)] = .ok (.bl true) := by
        have := tells_of (toldO1 (g := "common_of") rfl (common_of_s (a := a) (b := b) (c := c))) (same_ii_s (b := (Nat.gcd (Nat.gcd a.natAbs b.natAbs) c.natAbs : Nat)))
        rwa [decide_eq_true (by rw [gcd3])] at this
      have u3 : m_law_tells [.glo "sign_of", .tup [.int a], .int (if 0 < a then 1 else if a < 0 then -1 else 0)] = .ok (.bl true) := by
        have := tells_of (toldO1 (g := "sign_of") rfl (sign_of_s (x := a))) (same_ii_s (b := (if 0 < a then 1 else if a < 0 then -1 else 0)))
        rwa [decide_eq_true rfl] at this
      refine ex_seqJ (fun ρ => ∃ (g : Nat) (x2 x7 x8 x9 x10 x11 x12 x13 x14 x15 x16 x17 x18 : Option Cl), g = Nat.gcd a.natAbs b.natAbs ∧ ρ = (some (.d (.scr (ns.map D.int))) :: some (.own (stD s)) :: x2 :: some (.d (.int a)) :: some (.d (.int b)) :: some (.d (.int c)) :: some (.d (.int (g : Nat))) :: x7 :: x8 :: x9 :: x10 :: x11 :: x12 :: x13 :: x14 :: x15 :: x16 :: x17 :: x18 :: [])) ?_ ?_
      · by_cases za : a = 0
        · subst za
          apply ex_one
          · dsimp! only [Int.natAbs_zero, Nat.gcd_zero_left, e0, Int.zero_add, is_integer_i_s, common_s, check_ratio_s, less_s, add_s, sub_s, mul_s, neg_s, size_s, eq_s, sign_s, make_s, over_s, over_0_s, is_zero_s, is_whole_s, is_short_s, Ratio_str_s, check_ratio_n_s, check_ratio_i_s, is_integer_n_s, is_integer_b_s, is_count_s, is_count_n_s, is_count_b_s, law_take_s, law_state_s, same_bb_s, same_ii_s, same_nn_s, same_qq_s, read_ratio_s, law_common_s, common_of_s, sign_of_s, changes_s, digits_of_s, row_text_s, read_ratios_s, law_over_s, times_s, floor_s, eq_int_s, is_ratio_row_s, rows_s, same_str_s, live_s, live2_s, texts_s] <;> rfl
          · exact ⟨b.natAbs, _, _, _, _, _, _, _, _, _, _, _, _, _, by simp, rfl⟩
        · by_cases zb : b = 0
          · subst zb
            apply ex_one
            · dsimp! only [decide_eq_false za, Int.natAbs_zero, Nat.gcd_zero_right, e0, Int.add_zero, is_integer_i_s, common_s, check_ratio_s, less_s, add_s, sub_s, mul_s, neg_s, size_s, eq_s, sign_s, make_s, over_s, over_0_s, is_zero_s, is_whole_s, is_short_s, Ratio_str_s, check_ratio_n_s, check_ratio_i_s, is_integer_n_s, is_integer_b_s, is_count_s, is_count_n_s, is_count_b_s, law_take_s, law_state_s, same_bb_s, same_ii_s, same_nn_s, same_qq_s, read_ratio_s, law_common_s, common_of_s, sign_of_s, changes_s, digits_of_s, row_text_s, read_ratios_s, law_over_s, times_s, floor_s, eq_int_s, is_ratio_row_s, rows_s, same_str_s, live_s, live2_s, texts_s] <;> rfl
            · exact ⟨a.natAbs, _, _, _, _, _, _, _, _, _, _, _, _, _, by simp, rfl⟩
          · apply ex_one
            · dsimp! only [decide_eq_false za, decide_eq_false zb, law_common_s, is_integer_i_s, common_s, check_ratio_s, less_s, add_s, sub_s, mul_s, neg_s, size_s, eq_s, sign_s, make_s, over_s, over_0_s, is_zero_s, is_whole_s, is_short_s, Ratio_str_s, check_ratio_n_s, check_ratio_i_s, is_integer_n_s, is_integer_b_s, is_count_s, is_count_n_s, is_count_b_s, law_take_s, law_state_s, same_bb_s, same_ii_s, same_nn_s, same_qq_s, read_ratio_s, law_common_s, common_of_s, sign_of_s, changes_s, digits_of_s, row_text_s, read_ratios_s, law_over_s, times_s, floor_s, eq_int_s, is_ratio_row_s, rows_s, same_str_s, live_s, live2_s, texts_s] <;> rfl
            · exact ⟨_, _, _, _, _, _, _, _, _, _, _, _, _, _, rfl, rfl⟩
      rintro ρ ⟨g, x2, x7, x8, x9, x10, x11, x12, x13, x14, x15, x16, x17, x18, hg, rfl⟩
      rw [← hg] at u1 u2
      refine ex_seqJ (fun ρ => ∃ (x2 x7 x8 x9 x10 x11 x12 x13 x14 x15 x16 x17 x18 : Option Cl), ρ = (some (.d (.scr (ns.map D.int))) :: some (.own (stD s)) :: x2 :: some (.d (.int a)) :: some (.d (.int b)) :: some (.d (.int c)) :: some (.d (.int (g : Nat))) :: x7 :: x8 :: x9 :: x10 :: x11 :: x12 :: x13 :: x14 :: x15 :: x16 :: x17 :: x18 :: [])) ?_ ?_
      · by_cases za : (g : Int) = 0
        · have : g = 0 := by omega
          subst this
          rw [Nat.gcd_zero_left] at u2
          rw [e0] at u1
          apply ex_one
          · dsimp! only [e0, u1, u2, u3, Int.zero_add, is_integer_i_s, common_s, check_ratio_s, less_s, add_s, sub_s, mul_s, neg_s, size_s, eq_s, sign_s, make_s, over_s, over_0_s, is_zero_s, is_whole_s, is_short_s, Ratio_str_s, check_ratio_n_s, check_ratio_i_s, is_integer_n_s, is_integer_b_s, is_count_s, is_count_n_s, is_count_b_s, law_take_s, law_state_s, same_bb_s, same_ii_s, same_nn_s, same_qq_s, read_ratio_s, law_common_s, common_of_s, sign_of_s, changes_s, digits_of_s, row_text_s, read_ratios_s, law_over_s, times_s, floor_s, eq_int_s, is_ratio_row_s, rows_s, same_str_s, live_s, live2_s, texts_s] <;> rfl
          · exact ⟨_, _, _, _, _, _, _, _, _, _, _, _, _, rfl⟩
        · by_cases zb : c = 0
          · subst zb
            rw [Int.natAbs_zero, Nat.gcd_zero_right] at u2
            apply ex_one
            · dsimp! only [decide_eq_false za, u1, u2, u3, Int.natAbs_zero, e0, Int.add_zero, is_integer_i_s, common_s, check_ratio_s, less_s, add_s, sub_s, mul_s, neg_s, size_s, eq_s, sign_s, make_s, over_s, over_0_s, is_zero_s, is_whole_s, is_short_s, Ratio_str_s, check_ratio_n_s, check_ratio_i_s, is_integer_n_s, is_integer_b_s, is_count_s, is_count_n_s, is_count_b_s, law_take_s, law_state_s, same_bb_s, same_ii_s, same_nn_s, same_qq_s, read_ratio_s, law_common_s, common_of_s, sign_of_s, changes_s, digits_of_s, row_text_s, read_ratios_s, law_over_s, times_s, floor_s, eq_int_s, is_ratio_row_s, rows_s, same_str_s, live_s, live2_s, texts_s] <;> rfl
            · exact ⟨_, _, _, _, _, _, _, _, _, _, _, _, _, rfl⟩
          · apply ex_one
            · dsimp! only [decide_eq_false za, decide_eq_false zb, law_common_s, u1, u2, u3, is_integer_i_s, common_s, check_ratio_s, less_s, add_s, sub_s, mul_s, neg_s, size_s, eq_s, sign_s, make_s, over_s, over_0_s, is_zero_s, is_whole_s, is_short_s, Ratio_str_s, check_ratio_n_s, check_ratio_i_s, is_integer_n_s, is_integer_b_s, is_count_s, is_count_n_s, is_count_b_s, law_take_s, law_state_s, same_bb_s, same_ii_s, same_nn_s, same_qq_s, read_ratio_s, law_common_s, common_of_s, sign_of_s, changes_s, digits_of_s, row_text_s, read_ratios_s, law_over_s, times_s, floor_s, eq_int_s, is_ratio_row_s, rows_s, same_str_s, live_s, live2_s, texts_s] <;> rfl
            · exact ⟨_, _, _, _, _, _, _, _, _, _, _, _, _, rfl⟩
      rintro ρ ⟨x2, x7, x8, x9, x10, x11, x12, x13, x14, x15, x16, x17, x18, rfl⟩
      have t4 := tkV_b s (m := 9) (by decide)
      obtain ⟨n, hn⟩ : ∃ n, tkV s 9 = n := ⟨_, rfl⟩
      rw [hn] at t4
      apply ex_seq
      · dsimp! only [hn, is_integer_i_s, common_s, check_ratio_s, less_s, add_s, sub_s, mul_s, neg_s, size_s, eq_s, sign_s, make_s, over_s, over_0_s, is_zero_s, is_whole_s, is_short_s, Ratio_str_s, check_ratio_n_s, check_ratio_i_s, is_integer_n_s, is_integer_b_s, is_count_s, is_count_n_s, is_count_b_s, law_take_s, law_state_s, same_bb_s, same_ii_s, same_nn_s, same_qq_s, read_ratio_s, law_common_s, common_of_s, sign_of_s, changes_s, digits_of_s, row_text_s, read_ratios_s, law_over_s, times_s, floor_s, eq_int_s, is_ratio_row_s, rows_s, same_str_s, live_s, live2_s, texts_s] <;> rfl
      generalize tkS s 9 = s
      obtain ⟨l, c1, c2⟩ := choose_law t4.1 t4.2
      apply ex_seq
      · dsimp! only [c1, c2, lenF_l, is_integer_i_s, common_s, check_ratio_s, less_s, add_s, sub_s, mul_s, neg_s, size_s, eq_s, sign_s, make_s, over_s, over_0_s, is_zero_s, is_whole_s, is_short_s, Ratio_str_s, check_ratio_n_s, check_ratio_i_s, is_integer_n_s, is_integer_b_s, is_count_s, is_count_n_s, is_count_b_s, law_take_s, law_state_s, same_bb_s, same_ii_s, same_nn_s, same_qq_s, read_ratio_s, law_common_s, common_of_s, sign_of_s, changes_s, digits_of_s, row_text_s, read_ratios_s, law_over_s, times_s, floor_s, eq_int_s, is_ratio_row_s, rows_s, same_str_s, live_s, live2_s, texts_s] <;> rfl
      have t5 := tkV_b s (m := 8) (by decide)
      obtain ⟨k, hk⟩ : ∃ k : Nat, tkV s 8 = (k : Int) := ⟨(tkV s 8).toNat, by omega⟩
      have hk7 : k ≤ 7 := by omega
      have rk := fun ρ => rng_nat (k := k) (ρ := ρ) (by omega)
      obtain ⟨s2, hs2⟩ : ∃ s2, tkS s 8 = s2 := ⟨_, rfl⟩
      obtain ⟨p, s', r1, pl, pb⟩ := rows_s (ns := ns) (s := s2) (k := k) hk7 x2 (some (.d (.int a))) (some (.d (.int b))) (some (.d (.int c))) (some (.d (.int (g : Nat)))) (some (.d (.int n))) x8 x9 x10 x11 x12 x13 x14 x15 x16 x17
      apply ex_seq
      · dsimp! only [hk, rk, hs2, r1, is_integer_i_s, common_s, check_ratio_s, less_s, add_s, sub_s, mul_s, neg_s, size_s, eq_s, sign_s, make_s, over_s, over_0_s, is_zero_s, is_whole_s, is_short_s, Ratio_str_s, check_ratio_n_s, check_ratio_i_s, is_integer_n_s, is_integer_b_s, is_count_s, is_count_n_s, is_count_b_s, law_take_s, law_state_s, same_bb_s, same_ii_s, same_nn_s, same_qq_s, read_ratio_s, law_common_s, common_of_s, sign_of_s, changes_s, digits_of_s, row_text_s, read_ratios_s, law_over_s, times_s, floor_s, eq_int_s, is_ratio_row_s, rows_s, same_str_s, live_s, live2_s, texts_s] <;> rfl
      clear r1
      generalize s' = s
      have lv := live_s pl
      generalize hw : (p.filter fun x => !decide (x = 0)).map (fun x => decide (0 < x)) = w at lv
      have hwl : w.length ≤ 7 := by rw [← hw, List.length_map]; exact Nat.le_trans (List.length_filter_le _ _) pl
      have pb2 : ∀ x ∈ p, x.natAbs < 10 ^ 30 := fun x hx => Nat.lt_of_le_of_lt (pb x hx) (by decide)
      apply ex_seq
      · dsimp! only [lv, is_integer_i_s, common_s, check_ratio_s, less_s, add_s, sub_s, mul_s, neg_s, size_s, eq_s, sign_s, make_s, over_s, over_0_s, is_zero_s, is_whole_s, is_short_s, Ratio_str_s, check_ratio_n_s, check_ratio_i_s, is_integer_n_s, is_integer_b_s, is_count_s, is_count_n_s, is_count_b_s, law_take_s, law_state_s, same_bb_s, same_ii_s, same_nn_s, same_qq_s, read_ratio_s, law_common_s, common_of_s, sign_of_s, changes_s, digits_of_s, row_text_s, read_ratios_s, law_over_s, times_s, floor_s, eq_int_s, is_ratio_row_s, rows_s, same_str_s, live_s, live2_s, texts_s] <;> rfl
      have l2 := live2_s hwl
      have rg := fun ρ => rng_ok (ρ := ρ) (rgOk_of (j := (w.length : Int) - 1) (by omega) (by omega))
      have rg2 : ((w.length : Int) - 1).toNat = w.length - 1 := by omega
      rw [rg2] at rg
      have c3 := changes_law pl hw
      have c4 := row_text_law pl pb2
      have tx := texts_s pl pb2
      have jn := fun ρ => kJoin_of (ρ := ρ) (rtxt_len (p := p) (by omega) pb2)
      refine ex_seqJ (fun ρ => ∃ (x2 x3 x4 x5 x6 x7 x9 x10 x11 x12 x13 x14 x15 x16 x17 x18 : Option Cl), ρ = (some (.d (.scr (ns.map D.int))) :: some (.own (stD s)) :: x2 :: x3 :: x4 :: x5 :: x6 :: x7 :: some (.d (.lst (iD p))) :: x9 :: x10 :: x11 :: x12 :: x13 :: x14 :: x15 :: x16 :: x17 :: x18 :: [])) ?_ ?_
      · by_cases h0 : p = []
        · have e0 : rtxt p = Str.ofString "-" := by unfold rtxt; rw [if_pos h0]
          rw [e0] at c4
          have e1 : decide ((0 : Int) < (p.length : Nat)) = false := by rw [h0]; rfl
          apply ex_one
          · dsimp! only [kLenC_l, List.length_map, rg, l2, lenF_l, c3, tupF_l, iD_len, e1, c4, is_integer_i_s, common_s, check_ratio_s, less_s, add_s, sub_s, mul_s, neg_s, size_s, eq_s, sign_s, make_s, over_s, over_0_s, is_zero_s, is_whole_s, is_short_s, Ratio_str_s, check_ratio_n_s, check_ratio_i_s, is_integer_n_s, is_integer_b_s, is_count_s, is_count_n_s, is_count_b_s, law_take_s, law_state_s, same_bb_s, same_ii_s, same_nn_s, same_qq_s, read_ratio_s, law_common_s, common_of_s, sign_of_s, changes_s, digits_of_s, row_text_s, read_ratios_s, law_over_s, times_s, floor_s, eq_int_s, is_ratio_row_s, rows_s, same_str_s, live_s, live2_s, texts_s] <;> rfl
          · exact ⟨_, _, _, _, _, _, _, _, _, _, _, _, _, _, _, _, rfl⟩
        · have e0 : Txt.join (Str.ofString ",") (p.map fun i => Str.ofString (toString i)) = rtxt p := by unfold rtxt; rw [if_neg h0]
          have e1 : decide ((0 : Int) < (p.length : Nat)) = true := decide_eq_true (by have := List.length_pos_iff.mpr h0; omega)
          apply ex_one
          · dsimp! only [kLenC_l, List.length_map, rg, l2, lenF_l, c3, tupF_l, iD_len, e1, tx, jn, e0, c4, is_integer_i_s, common_s, check_ratio_s, less_s, add_s, sub_s, mul_s, neg_s, size_s, eq_s, sign_s, make_s, over_s, over_0_s, is_zero_s, is_whole_s, is_short_s, Ratio_str_s, check_ratio_n_s, check_ratio_i_s, is_integer_n_s, is_integer_b_s, is_count_s, is_count_n_s, is_count_b_s, law_take_s, law_state_s, same_bb_s, same_ii_s, same_nn_s, same_qq_s, read_ratio_s, law_common_s, common_of_s, sign_of_s, changes_s, digits_of_s, row_text_s, read_ratios_s, law_over_s, times_s, floor_s, eq_int_s, is_ratio_row_s, rows_s, same_str_s, live_s, live2_s, texts_s] <;> rfl
          · exact ⟨_, _, _, _, _, _, _, _, _, _, _, _, _, _, _, _, rfl⟩
      rintro ρ ⟨x2, x3, x4, x5, x6, x7, x9, x10, x11, x12, x13, x14, x15, x16, x17, x18, rfl⟩
      refine ex_seqJ (fun ρ => ∃ (x2 x3 x4 x5 x6 x7 x9 x10 x11 x12 x13 x14 x15 x16 x17 x18 : Option Cl), ρ = (some (.d (.scr (ns.map D.int))) :: some (.own (stD s)) :: x2 :: x3 :: x4 :: x5 :: x6 :: x7 :: some (.d (.lst (iD p))) :: x9 :: x10 :: x11 :: x12 :: x13 :: x14 :: x15 :: x16 :: x17 :: x18 :: [])) ?_ ?_
      · apply for_ex (fun ρ => ∃ (x2 x3 x4 x5 x6 x7 x9 x10 x11 x12 x13 x14 x15 x16 x17 x18 : Option Cl), ρ = (some (.d (.scr (ns.map D.int))) :: some (.own (stD s)) :: x2 :: x3 :: x4 :: x5 :: x6 :: x7 :: some (.d (.lst (iD p))) :: x9 :: x10 :: x11 :: x12 :: x13 :: x14 :: x15 :: x16 :: x17 :: x18 :: []))
        · dsimp! only [is_integer_i_s, common_s, check_ratio_s, less_s, add_s, sub_s, mul_s, neg_s, size_s, eq_s, sign_s, make_s, over_s, over_0_s, is_zero_s, is_whole_s, is_short_s, Ratio_str_s, check_ratio_n_s, check_ratio_i_s, is_integer_n_s, is_integer_b_s, is_count_s, is_count_n_s, is_count_b_s, law_take_s, law_state_s, same_bb_s, same_ii_s, same_nn_s, same_qq_s, read_ratio_s, law_common_s, common_of_s, sign_of_s, changes_s, digits_of_s, row_text_s, read_ratios_s, law_over_s, times_s, floor_s, eq_int_s, is_ratio_row_s, rows_s, same_str_s, live_s, live2_s, texts_s] <;> rfl
        · exact ⟨_, _, _, _, _, _, _, _, _, _, _, _, _, _, _, _, rfl⟩
        · rintro v hv ρ ⟨x2, x3, x4, x5, x6, x7, x9, x10, x11, x12, x13, x14, x15, x16, x17, x18, rfl⟩
          apply hs_of rfl
          have hv2 : v ∈ vals := hv
          obtain ⟨y, hy⟩ := vals_ok _ _ x2 x3 x4 x5 x6 x7 _ x9 x11 x12 x13 x14 x15 x16 x17 x18 v hv2
          exact ⟨_, hy, _, _, _, _, _, _, _, _, _, _, _, _, _, _, _, _, rfl⟩
      rintro ρ ⟨x2, x3, x4, x5, x6, x7, x9, x10, x11, x12, x13, x14, x15, x16, x17, x18, rfl⟩
      have q1 := tkV_b s (m := 201) (by decide)
      have q2 := tkV_b (tkS s 201) (m := 30) (by decide)
      have q3 := tkV_b (tkS (tkS s 201) 30) (m := 201) (by decide)
      have q4 := tkV_b (tkS (tkS (tkS s 201) 30) 201) (m := 30) (by decide)
      obtain ⟨n, hn⟩ : ∃ n, tkV s 201 - 100 = n := ⟨_, rfl⟩
      obtain ⟨d, hd⟩ : ∃ d, 1 + tkV (tkS s 201) 30 = d := ⟨_, rfl⟩
      obtain ⟨m, hm⟩ : ∃ m, tkV (tkS (tkS s 201) 30) 201 - 100 = m := ⟨_, rfl⟩
      obtain ⟨e, he⟩ : ∃ e, 1 + tkV (tkS (tkS (tkS s 201) 30) 201) 30 = e := ⟨_, rfl⟩
      apply ex_seq
      · dsimp! only [hn, hd, hm, he, is_integer_i_s, common_s, check_ratio_s, less_s, add_s, sub_s, mul_s, neg_s, size_s, eq_s, sign_s, make_s, over_s, over_0_s, is_zero_s, is_whole_s, is_short_s, Ratio_str_s, check_ratio_n_s, check_ratio_i_s, is_integer_n_s, is_integer_b_s, is_count_s, is_count_n_s, is_count_b_s, law_take_s, law_state_s, same_bb_s, same_ii_s, same_nn_s, same_qq_s, read_ratio_s, law_common_s, common_of_s, sign_of_s, changes_s, digits_of_s, row_text_s, read_ratios_s, law_over_s, times_s, floor_s, eq_int_s, is_ratio_row_s, rows_s, same_str_s, live_s, live2_s, texts_s] <;> rfl
      generalize tkS (tkS (tkS (tkS s 201) 30) 201) 30 = s
      have bn : n.natAbs ≤ 100 := by omega
      have bm : m.natAbs ≤ 100 := by omega
      have bd1 : 1 ≤ d := by omega
      have bd2 : d ≤ 30 := by omega
      have be1 : 1 ≤ e := by omega
      have be2 : e ≤ 30 := by omega
      clear q1 q2 q3 q4 hn hd hm he
      have d0 : d ≠ 0 := by omega
      have e1 : e ≠ 0 := by omega
      obtain ⟨x, hx⟩ : ∃ x, Rat.divInt n d = x := ⟨_, rfl⟩
      obtain ⟨y, hy⟩ : ∃ y, Rat.divInt m e = y := ⟨_, rfl⟩
      have lx : Lv 0 x := by rw [← hx]; exact Lv0_div (by omega) (by omega)
      have ly : Lv 0 y := by rw [← hy]; exact Lv0_div (by omega) (by omega)
      have lx7 : Lv 7 x := Lv_up lx
      have ly7 : Lv 7 y := Lv_up ly
      have hy2 : Rat.divInt (-m) (-e) = y := by rw [Rat.neg_divInt_neg, hy]
      have mk1 := fun ρ => make_s (n := n) (d := d) (ρ := ρ) d0 (by omega)
      have mk2 := fun ρ => make_s (n := -m) (d := -e) (ρ := ρ) (by omega) (by omega)
      apply ex_seq
      · dsimp! only [mk1, mk2, hx, hy2, is_integer_i_s, common_s, check_ratio_s, less_s, add_s, sub_s, mul_s, neg_s, size_s, eq_s, sign_s, make_s, over_s, over_0_s, is_zero_s, is_whole_s, is_short_s, Ratio_str_s, check_ratio_n_s, check_ratio_i_s, is_integer_n_s, is_integer_b_s, is_count_s, is_count_n_s, is_count_b_s, law_take_s, law_state_s, same_bb_s, same_ii_s, same_nn_s, same_qq_s, read_ratio_s, law_common_s, common_of_s, sign_of_s, changes_s, digits_of_s, row_text_s, read_ratios_s, law_over_s, times_s, floor_s, eq_int_s, is_ratio_row_s, rows_s, same_str_s, live_s, live2_s, texts_s] <;> rfl
      have md : ∀ i, mulOk i d = true := fun i => mulOk_r (by omega)
      have me : ∀ i, mulOk i e = true := fun i => mulOk_r (by omega)
      have mm : ∀ i, mulOk i m = true := fun i => mulOk_r (by omega)
      have ab : ∀ (i j k : Int), i.natAbs ≤ 100 → 1 ≤ j → j ≤ 30 → (i * j).natAbs ≤ 3000 := fun i j k h1 h2 h3 => by
        rw [Int.natAbs_mul]; exact (show i.natAbs * j.natAbs ≤ 100 * 30 from Nat.mul_le_mul h1 (by omega))
      have bne := ab n e 0 bn be1 be2
      have bmd := ab m d 0 bm bd1 bd2
      have bnm : (n * m).natAbs ≤ 10000 := by rw [Int.natAbs_mul]; exact (show n.natAbs * m.natAbs ≤ 100 * 100 from Nat.mul_le_mul bn bm)
      have mp : ∀ j, mulOk (n * e + m * d) j = true := fun j => mulOk_l (by omega)
      have mq : ∀ j, mulOk (n * e - m * d) j = true := fun j => mulOk_l (by omega)
      have mr : ∀ j, mulOk (n * m) j = true := fun j => mulOk_l (by omega)
      have de0 : d * e ≠ 0 := Int.mul_ne_zero d0 e1
      have k1 : (x + y).num * d * e = (n * e + m * d) * ((x + y).den : Int) := by
        rw [← hx, ← hy, sum_q d0 e1, Int.mul_assoc]; exact cross de0
      have k2 : (x - y).num * d * e = (n * e - m * d) * ((x - y).den : Int) := by
        rw [← hx, ← hy, sub_q d0 e1, Int.mul_assoc]; exact cross de0
      have k3 : (x * y).num * d * e = n * m * ((x * y).den : Int) := by
        rw [← hx, ← hy, mul_q, Int.mul_assoc]; exact cross de0
      have k4 : Rat.divInt (-n) d = -x := by rw [← hx, Rat.neg_divInt]
      have k5 : (decide (x < y)) = decide (n * e < m * d) := decide_eq_decide.mpr (by rw [← hx, ← hy]; exact ltQ (by omega) (by omega))
      have k6 : x.num.fdiv x.den = n.fdiv d := by rw [← hx]; exact floorQ (by omega)
      have k7 : Rat.divInt (x.num * m) x.den = Rat.divInt (n * m) d := by rw [← hx]; exact timesQ d0
      have mk3 := fun ρ => make_s (n := -n) (d := d) (ρ := ρ) d0 (by omega)
      have mk4 := fun ρ => make_s (n := n * m) (d := d) (ρ := ρ) d0 (by omega)
      have dd : divOk d = true := divOk_s d0 (by omega)
      apply ex_seq
      · dsimp! only [mulI_ii (md _), mulI_ii (me _), mulI_ii (mm _), mulI_ii (mp _), mulI_ii (mq _), mulI_ii (mr _), k1, k2, k3, mk3, k4, k5, k6, times_s lx7 (k := m) (by omega), k7, mk4, dd, neP_bb, is_integer_i_s, common_s, check_ratio_s, less_s, add_s, sub_s, mul_s, neg_s, size_s, eq_s, sign_s, make_s, over_s, over_0_s, is_zero_s, is_whole_s, is_short_s, Ratio_str_s, check_ratio_n_s, check_ratio_i_s, is_integer_n_s, is_integer_b_s, is_count_s, is_count_n_s, is_count_b_s, law_take_s, law_state_s, same_bb_s, same_ii_s, same_nn_s, same_qq_s, read_ratio_s, law_common_s, common_of_s, sign_of_s, changes_s, digits_of_s, row_text_s, read_ratios_s, law_over_s, times_s, floor_s, eq_int_s, is_ratio_row_s, rows_s, same_str_s, live_s, live2_s, texts_s] <;> rfl
      have ps : (0 < x) = (0 < n) := propext (by rw [← hx]; exact posQ (by omega))
      have ng : (x < 0) = (n < 0) := propext (by rw [← hx]; exact negQ (by omega))
      have z1 : decide (x.num = 0) = decide (n = 0) := decide_eq_decide.mpr (by rw [← hx]; exact zeroQ (by omega))
      have z2 : decide ((x.den : Int) = 1) = decide (n.fmod d = 0) := decide_eq_decide.mpr (by rw [← hx]; exact wholeQ (by omega))
      have z3 : (if 0 ≤ x then x else -x) = Rat.divInt (n.natAbs : Int) d := by rw [← hx]; exact sizeQ (by omega)
      have z4 : decide (x = y) = decide (n * e = m * d) := decide_eq_decide.mpr (by rw [← hx, ← hy]; exact eqQ d0 e1)
      have mk5 := fun ρ => make_s (n := (n.natAbs : Int)) (d := d) (ρ := ρ) d0 (by omega)
      have z6 := @law_common_s x.num.natAbs x.den
      rw [gcdQ] at z6
      have c1 : ((1 : Nat) : Int) = 1 := rfl
      have z7 := fun u ρ => modI_ii (u := u) (ρ := ρ) (i := n) (j := d) d0
      apply ex_seq
      · dsimp! only [mulI_ii (md _), mulI_ii (me _), sign_s, ps, ng, is_zero_s, z1, is_whole_s, z2, z3, mk5, z4, eq_int_s, z6, c1, z7, neP_bb, eqP_bb, is_integer_i_s, common_s, check_ratio_s, less_s, add_s, sub_s, mul_s, neg_s, size_s, eq_s, sign_s, make_s, over_s, over_0_s, is_zero_s, is_whole_s, is_short_s, Ratio_str_s, check_ratio_n_s, check_ratio_i_s, is_integer_n_s, is_integer_b_s, is_count_s, is_count_n_s, is_count_b_s, law_take_s, law_state_s, same_bb_s, same_ii_s, same_nn_s, same_qq_s, read_ratio_s, law_common_s, common_of_s, sign_of_s, changes_s, digits_of_s, row_text_s, read_ratios_s, law_over_s, times_s, floor_s, eq_int_s, is_ratio_row_s, rows_s, same_str_s, live_s, live2_s, texts_s] <;> rfl
      have lt := qtxt_len lx
      have tok := qtxt_ok x
      refine ex_seqJ (fun ρ => ∃ (x2 x3 x4 x5 x6 x9 x10 x17 x18 : Option Cl), ρ = (some (.d (.scr (ns.map D.int))) :: some (.own (stD s)) :: x2 :: x3 :: x4 :: x5 :: x6 :: some (.d (.int n)) :: some (.d (.lst (iD p))) :: x9 :: x10 :: some (.d (.int d)) :: some (.d (.int m)) :: some (.d (.int e)) :: some (.d (qD x)) :: some (.d (qD y)) :: some (.d (.str (qtxt x))) :: x17 :: x18 :: [])) ?_ ?_
      · have n1 := Lv0_num lx
        have d1 := Lv0_den lx
        have n2 := itx_log n1
        have d2 := itx_log d1
        have n3 := itx_len n1
        have d3 := itx_len d1
        have e2 : (Str.ofString "/").length = 1 := by decide +kernel
        by_cases h1 : x.den = 1
        · have h2 : decide ((x.den : Int) = 1) = true := decide_eq_true (by omega)
          have h3 : qtxt x = Str.ofString (toString x.num) := by unfold qtxt; rw [if_pos h1]
          rw [h3]
          apply ex_one
          · dsimp! only [h2, is_integer_i_s, common_s, check_ratio_s, less_s, add_s, sub_s, mul_s, neg_s, size_s, eq_s, sign_s, make_s, over_s, over_0_s, is_zero_s, is_whole_s, is_short_s, Ratio_str_s, check_ratio_n_s, check_ratio_i_s, is_integer_n_s, is_integer_b_s, is_count_s, is_count_n_s, is_count_b_s, law_take_s, law_state_s, same_bb_s, same_ii_s, same_nn_s, same_qq_s, read_ratio_s, law_common_s, common_of_s, sign_of_s, changes_s, digits_of_s, row_text_s, read_ratios_s, law_over_s, times_s, floor_s, eq_int_s, is_ratio_row_s, rows_s, same_str_s, live_s, live2_s, texts_s] <;> rfl
          · exact ⟨_, _, _, _, _, _, _, _, _, rfl⟩
        · have h2 : decide ((x.den : Int) = 1) = false := decide_eq_false (by omega)
          have h3 : qtxt x = Str.ofString (toString x.num) ++ Str.ofString "/" ++ Str.ofString (toString (x.den : Int)) := by unfold qtxt; rw [if_neg h1, Str.empty_append]
          rw [h3]
          apply ex_one
          · dsimp! only [h2, is_integer_i_s, common_s, check_ratio_s, less_s, add_s, sub_s, mul_s, neg_s, size_s, eq_s, sign_s, make_s, over_s, over_0_s, is_zero_s, is_whole_s, is_short_s, Ratio_str_s, check_ratio_n_s, check_ratio_i_s, is_integer_n_s, is_integer_b_s, is_count_s, is_count_n_s, is_count_b_s, law_take_s, law_state_s, same_bb_s, same_ii_s, same_nn_s, same_qq_s, read_ratio_s, law_common_s, common_of_s, sign_of_s, changes_s, digits_of_s, row_text_s, read_ratios_s, law_over_s, times_s, floor_s, eq_int_s, is_ratio_row_s, rows_s, same_str_s, live_s, live2_s, texts_s] <;> rfl
          · exact ⟨_, _, _, _, _, _, _, _, _, rfl⟩
      rintro ρ ⟨x2, x3, x4, x5, x6, x9, x10, x17, x18, rfl⟩
      have r1 := read_ok (g := "read_ratio") rfl (read_ratio_s lx)
      have r2 := read_ok (g := "read_ratios") rfl (read_ratios_s lx)
      have r3 : m_law_tells [.glo "is_ratio_row", .tup [.tup [qD x, qD y]], .bl true] = .ok (.bl true) := tells_of (toldO1 (g := "is_ratio_row") rfl is_ratio_row_s) same_bb_s
      have r4 := Ratio_str_s lx
      have cl := comma_len
      have rn := fun u ρ => ne_read (u := u) (x := x) (ρ := ρ)
      have rn2 := fun u ρ => ne_read2 (u := u) (x := x) (ρ := ρ)
      have ns2 := fun u ρ => neP_same (u := u) (ρ := ρ) tok
      refine ex_seqJ (fun ρ => ∃ (x2 x3 x4 x5 x6 x9 x10 x17 x18 : Option Cl), ρ = (some (.d (.scr (ns.map D.int))) :: some (.own (stD s)) :: x2 :: x3 :: x4 :: x5 :: x6 :: some (.d (.int n)) :: some (.d (.lst (iD p))) :: x9 :: x10 :: some (.d (.int d)) :: some (.d (.int m)) :: some (.d (.int e)) :: some (.d (qD x)) :: some (.d (qD y)) :: some (.d (.str (qtxt x))) :: x17 :: x18 :: [])) ?_ ?_
      · by_cases hm0 : m = 0
        · have y0 : y = 0 := by rw [← hy, hm0]; exact Rat.zero_divInt _
          have r5 : m_law_raises [.glo "_law_over", .tup [qD x, qD y], .str "zero"] = .ok (.bl true) := raises_zero (toldR2 (g := "_law_over") rfl (by rw [y0]; exact law_over_0 lx7))
          apply ex_one
          · dsimp! only [decide_eq_true hm0, r1, r2, r3, r4, rn, rn2, ns2, r5, is_integer_i_s, common_s, check_ratio_s, less_s, add_s, sub_s, mul_s, neg_s, size_s, eq_s, sign_s, make_s, over_s, over_0_s, is_zero_s, is_whole_s, is_short_s, Ratio_str_s, check_ratio_n_s, check_ratio_i_s, is_integer_n_s, is_integer_b_s, is_count_s, is_count_n_s, is_count_b_s, law_take_s, law_state_s, same_bb_s, same_ii_s, same_nn_s, same_qq_s, read_ratio_s, law_common_s, common_of_s, sign_of_s, changes_s, digits_of_s, row_text_s, read_ratios_s, law_over_s, times_s, floor_s, eq_int_s, is_ratio_row_s, rows_s, same_str_s, live_s, live2_s, texts_s] <;> rfl
          · exact ⟨_, _, _, _, _, _, _, _, _, rfl⟩
        · have y0 : y ≠ 0 := by
            rw [← hy]; intro h
            have := (eqQ (n := m) (m := 0) (e := 1) e1 (by decide)).mp (by rw [h]; exact (Rat.zero_divInt _).symm)
            omega
          have dm0 : d * m ≠ 0 := Int.mul_ne_zero d0 hm0
          have bdm : (d * m).natAbs ≤ 3000 := by rw [Int.mul_comm]; exact bmd
          have q1 : Rat.divInt (n * e) (d * m) = x / y := by rw [← hx, ← hy, quo_q]
          have mk6 := fun ρ => make_s (n := n * e) (d := d * m) (ρ := ρ) dm0 (by omega)
          have q2 := over_s lx7 ly7 y0
          apply ex_one
          · dsimp! only [decide_eq_false hm0, mulI_ii (me _), mulI_ii (mm _), mk6, q1, q2, r1, r2, r3, r4, rn, rn2, ns2, is_integer_i_s, common_s, check_ratio_s, less_s, add_s, sub_s, mul_s, neg_s, size_s, eq_s, sign_s, make_s, over_s, over_0_s, is_zero_s, is_whole_s, is_short_s, Ratio_str_s, check_ratio_n_s, check_ratio_i_s, is_integer_n_s, is_integer_b_s, is_count_s, is_count_n_s, is_count_b_s, law_take_s, law_state_s, same_bb_s, same_ii_s, same_nn_s, same_qq_s, read_ratio_s, law_common_s, common_of_s, sign_of_s, changes_s, digits_of_s, row_text_s, read_ratios_s, law_over_s, times_s, floor_s, eq_int_s, is_ratio_row_s, rows_s, same_str_s, live_s, live2_s, texts_s] <;> rfl
          · exact ⟨_, _, _, _, _, _, _, _, _, rfl⟩
      rintro ρ ⟨x2, x3, x4, x5, x6, x9, x10, x17, x18, rfl⟩
      refine ex_seqJ (fun ρ => ∃ (x2 x3 x4 x5 x6 x9 x10 x17 x18 : Option Cl), ρ = (some (.d (.scr (ns.map D.int))) :: some (.own (stD s)) :: x2 :: x3 :: x4 :: x5 :: x6 :: some (.d (.int n)) :: some (.d (.lst (iD p))) :: x9 :: x10 :: some (.d (.int d)) :: some (.d (.int m)) :: some (.d (.int e)) :: some (.d (qD x)) :: some (.d (qD y)) :: some (.d (.str (qtxt x))) :: x17 :: x18 :: [])) ?_ ?_
      · apply for_ex (fun ρ => ∃ (x2 x3 x4 x5 x6 x9 x10 x17 x18 : Option Cl), ρ = (some (.d (.scr (ns.map D.int))) :: some (.own (stD s)) :: x2 :: x3 :: x4 :: x5 :: x6 :: some (.d (.int n)) :: some (.d (.lst (iD p))) :: x9 :: x10 :: some (.d (.int d)) :: some (.d (.int m)) :: some (.d (.int e)) :: some (.d (qD x)) :: some (.d (qD y)) :: some (.d (.str (qtxt x))) :: x17 :: x18 :: []))
        · dsimp! only [is_integer_i_s, common_s, check_ratio_s, less_s, add_s, sub_s, mul_s, neg_s, size_s, eq_s, sign_s, make_s, over_s, over_0_s, is_zero_s, is_whole_s, is_short_s, Ratio_str_s, check_ratio_n_s, check_ratio_i_s, is_integer_n_s, is_integer_b_s, is_count_s, is_count_n_s, is_count_b_s, law_take_s, law_state_s, same_bb_s, same_ii_s, same_nn_s, same_qq_s, read_ratio_s, law_common_s, common_of_s, sign_of_s, changes_s, digits_of_s, row_text_s, read_ratios_s, law_over_s, times_s, floor_s, eq_int_s, is_ratio_row_s, rows_s, same_str_s, live_s, live2_s, texts_s] <;> rfl
        · exact ⟨_, _, _, _, _, _, _, _, _, rfl⟩
        · rintro v hv ρ ⟨x2, x3, x4, x5, x6, x9, x10, x17, x18, rfl⟩
          apply hs_of rfl
          have hv2 : v ∈ bads := hv
          exact ⟨_, bads_ok _ _ _ _ _ _ _ _ _ _ _ _ _ _ _ _ _ _ v hv2, _, _, _, _, _, _, _, _, _, rfl⟩
      rintro ρ ⟨x2, x3, x4, x5, x6, x9, x10, x17, x18, rfl⟩
      have f1 : m_law_raises [.glo "_law_make", .tup [.int n, .int 0], .str "zero"] = .ok (.bl true) := raises_zero (toldR2 (g := "_law_make") rfl make_0)
      have f2 := bads203 (g := "_law_make") (y0 := .int n) (y1 := .int d) rfl (make_bad is_integer_n_s) (make_bad is_integer_str) (make_bad (is_integer_b_s (b := true)))
      have f3 := bads212 (g := "_law_over") (y0 := qD x) (y1 := qD y) rfl (law_over_bad check_ratio_n_s) (law_over_bad (check_ratio_i_s (i := 1)))
      have f4 : ∀ (u : OpF) ρ, eqP true u (.tup [.str "text", .int 0]) (.tup [.str "text", .int 0]) ρ = .ok (.bl false) ρ := fun u ρ => by kernel_rfl
      apply ex_one
      · dsimp! only [f1, f2, f3, read_bad, f4, is_integer_i_s, common_s, check_ratio_s, less_s, add_s, sub_s, mul_s, neg_s, size_s, eq_s, sign_s, make_s, over_s, over_0_s, is_zero_s, is_whole_s, is_short_s, Ratio_str_s, check_ratio_n_s, check_ratio_i_s, is_integer_n_s, is_integer_b_s, is_count_s, is_count_n_s, is_count_b_s, law_take_s, law_state_s, same_bb_s, same_ii_s, same_nn_s, same_qq_s, read_ratio_s, law_common_s, common_of_s, sign_of_s, changes_s, digits_of_s, row_text_s, read_ratios_s, law_over_s, times_s, floor_s, eq_int_s, is_ratio_row_s, rows_s, same_str_s, live_s, live2_s, texts_s] <;> rfl
      · exact ⟨s, _, _, _, _, _, _, _, _, _, _, _, _, _, _, _, _, _, rfl⟩
      skip
  · rintro ρ ⟨s, x2, x3, x4, x5, x6, x7, x8, x9, x10, x11, x12, x13, x14, x15, x16, x17, x18, rfl⟩
    apply rt_one
    · dsimp! only [is_integer_i_s, common_s, check_ratio_s, less_s, add_s, sub_s, mul_s, neg_s, size_s, eq_s, sign_s, make_s, over_s, over_0_s, is_zero_s, is_whole_s, is_short_s, Ratio_str_s, check_ratio_n_s, check_ratio_i_s, is_integer_n_s, is_integer_b_s, is_count_s, is_count_n_s, is_count_b_s, law_take_s, law_state_s, same_bb_s, same_ii_s, same_nn_s, same_qq_s, read_ratio_s, law_common_s, common_of_s, sign_of_s, changes_s, digits_of_s, row_text_s, read_ratios_s, law_over_s, times_s, floor_s, eq_int_s, is_ratio_row_s, rows_s, same_str_s, live_s, live2_s, texts_s] <;> rfl
end G00


open PySem PySem.W PyProof.Rows
set_option maxRecDepth 100000 in
set_option maxHeartbeats 0 in
theorem PySem.Challenge.cw_rootsheld_k00_whole_integers_and_ratios_holds : PySem.Challenge.rw_rootsheld_k00_whole_integers_and_ratios.Holds := by
  exact G00.holds_of (fun ns _ => G00.law_s)
