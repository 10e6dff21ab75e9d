import PyProof.Rows.All
import Wide.All
import OpenK.AllK
import Wide.FinOn
import HandS.ForMost
import HandS.Wide
import HandS.Flow
import HandS.Exc
import HandS.CallSlots
import HandS.IsInst
import HandS.TupAny
import HandS.Defaults
import HandS.ExcOwn
import HandS.MakeKwOnly
import HandS.Conv
import HandS.WordsExc
import HandS.Ends
import HandS.EndBits
import PySem.Challenge.RW_lightshares_k02_halves_and_roots
set_option Elab.async false
set_option linter.all false
set_option maxRecDepth 100000
set_option maxHeartbeats 4000000
/-! Td: Python values as trees, slots, a small store, and the combinators that a def's body is read into. -/
namespace Tz
open PySem L2

inductive D where
  | non | bl (b : Bool) | int (i : Int) | str (s : Str) | tup (xs : List D) | lst (xs : List D) | rol (xs : List D) | ref (n : Nat) | ins (c : Str) (ns : List Str) (fs : List D) | dct (ks : List Key) (vs : List D)
  deriving Inhabited
/-- a slot of a frame: empty, a value that stays as it is, a list that this frame alone holds -/
inductive Sl where
  | no | val (d : D) | own (d : D)
/-- what an expression tells: a value that stays, a list just made, a list that a slot owns -/
inductive RV where
  | val (d : D) | fresh (d : D) | peek (d : D)
structure Ex where
  cls : Str
  fld : D
abbrev Rho := List Sl
abbrev Store := List D
inductive ER where
  | ok (v : RV) (st : Store) | exc (x : Ex) (st : Store)
inductive TR where
  | ok (b : Bool) (st : Store) | exc (x : Ex) (st : Store)
inductive AR where
  | ok (ds : List D) (st : Store) | exc (x : Ex) (st : Store)
inductive SR where
  | nx (r : Rho) (st : Store) | rt (v : RV) (st : Store) | bk (r : Rho) (st : Store) | ct (r : Rho) (st : Store) | exc (x : Ex) (r : Rho) (st : Store)
inductive FR where
  | ret (v : RV) (st : Store) | exc (x : Ex) (st : Store)
abbrev ESem := Rho → Store → Option ER
abbrev TSem := Rho → Store → Option TR
abbrev ASem := Rho → Store → Option AR
abbrev SSem := Rho → Store → Option SR
abbrev FSem := List D → Store → Option FR
abbrev TgSem := RV → Rho → Store → Option (Rho × Store)

def RV.d : RV → D
  | .val d => d | .fresh d => d | .peek d => d
def RV.toVal : RV → Option D
  | .val d => some d | .fresh d => some d | .peek _ => none
/-- the items of a list, wherever it stands -/
def asL (st : Store) (v : RV) : Option (List D) := match v.d with
  | .lst xs => some xs
  | .rol xs => some xs
  | .ref n => match st[n]? with
    | some (.lst xs) => some xs
    | _ => none
  | _ => none
def lim : Nat := 16000000

def eStuck : ESem := fun _ _ => none
def eC (d : D) : ESem := fun _ st => some (.ok (.val d) st)
def eVar (i : Nat) : ESem := fun r st => match r[i]? with
  | some (.val d) => some (.ok (.val d) st)
  | some (.own d) => some (.ok (.peek d) st)
  | _ => none
def eOp1 (f : Store → RV → Option RV) (a : ESem) : ESem := fun r st => match a r st with
  | some (.ok x st1) => match f st1 x with
    | some z => some (.ok z st1)
    | none => none
  | some (.exc x st1) => some (.exc x st1)
  | none => none
def eOp2 (f : Store → RV → RV → Option RV) (a b : ESem) : ESem := fun r st => match a r st with
  | some (.ok x st1) => match b r st1 with
    | some (.ok y st2) => match f st2 x y with
      | some z => some (.ok z st2)
      | none => none
    | some (.exc x st2) => some (.exc x st2)
    | none => none
  | some (.exc x st1) => some (.exc x st1)
  | none => none
def aNil : ASem := fun _ st => some (.ok [] st)
def aCons (a : ESem) (t : ASem) : ASem := fun r st => match a r st with
  | some (.ok x st1) => match x.toVal with
    | some d => match t r st1 with
      | some (.ok ds st2) => some (.ok (d :: ds) st2)
      | some (.exc x st2) => some (.exc x st2)
      | none => none
    | none => none
  | some (.exc x st1) => some (.exc x st1)
  | none => none
def argsS : List ESem → ASem
  | [] => aNil
  | a :: as => aCons a (argsS as)
def eTup (t : ASem) : ESem := fun r st => match t r st with
  | some (.ok ds st1) => if ds.length ≤ lim then some (.ok (.val (.tup ds)) st1) else none
  | some (.exc x st1) => some (.exc x st1)
  | none => none
def eLst (t : ASem) : ESem := fun r st => match t r st with
  | some (.ok ds st1) => if ds.length ≤ lim then some (.ok (.fresh (.lst ds)) st1) else none
  | some (.exc x st1) => some (.exc x st1)
  | none => none
def eCall (F : FSem) (t : ASem) : ESem := fun r st => match t r st with
  | some (.ok ds st1) => match F ds st1 with
    | some (.ret v st2) => some (.ok v st2)
    | some (.exc x st2) => some (.exc x st2)
    | none => none
  | some (.exc x st1) => some (.exc x st1)
  | none => none
/-- a built-in of values that leaves the store -/
def eBlt (f : Store → List D → Option RV) (t : ASem) : ESem := fun r st => match t r st with
  | some (.ok ds st1) => match f st1 ds with
    | some v => some (.ok v st1)
    | none => none
  | some (.exc x st1) => some (.exc x st1)
  | none => none

/-! truth, tests -/
def truth (st : Store) (v : RV) : Option Bool := match v.d with
  | .non => some false
  | .bl b => some b
  | .int i => some (i != 0)
  | .str s => if s.length ≤ lim then some ((s.length : Int) != 0) else none
  | .tup xs => some (!xs.isEmpty)
  | .lst xs => some (!xs.isEmpty)
  | .rol xs => some (!xs.isEmpty)
  | .ref n => match st[n]? with
    | some (.lst xs) => some (!xs.isEmpty)
    | _ => none
  | _ => none
def tStuck : TSem := fun _ _ => none
def tVal (a : ESem) : TSem := fun r st => match a r st with
  | some (.ok x st1) => match truth st1 x with
    | some b => some (.ok b st1)
    | none => none
  | some (.exc x st1) => some (.exc x st1)
  | none => none
def tNotS (a : TSem) : TSem := fun r st => match a r st with
  | some (.ok b st1) => some (.ok (!b) st1)
  | some (.exc x st1) => some (.exc x st1)
  | none => none
def tAndS (a b : TSem) : TSem := fun r st => match a r st with
  | some (.ok true st1) => b r st1
  | some (.ok false st1) => some (.ok false st1)
  | some (.exc x st1) => some (.exc x st1)
  | none => none
def tOrS (a b : TSem) : TSem := fun r st => match a r st with
  | some (.ok false st1) => b r st1
  | some (.ok true st1) => some (.ok true st1)
  | some (.exc x st1) => some (.exc x st1)
  | none => none
def eAndS (a b : ESem) : ESem := fun r st => match a r st with
  | some (.ok (.val (.bl true)) st1) => b r st1
  | some (.ok (.val (.bl false)) st1) => some (.ok (.val (.bl false)) st1)
  | some (.exc x st1) => some (.exc x st1)
  | _ => none
def eOrS (a b : ESem) : ESem := fun r st => match a r st with
  | some (.ok (.val (.bl false)) st1) => b r st1
  | some (.ok (.val (.bl true)) st1) => some (.ok (.val (.bl true)) st1)
  | some (.exc x st1) => some (.exc x st1)
  | _ => none
/-- a test as a value -/
def eTest (a : TSem) : ESem := fun r st => match a r st with
  | some (.ok b st1) => some (.ok (.val (.bl b)) st1)
  | some (.exc x st1) => some (.exc x st1)
  | none => none
def eIf (t : TSem) (a b : ESem) : ESem := fun r st => match t r st with
  | some (.ok true st1) => a r st1
  | some (.ok false st1) => b r st1
  | some (.exc x st1) => some (.exc x st1)
  | none => none
/-- a op b op' c, b once -/
def eChain (f g : Store → RV → RV → Option RV) (a b c : ESem) : ESem := fun r st => match a r st with
  | some (.ok x st1) => match b r st1 with
    | some (.ok y st2) => match f st2 x y with
      | some (.val (.bl true)) => match c r st2 with
        | some (.ok z st3) => match g st3 y z with
          | some v => some (.ok v st3)
          | none => none
        | some (.exc x st3) => some (.exc x st3)
        | none => none
      | some (.val (.bl false)) => some (.ok (.val (.bl false)) st2)
      | _ => none
    | some (.exc x st2) => some (.exc x st2)
    | none => none
  | some (.exc x st1) => some (.exc x st1)
  | none => none

/-! comprehensions: own slots wiped, items by turns -/
def wipeR (r : Rho) : List Nat → Rho
  | [] => r
  | i :: is => (wipeR r is).set i .no
def compL (g : TgSem) (t : TSem) (e : ESem) (r : Rho) : List D → List D → Store → Option (List D × Store)
  | acc, [], st => some (acc, st)
  | acc, x :: xs, st => match g (.val x) r st with
    | some (r1, st1) => match t r1 st1 with
      | some (.ok true st2) => match e r1 st2 with
        | some (.ok v st3) => match v.toVal with
          | some d => if acc.length < lim then compL g t e r (acc ++ [d]) xs st3 else none
          | none => none
        | _ => none
      | some (.ok false st2) => compL g t e r acc xs st2
      | _ => none
    | none => none
/-- what is walked: an expression whose items are told at the start -/
abbrev ISem := Rho → Store → Option (List D × Store)
def iOf (f : Store → RV → Option (List D)) (a : ESem) : ISem := fun r st => match a r st with
  | some (.ok v st1) => match f st1 v with
    | some xs => some (xs, st1)
    | none => none
  | _ => none
def eComp (ws : List Nat) (it : ISem) (g : TgSem) (t : TSem) (e : ESem) : ESem := fun r st => match it r st with
  | some (xs, st1) => match compL g t e (wipeR r ws) [] xs st1 with
    | some (ys, st2) => some (.ok (.fresh (.lst ys)) st2)
    | none => none
  | none => none
def tTrue : TSem := fun _ st => some (.ok true st)

/-! targets -/
def gStuck : TgSem := fun _ _ _ => none
def gVar (i : Nat) : TgSem := fun v r st => match v with
  | .val d => some (r.set i (.val d), st)
  | .fresh d => some (r.set i (.own d), st)
  | .peek _ => none
def gList : List TgSem → List D → Rho → Store → Option (Rho × Store)
  | [], [], r, st => some (r, st)
  | g :: gs, d :: ds, r, st => match g (.val d) r st with
    | some (r1, st1) => gList gs ds r1 st1
    | none => none
  | _, _, _, _ => none
def gTupS (gs : List TgSem) : TgSem := fun v r st => match v with
  | .val (.tup ds) => if ds.length = gs.length then gList gs ds r st else none
  | _ => none

/-! statements -/
def sStuck : SSem := fun _ _ => none
def sNext : SSem := fun r st => some (.nx r st)
def sSeq (a b : SSem) : SSem := fun r st => match a r st with
  | some (.nx r1 st1) => b r1 st1
  | o => o
def sBreak : SSem := fun r st => some (.bk r st)
def sCont : SSem := fun r st => some (.ct r st)
def sDrop (a : ESem) : SSem := fun r st => match a r st with
  | some (.ok _ st1) => some (.nx r st1)
  | some (.exc x st1) => some (.exc x r st1)
  | none => none
def sRet (a : ESem) : SSem := fun r st => match a r st with
  | some (.ok (.val d) st1) => some (.rt (.val d) st1)
  | some (.ok (.fresh d) st1) => some (.rt (.fresh d) st1)
  | some (.exc x st1) => some (.exc x r st1)
  | _ => none
/-- return of a name: a list that it owns is handed on -/
def sRetV (i : Nat) : SSem := fun r st => match r[i]? with
  | some (.val d) => some (.rt (.val d) st)
  | some (.own d) => some (.rt (.fresh d) st)
  | _ => none
def sRetN : SSem := fun _ st => some (.rt (.val .non) st)
def sAsg (a : ESem) (g : TgSem) : SSem := fun r st => match a r st with
  | some (.ok v st1) => match g v r st1 with
    | some (r2, st2) => some (.nx r2 st2)
    | none => none
  | some (.exc x st1) => some (.exc x r st1)
  | none => none
/-- a, b = x, y: two local names -/
def sPar2 (i j : Nat) (a b : ESem) : SSem := fun r st => match a r st with
  | some (.ok v st1) => match b r st1 with
    | some (.ok w st2) => match gVar i v r st2 with
      | some (r1, st3) => match gVar j w r1 st3 with
        | some (r2, st4) => some (.nx r2 st4)
        | none => none
      | none => none
    | some (.exc x st2) => some (.exc x r st2)
    | none => none
  | some (.exc x st1) => some (.exc x r st1)
  | none => none
def sAug (f : Store → RV → RV → Option RV) (i : Nat) (a : ESem) : SSem := fun r st => match r[i]? with
  | some (.val x) => match a r st with
    | some (.ok y st1) => match f st1 (.val x) y with
      | some z => match gVar i z r st1 with
        | some (r2, st2) => some (.nx r2 st2)
        | none => none
      | none => none
    | some (.exc x st1) => some (.exc x r st1)
    | none => none
  | _ => none
def sIf (t : TSem) (a b : SSem) : SSem := fun r st => match t r st with
  | some (.ok true st1) => a r st1
  | some (.ok false st1) => b r st1
  | some (.exc x st1) => some (.exc x r st1)
  | none => none
/-- the list that a name owns is a value from here on -/
def sFreeze (i : Nat) : SSem := fun r st => match r[i]? with
  | some (.own d) => some (.nx (r.set i (.val d)) st)
  | _ => some (.nx r st)
def forS (g : TgSem) (b : SSem) : List D → SSem
  | [] => fun r st => some (.nx r st)
  | x :: xs => fun r st => match g (.val x) r st with
    | some (r1, st1) => match b r1 st1 with
      | some (.nx r2 st2) => forS g b xs r2 st2
      | some (.ct r2 st2) => forS g b xs r2 st2
      | some (.bk r2 st2) => some (.nx r2 st2)
      | some (.rt v st2) => some (.rt v st2)
      | some (.exc x r2 st2) => some (.exc x r2 st2)
      | none => none
    | none => none
def sFor (it : ISem) (g : TgSem) (b : SSem) : SSem := fun r st => match it r st with
  | some (xs, st1) => forS g b xs r st1
  | none => none
def iterW (t : TSem) (b : SSem) : Nat → SSem
  | 0 => fun _ _ => none
  | n + 1 => fun r st => match t r st with
    | some (.ok true st1) => match b r st1 with
      | some (.nx r2 st2) => iterW t b n r2 st2
      | some (.ct r2 st2) => iterW t b n r2 st2
      | some (.bk r2 st2) => some (.nx r2 st2)
      | some (.rt v st2) => some (.rt v st2)
      | some (.exc x r2 st2) => some (.exc x r2 st2)
      | none => none
    | some (.ok false st1) => some (.nx r st1)
    | some (.exc x st1) => some (.exc x r st1)
    | none => none
theorem iterW_mono (t : TSem) (b : SSem) : ∀ (n : Nat) (r : Rho) (st : Store) (o : SR), iterW t b n r st = some o → ∀ m, n ≤ m → iterW t b m r st = some o := by
  intro n
  induction n with
  | zero => intro r st o h; cases h
  | succ n ih =>
    intro r st o h m hm
    obtain ⟨k, rfl⟩ : ∃ k, m = k + 1 := ⟨m - 1, by omega⟩
    have hk : n ≤ k := by omega
    simp only [iterW] at h ⊢
    split at h
    · split at h
      · exact ih _ _ _ h k hk
      · exact ih _ _ _ h k hk
      · exact h
      · exact h
      · exact h
      · exact h
    · exact h
    · exact h
    · exact h
open Classical in
noncomputable def whileS (t : TSem) (b : SSem) : SSem := fun r st =>
  if h : ∃ n o, iterW t b n r st = some o then some (Classical.choose (Classical.choose_spec h)) else none
theorem whileS_of {t : TSem} {b : SSem} {n : Nat} {r : Rho} {st : Store} {o : SR} (h : iterW t b n r st = some o) : whileS t b r st = some o := by
  have hx : ∃ n o, iterW t b n r st = some o := ⟨n, o, h⟩
  unfold whileS
  rw [dif_pos hx]
  have e := Classical.choose_spec (Classical.choose_spec hx)
  have a := iterW_mono t b _ _ _ _ h (max n (Classical.choose hx)) (Nat.le_max_left _ _)
  have c := iterW_mono t b _ _ _ _ e (max n (Classical.choose hx)) (Nat.le_max_right _ _)
  rw [a] at c
  injection c with c
  rw [c]
theorem of_whileS {t : TSem} {b : SSem} {r : Rho} {st : Store} {o : SR} (h : whileS t b r st = some o) : ∃ n, iterW t b n r st = some o := by
  unfold whileS at h
  split at h
  · rename_i hx
    have e := Classical.choose_spec (Classical.choose_spec hx)
    injection h with h
    rw [h] at e
    exact ⟨_, e⟩
  · cases h
theorem whileS_false {t : TSem} {b : SSem} {r : Rho} {st st1 : Store} (h : t r st = some (.ok false st1)) : whileS t b r st = some (.nx r st1) :=
  whileS_of (n := 1) (by simp only [iterW, h])
theorem whileS_true {t : TSem} {b : SSem} {r r2 : Rho} {st st1 st2 : Store} (h : t r st = some (.ok true st1)) (hb : b r st1 = some (.nx r2 st2)) :
    whileS t b r st = whileS t b r2 st2 := by
  cases e : whileS t b r2 st2 with
  | some o =>
    obtain ⟨n, q⟩ := of_whileS e
    exact whileS_of (n := n + 1) (by simp only [iterW, h, hb]; exact q)
  | none =>
    cases e2 : whileS t b r st with
    | none => rfl
    | some o =>
      obtain ⟨n, q⟩ := of_whileS e2
      cases n with
      | zero => cases q
      | succ n =>
        simp only [iterW, h, hb] at q
        rw [whileS_of q] at e
        cases e

/-! defs -/
def slots0 (n : Nat) (ds : List D) : Rho := ds.map .val ++ List.replicate (n - ds.length) .no
def fnS (n : Nat) (b : SSem) : FSem := fun ds st => match b (slots0 n ds) st with
  | some (.nx _ st1) => some (.ret (.val .non) st1)
  | some (.rt (.val d) st1) => some (.ret (.val d) st1)
  | some (.rt (.fresh d) st1) => some (.ret (.fresh d) st1)
  | some (.exc x _ st1) => some (.exc x st1)
  | _ => none
end Tz

set_option Elab.async false
set_option linter.all false
set_option maxRecDepth 100000
set_option maxHeartbeats 4000000
/-! Ts1: how a tree stands in the abstract heap; futures; what holds between two statements. -/
namespace Tz
open PySem L2

/-- what the text's written part gives: K, the class Shade -/
structure Prm where
  K : PySem.W.Frag
  cS : Str → Addr
  cX : Str → Addr
  xF : Str → Option Str
/-- F: the lists that nobody changes any more; n things in the store; mu: where they stand -/
structure Wd where
  F : Addr → Prop
  n : Nat
  mu : Nat → Addr
mutual
def Rep (p : Prm) (W : Wd) (H : Hp) : D → V → Prop
  | .non, v => v = .non
  | .bl b, v => v = .bl b
  | .int i, v => v = .int i
  | .str s, v => v = .str s
  | .tup xs, v => ∃ a vs, v = .ref a ∧ SqT p.K H a vs ∧ RepL p W H xs vs
  | .lst xs, v => ∃ a vs, v = .ref a ∧ W.F a ∧ H a = some (.lst vs) ∧ RepL p W H xs vs
  | .rol xs, v => ∃ a vs, v = .ref a ∧ ((W.F a ∧ SqL p.K H a vs) ∨ ∀ H0, SqL p.K H0 a vs) ∧ RepL p W H xs vs
  | .ref n, v => n < W.n ∧ v = .ref (W.mu n)
  | .ins c ns fs, v => ∃ a dx vs, v = .ref a ∧ W.F a ∧ H a = some (.ins (p.cS c) dx (ns.zip vs)) ∧ RepL p W H fs vs
  | .dct ks xs, v => ∃ a vs, v = .ref a ∧ W.F a ∧ H a = some (.dK (ks.zip vs)) ∧ RepL p W H xs vs
def RepL (p : Prm) (W : Wd) (H : Hp) : List D → List V → Prop
  | [], vs => vs = []
  | x :: xs, vs => ∃ v r, vs = v :: r ∧ Rep p W H x v ∧ RepL p W H xs r
end
/-- a thing of the store, or a list that a slot owns, at a -/
def RepC (p : Prm) (W : Wd) (H : Hp) (d : D) (a : Addr) : Prop := match d with
  | .lst xs => ∃ vs, H a = some (.lst vs) ∧ RepL p W H xs vs
  | .ins c ns fs => ∃ dx vs, H a = some (.ins (p.cS c) dx (ns.zip vs)) ∧ RepL p W H fs vs
  | .dct ks xs => ∃ vs, H a = some (.dK (ks.zip vs)) ∧ RepL p W H xs vs
  | _ => False
/-- what changes by deeds -/
def MutO : HO → Prop
  | .lst _ => True
  | .ins _ _ _ => True
  | .dK _ => True
  | _ => False
/-- the store stands: each thing at its place, none of them still, no two at one place -/
structure SOk (p : Prm) (W : Wd) (H : Hp) (st : Store) : Prop where
  len : st.length = W.n
  at_ : ∀ n d, st[n]? = some d → RepC p W H d (W.mu n)
  nf : ∀ n, n < W.n → ¬ W.F (W.mu n)
  inj : ∀ m n, m < W.n → n < W.n → W.mu m = W.mu n → m = n
  fok : ∀ a, W.F a → H a ≠ none
/-- from (W, H) to (W', H') -/
structure Fut (W : Wd) (H : Hp) (W' : Wd) (H' : Hp) : Prop where
  fsub : ∀ a, W.F a → W'.F a
  mu : ∀ i, i < W.n → W'.mu i = W.mu i
  keep : ∀ a o, H a = some o → (∀ i, i < W.n → W.mu i ≠ a) → H' a = some o
  nf : ∀ a o, H a = some o → W'.F a → W.F a
  dom : ∀ i, W.n ≤ i → i < W'.n → H (W'.mu i) = none
  le : W.n ≤ W'.n
  tr : ∀ a, H a ≠ none → H' a ≠ none
theorem Fut.refl {W : Wd} {H : Hp} : Fut W H W H :=
  ⟨fun _ h => h, fun _ _ => rfl, fun _ _ h _ => h, fun _ _ _ h => h, fun i h1 h2 => absurd h1 (Nat.not_le.mpr h2), Nat.le_refl _, fun _ h => h⟩
theorem some_ne {α : Type} {o : Option α} {x : α} (h : o = some x) : o ≠ none := by rw [h]; exact fun z => by cases z
theorem Fut.trans {W W1 W2 : Wd} {H H1 H2 : Hp} (a : Fut W H W1 H1) (b : Fut W1 H1 W2 H2) : Fut W H W2 H2 := by
  refine ⟨fun x h => b.fsub x (a.fsub x h), fun i h => (b.mu i (Nat.lt_of_lt_of_le h a.le)).trans (a.mu i h), fun x o h hn => ?_, fun x o h hf => ?_, fun i h1 h2 => ?_, Nat.le_trans a.le b.le, fun x h => b.tr x (a.tr x h)⟩
  · refine b.keep x o (a.keep x o h hn) fun i hi e => ?_
    by_cases hl : i < W.n
    · exact hn i hl (by rw [← a.mu i hl]; exact e)
    · have z := a.dom i (Nat.le_of_not_lt hl) hi
      rw [e, h] at z
      cases z
  · cases q : H1 x with
    | some o1 => exact a.nf x o h (b.nf x o1 q hf)
    | none => exact absurd q (a.tr x (some_ne h))
  · by_cases hl : i < W1.n
    · rw [b.mu i hl]; exact a.dom i h1 hl
    · have z := b.dom i (Nat.le_of_not_lt hl) h2
      cases q : H (W2.mu i) with
      | none => rfl
      | some o => exact absurd z (a.tr _ (some_ne q))
section
variable {p : Prm} {W W' : Wd} {H H' : Hp} {st : Store}
theorem SOk.mut_at (S : SOk p W H st) {i : Nat} (hi : i < W.n) : ∃ o, H (W.mu i) = some o ∧ MutO o := by
  have hl : i < st.length := by rw [S.len]; exact hi
  have z := S.at_ i _ (List.getElem?_eq_getElem hl)
  cases q : st[i] with
  | lst xs =>
    rw [q] at z
    obtain ⟨vs, z, _⟩ := z
    exact ⟨_, z, trivial⟩
  | ins c ns fs =>
    rw [q] at z
    obtain ⟨dx, vs, z, _⟩ := z
    exact ⟨_, z, trivial⟩
  | dct ks xs =>
    rw [q] at z
    obtain ⟨vs, z, _⟩ := z
    exact ⟨_, z, trivial⟩
  | _ => rw [q] at z; exact z.elim
theorem keepO (f : Fut W H W' H') (S : SOk p W H st) {a : Addr} {o : HO} (h : H a = some o) (hl : ¬ MutO o) : H' a = some o :=
  f.keep a o h fun i hi e => by
    obtain ⟨u, z, m⟩ := S.mut_at hi
    rw [e, h] at z
    injection z with z
    exact hl (z ▸ m)
theorem keepF (f : Fut W H W' H') (S : SOk p W H st) {a : Addr} {o : HO} (hf : W.F a) (h : H a = some o) : H' a = some o :=
  f.keep a o h fun i hi e => S.nf i hi (by rw [e]; exact hf)
/-- the weaker one: what trees lean on -/
structure Fw (W : Wd) (H : Hp) (W' : Wd) (H' : Hp) : Prop where
  fsub : ∀ a, W.F a → W'.F a
  mu : ∀ i, i < W.n → W'.mu i = W.mu i
  le : W.n ≤ W'.n
  keepF : ∀ a o, W.F a → H a = some o → H' a = some o
  keepT : ∀ a xs, H a = some (.tup xs) → H' a = some (.tup xs)
  keepZ : ∀ a o u, H a = some (.frz o u) → H' a = some (.frz o u)
theorem Fw.refl {W : Wd} {H : Hp} : Fw W H W H := ⟨fun _ h => h, fun _ _ => rfl, Nat.le_refl _, fun _ _ _ h => h, fun _ _ h => h, fun _ _ _ h => h⟩
theorem Fw.trans {W W1 W2 : Wd} {H H1 H2 : Hp} (a : Fw W H W1 H1) (b : Fw W1 H1 W2 H2) : Fw W H W2 H2 :=
  ⟨fun x h => b.fsub x (a.fsub x h), fun i h => (b.mu i (Nat.lt_of_lt_of_le h a.le)).trans (a.mu i h), Nat.le_trans a.le b.le, fun x o h1 h2 => b.keepF x o (a.fsub x h1) (a.keepF x o h1 h2), fun x xs h => b.keepT x xs (a.keepT x xs h), fun x o u h => b.keepZ x o u (a.keepZ x o u h)⟩
theorem Fut.fw (f : Fut W H W' H') (S : SOk p W H st) : Fw W H W' H' :=
  ⟨f.fsub, f.mu, f.le, fun _ _ hf h => keepF f S hf h, fun _ _ h => keepO f S h (fun z => z), fun _ _ _ h => keepO f S h (fun z => z)⟩
theorem sqT_keep {K : PySem.W.Frag} {a : Addr} {vs : List V} (f : Fw W H W' H') (h : SqT K H a vs) : SqT K H' a vs := by
  rcases h with (h | ⟨o, h⟩) | h
  · exact .inl (.inl (f.keepT a _ h))
  · exact .inl (.inr ⟨o, f.keepZ a _ _ h⟩)
  · exact .inr h
theorem sqL_keep {K : PySem.W.Frag} {a : Addr} {vs : List V} (f : Fw W H W' H') (hf : W.F a) (h : SqL K H a vs) : SqL K H' a vs := by
  rcases h with (h | ⟨o, h⟩) | h
  · exact .inl (.inl (f.keepF a _ hf h))
  · exact .inl (.inr ⟨o, f.keepF a _ hf h⟩)
  · exact .inr h
mutual
theorem Rep.fw (f : Fw W H W' H') : ∀ (d : D) (v : V), Rep p W H d v → Rep p W' H' d v
  | .non, _, h => h
  | .bl _, _, h => h
  | .int _, _, h => h
  | .str _, _, h => h
  | .tup xs, _, h => by
    obtain ⟨a, vs, e, hs, hr⟩ := h
    exact ⟨a, vs, e, sqT_keep f hs, RepL.fw f xs vs hr⟩
  | .lst xs, _, h => by
    obtain ⟨a, vs, e, hf, hs, hr⟩ := h
    exact ⟨a, vs, e, f.fsub a hf, f.keepF a _ hf hs, RepL.fw f xs vs hr⟩
  | .rol xs, _, h => by
    obtain ⟨a, vs, e, hf, hr⟩ := h
    refine ⟨a, vs, e, ?_, RepL.fw f xs vs hr⟩
    rcases hf with ⟨hf, hs⟩ | hs
    · exact .inl ⟨f.fsub a hf, sqL_keep f hf hs⟩
    · exact .inr hs
  | .ref n, _, h => by
    obtain ⟨h1, h2⟩ := h
    exact ⟨Nat.lt_of_lt_of_le h1 f.le, by rw [f.mu n h1]; exact h2⟩
  | .ins c ns fs, _, h => by
    obtain ⟨a, dx, vs, e, hf, hs, hr⟩ := h
    exact ⟨a, dx, vs, e, f.fsub a hf, f.keepF a _ hf hs, RepL.fw f fs vs hr⟩
  | .dct ks xs, _, h => by
    obtain ⟨a, vs, e, hf, hs, hr⟩ := h
    exact ⟨a, vs, e, f.fsub a hf, f.keepF a _ hf hs, RepL.fw f xs vs hr⟩
theorem RepL.fw (f : Fw W H W' H') : ∀ (ds : List D) (vs : List V), RepL p W H ds vs → RepL p W' H' ds vs
  | [], _, h => h
  | x :: xs, _, h => by
    obtain ⟨v, r, e, h1, h2⟩ := h
    exact ⟨v, r, e, Rep.fw f x v h1, RepL.fw f xs r h2⟩
end
theorem Rep.fut (f : Fut W H W' H') (S : SOk p W H st) (d : D) (v : V) (h : Rep p W H d v) : Rep p W' H' d v := Rep.fw (f.fw S) d v h
theorem RepL.fut (f : Fut W H W' H') (S : SOk p W H st) (ds : List D) (vs : List V) (h : RepL p W H ds vs) : RepL p W' H' ds vs := RepL.fw (f.fw S) ds vs h
/-- a list that is no still one and stands nowhere in the store stays as it is -/
theorem RepC.fut (f : Fut W H W' H') (S : SOk p W H st) {d : D} {a : Addr} (hn : ∀ i, i < W.n → W.mu i ≠ a) (h : RepC p W H d a) : RepC p W' H' d a := by
  cases d with
  | lst xs =>
    obtain ⟨vs, h1, h2⟩ := h
    exact ⟨vs, f.keep a _ h1 hn, RepL.fut f S xs vs h2⟩
  | ins c ns fs =>
    obtain ⟨dx, vs, h1, h2⟩ := h
    exact ⟨dx, vs, f.keep a _ h1 hn, RepL.fut f S fs vs h2⟩
  | dct ks xs =>
    obtain ⟨vs, h1, h2⟩ := h
    exact ⟨vs, f.keep a _ h1 hn, RepL.fut f S xs vs h2⟩
  | _ => exact h.elim
theorem RepC.some {d : D} {a : Addr} (h : RepC p W H d a) : ∃ o, H a = some o := by
  cases d with
  | lst xs =>
    obtain ⟨vs, h1, h2⟩ := h
    exact ⟨_, h1⟩
  | ins c ns fs =>
    obtain ⟨dx, vs, h1, h2⟩ := h
    exact ⟨_, h1⟩
  | dct ks xs =>
    obtain ⟨vs, h1, h2⟩ := h
    exact ⟨_, h1⟩
  | _ => exact h.elim
theorem RepC.moved (f : Fw W H W' H') {d : D} {a b : Addr} (h : RepC p W H d a) (hs : ∀ o, H a = .some o → H' b = .some o) : RepC p W' H' d b := by
  cases d with
  | lst xs =>
    obtain ⟨vs, h1, h2⟩ := h
    exact ⟨vs, hs _ h1, RepL.fw f xs vs h2⟩
  | ins c ns fs =>
    obtain ⟨dx, vs, h1, h2⟩ := h
    exact ⟨dx, vs, hs _ h1, RepL.fw f fs vs h2⟩
  | dct ks xs =>
    obtain ⟨vs, h1, h2⟩ := h
    exact ⟨vs, hs _ h1, RepL.fw f xs vs h2⟩
  | _ => exact h.elim
theorem RepC.mutO {d : D} {a : Addr} (h : RepC p W H d a) : ∃ o, H a = Option.some o ∧ MutO o := by
  cases d with
  | lst xs =>
    obtain ⟨vs, h1, h2⟩ := h
    exact ⟨_, h1, trivial⟩
  | ins c ns fs =>
    obtain ⟨dx, vs, h1, h2⟩ := h
    exact ⟨_, h1, trivial⟩
  | dct ks xs =>
    obtain ⟨vs, h1, h2⟩ := h
    exact ⟨_, h1, trivial⟩
  | _ => exact h.elim
theorem RepL.length : ∀ {ds : List D} {vs : List V}, RepL p W H ds vs → vs.length = ds.length
  | [], vs, h => by
    have h : vs = [] := h
    rw [h]
    rfl
  | x :: xs, vs, h => by
    obtain ⟨v, r, e, h1, h2⟩ := h
    rw [e, List.length_cons, List.length_cons, RepL.length h2]
theorem RepL.get : ∀ {ds : List D} {vs : List V} {i : Nat} {d : D}, RepL p W H ds vs → ds[i]? = .some d → ∃ v, vs[i]? = .some v ∧ Rep p W H d v
  | [], _, i, d, _, e => by simp at e
  | x :: xs, vs, 0, d, h, e => by
    obtain ⟨v, r, ev, h1, h2⟩ := h
    have e : x = d := by simpa using e
    subst e ev
    exact ⟨v, rfl, h1⟩
  | x :: xs, vs, i + 1, d, h, e => by
    obtain ⟨v, r, ev, h1, h2⟩ := h
    subst ev
    obtain ⟨w, q1, q2⟩ := RepL.get h2 (i := i) (d := d) (by simpa using e)
    exact ⟨w, by simpa using q1, q2⟩
theorem RepL.app : ∀ {ds es : List D} {vs ws : List V}, RepL p W H ds vs → RepL p W H es ws → RepL p W H (ds ++ es) (vs ++ ws)
  | [], es, vs, ws, h, h' => by
    have h : vs = [] := h
    subst h
    exact h'
  | x :: xs, es, vs, ws, h, h' => by
    obtain ⟨v, r, ev, h1, h2⟩ := h
    subst ev
    exact ⟨v, r ++ ws, rfl, h1, h2.app h'⟩
theorem RepL.one {d : D} {v : V} (h : Rep p W H d v) : RepL p W H [d] [v] := ⟨v, [], rfl, h, rfl⟩
theorem RepL.take : ∀ {ds : List D} {vs : List V} (k : Nat), RepL p W H ds vs → RepL p W H (ds.take k) (vs.take k)
  | _, _, 0, _ => by rw [List.take_zero, List.take_zero]; exact rfl
  | [], vs, k + 1, h => by
    have h : vs = [] := h
    subst h
    exact rfl
  | x :: xs, vs, k + 1, h => by
    obtain ⟨v, r, ev, h1, h2⟩ := h
    subst ev
    rw [List.take_succ_cons, List.take_succ_cons]
    exact ⟨v, _, rfl, h1, h2.take k⟩
theorem RepL.drop : ∀ {ds : List D} {vs : List V} (k : Nat), RepL p W H ds vs → RepL p W H (ds.drop k) (vs.drop k)
  | _, _, 0, h => by rw [List.drop_zero, List.drop_zero]; exact h
  | [], vs, k + 1, h => by
    have h : vs = [] := h
    subst h
    exact rfl
  | x :: xs, vs, k + 1, h => by
    obtain ⟨v, r, ev, h1, h2⟩ := h
    subst ev
    rw [List.drop_succ_cons, List.drop_succ_cons]
    exact h2.drop k
theorem RepL.set : ∀ {ds : List D} {vs : List V} {d : D} {v : V} (k : Nat), RepL p W H ds vs → Rep p W H d v → RepL p W H (ds.set k d) (vs.set k v)
  | [], vs, d, v, k, h, _ => by
    have h : vs = [] := h
    subst h
    exact rfl
  | x :: xs, vs, d, v, 0, h, hd => by
    obtain ⟨w, r, ev, h1, h2⟩ := h
    subst ev
    exact ⟨v, r, rfl, hd, h2⟩
  | x :: xs, vs, d, v, k + 1, h, hd => by
    obtain ⟨w, r, ev, h1, h2⟩ := h
    subst ev
    exact ⟨w, _, rfl, h1, h2.set k hd⟩
end

/-- what an expression told stands at v: Hs, the heap where it began -/
def RVr (p : Prm) (Hs : Hp) (W : Wd) (H : Hp) : RV → V → Prop
  | .val d, v => Rep p W H d v
  | .fresh d, v => ∃ a, v = .ref a ∧ RepC p W H d a ∧ ¬ W.F a ∧ (∀ i, i < W.n → W.mu i ≠ a) ∧ Hs a = none
  | .peek d, v => ∃ a, v = .ref a ∧ RepC p W H d a ∧ ¬ W.F a ∧ (∀ i, i < W.n → W.mu i ≠ a)
theorem RVr.fut {p : Prm} {Hs H H' : Hp} {W W' : Wd} {st : Store} (f : Fut W H W' H') (S : SOk p W H st) {x : RV} {v : V} (h : RVr p Hs W H x v) : RVr p Hs W' H' x v := by
  have go : ∀ {d : D} {a : Addr}, RepC p W H d a → ¬ W.F a → (∀ i, i < W.n → W.mu i ≠ a) → RepC p W' H' d a ∧ ¬ W'.F a ∧ (∀ i, i < W'.n → W'.mu i ≠ a) := by
    intro d a h1 h2 h3
    obtain ⟨o, ho⟩ := h1.some
    refine ⟨h1.fut f S h3, fun z => h2 (f.nf a o ho z), fun i hi e => ?_⟩
    by_cases hl : i < W.n
    · exact h3 i hl (by rw [← f.mu i hl]; exact e)
    · have z := f.dom i (Nat.le_of_not_lt hl) hi
      rw [e, ho] at z
      cases z
  cases x with
  | val d => exact Rep.fut f S d v h
  | fresh d =>
    obtain ⟨a, e, h1, h2, h3, h4⟩ := h
    obtain ⟨g1, g2, g3⟩ := go h1 h2 h3
    exact ⟨a, e, g1, g2, g3, h4⟩
  | peek d =>
    obtain ⟨a, e, h1, h2, h3⟩ := h
    obtain ⟨g1, g2, g3⟩ := go h1 h2 h3
    exact ⟨a, e, g1, g2, g3⟩
/-- told later is told from further back -/
theorem RVr.back {p : Prm} {Hs H H' : Hp} {W' : Wd} (hs : ∀ a, Hs a ≠ none → H a ≠ none) {x : RV} {v : V} (h : RVr p H W' H' x v) : RVr p Hs W' H' x v := by
  cases x with
  | val d => exact h
  | peek d => exact h
  | fresh d =>
    obtain ⟨a, e, h1, h2, h3, h4⟩ := h
    refine ⟨a, e, h1, h2, h3, ?_⟩
    cases q : Hs a with
    | none => rfl
    | some o => exact absurd h4 (hs a (some_ne q))
end Tz

set_option Elab.async false
set_option linter.all false
set_option maxRecDepth 100000
set_option maxHeartbeats 4000000
/-! Ts2: what holds between statements; the readings of the combinators; expressions. -/
namespace Tz
open PySem L2

section
variable {p : Prm} {W W1 W' : Wd} {H H1 H' Hs : Hp} {st : Store} {a : Addr} {o : HO}
/-- a still thing more -/
def Wd.add (W : Wd) (a : Addr) : Wd := { W with F := fun b => W.F b ∨ b = a }
theorem SOk.ne (S : SOk p W H st) (h : H a = none) : ∀ i, i < W.n → W.mu i ≠ a := fun i hi e => by
  obtain ⟨u, z, _⟩ := S.mut_at hi
  rw [e, h] at z
  cases z
theorem SOk.nF (S : SOk p W H st) (h : H a = none) : ¬ W.F a := fun z => S.fok a z h
/-- a new thing, no still one -/
theorem Fut.laid (S : SOk p W H st) (h : H a = none) : Fut W H W (upd H a o) :=
  ⟨fun _ z => z, fun _ _ => rfl, fun b u e _ => by rw [upd_ne (ne_of_none e h)]; exact e, fun _ _ _ z => z, fun i h1 h2 => absurd h1 (Nat.not_le.mpr h2), Nat.le_refl _, fun b z => by
    cases q : H b with
    | none => exact absurd q z
    | some u => rw [upd_ne (ne_of_none q h), q]; exact fun z => by cases z⟩
theorem SOk.laid (S : SOk p W H st) (h : H a = none) : SOk p W (upd H a o) st := by
  have f := Fut.laid (o := o) S h
  refine ⟨S.len, fun n d e => ?_, S.nf, S.inj, fun b z => f.tr b (S.fok b z)⟩
  have hn : n < W.n := by rw [← S.len]; exact (List.getElem?_eq_some_iff.mp e).1
  have c := S.at_ n d e
  exact c.moved (f.fw S) fun u h1 => by rw [upd_ne (ne_of_none h1 h)]; exact h1
/-- a thing that was not there at the start is still from now on -/
theorem Fut.still (f : Fut W1 H1 W H) (h : H1 a = none) : Fut W1 H1 (W.add a) H :=
  ⟨fun b z => .inl (f.fsub b z), f.mu, f.keep, fun b u e z => (by
    rcases z with z | z
    · exact f.nf b u e z
    · rw [z, h] at e
      cases e), f.dom, f.le, f.tr⟩
mutual
theorem Rep.add (a : Addr) : ∀ (d : D) (v : V), Rep p W H d v → Rep p (W.add a) H d v
  | .non, _, h => h
  | .bl _, _, h => h
  | .int _, _, h => h
  | .str _, _, h => h
  | .tup xs, _, h => by
    obtain ⟨b, vs, e, hs, hr⟩ := h
    exact ⟨b, vs, e, hs, RepL.add a xs vs hr⟩
  | .lst xs, _, h => by
    obtain ⟨b, vs, e, hf, hs, hr⟩ := h
    exact ⟨b, vs, e, .inl hf, hs, RepL.add a xs vs hr⟩
  | .rol xs, _, h => by
    obtain ⟨b, vs, e, hf, hr⟩ := h
    refine ⟨b, vs, e, ?_, RepL.add a xs vs hr⟩
    rcases hf with ⟨hf, hs⟩ | hs
    · exact .inl ⟨.inl hf, hs⟩
    · exact .inr hs
  | .ref n, _, h => h
  | .ins c ns fs, _, h => by
    obtain ⟨b, dx, vs, e, hf, hs, hr⟩ := h
    exact ⟨b, dx, vs, e, .inl hf, hs, RepL.add a fs vs hr⟩
  | .dct ks xs, _, h => by
    obtain ⟨b, vs, e, hf, hs, hr⟩ := h
    exact ⟨b, vs, e, .inl hf, hs, RepL.add a xs vs hr⟩
theorem RepL.add (a : Addr) : ∀ (ds : List D) (vs : List V), RepL p W H ds vs → RepL p (W.add a) H ds vs
  | [], _, h => h
  | x :: xs, _, h => by
    obtain ⟨v, r, e, h1, h2⟩ := h
    exact ⟨v, r, e, Rep.add a x v h1, RepL.add a xs r h2⟩
end
theorem RepC.add {d : D} {b : Addr} (a : Addr) (h : RepC p W H d b) : RepC p (W.add a) H d b := by
  cases d with
  | lst xs =>
    obtain ⟨vs, h1, h2⟩ := h
    exact ⟨vs, h1, RepL.add a xs vs h2⟩
  | ins c ns fs =>
    obtain ⟨dx, vs, h1, h2⟩ := h
    exact ⟨dx, vs, h1, RepL.add a fs vs h2⟩
  | dct ks xs =>
    obtain ⟨vs, h1, h2⟩ := h
    exact ⟨vs, h1, RepL.add a xs vs h2⟩
  | _ => exact h.elim
theorem RepC.still {d : D} {a : Addr} (h : RepC p W H d a) : Rep p (W.add a) H d (.ref a) := by
  cases d with
  | lst xs =>
    obtain ⟨vs, h1, h2⟩ := h
    exact ⟨a, vs, rfl, .inr rfl, h1, RepL.add a xs vs h2⟩
  | ins c ns fs =>
    obtain ⟨dx, vs, h1, h2⟩ := h
    exact ⟨a, dx, vs, rfl, .inr rfl, h1, RepL.add a fs vs h2⟩
  | dct ks xs =>
    obtain ⟨vs, h1, h2⟩ := h
    exact ⟨a, vs, rfl, .inr rfl, h1, RepL.add a xs vs h2⟩
  | _ => exact h.elim
/-- a tree that stands at an address of its own -/
def boxD : D → Bool
  | .lst _ => true
  | .ins _ _ _ => true
  | .dct _ _ => true
  | _ => false
theorem RepC.box {d : D} {a : Addr} (h : RepC p W H d a) : boxD d = true := by
  cases d <;> first
    | rfl
    | exact h.elim
theorem SOk.still (S : SOk p W H st) (hn : ∀ i, i < W.n → W.mu i ≠ a) (h : H a ≠ none) : SOk p (W.add a) H st :=
  ⟨S.len, fun n d e => (S.at_ n d e).add a, fun n hn' z => by
    rcases z with z | z
    · exact S.nf n hn' z
    · exact hn n hn' z, S.inj, fun b z => by
    rcases z with z | z
    · exact S.fok b z
    · rw [z]; exact h⟩
/-- what was told, as a value that stays -/
theorem RVr.toVal {x : RV} {v : V} {d : D} (S : SOk p W H st) (h : RVr p Hs W H x v) (e : x.toVal = some d) :
    ∃ W', SOk p W' H st ∧ Rep p W' H d v ∧ (∀ {V1 : Wd} {G1 : Hp}, Fut V1 G1 W H → (∀ b, Hs b = none → G1 b = none) → Fut V1 G1 W' H) := by
  cases x with
  | val y =>
    injection e with e
    subst e
    exact ⟨W, S, h, fun f _ => f⟩
  | peek y => cases e
  | fresh y =>
    injection e with e
    subst e
    obtain ⟨a, rfl, h1, h2, h3, h4⟩ := h
    obtain ⟨o, ho⟩ := h1.some
    refine ⟨W.add a, S.still h3 (some_ne ho), ?_, fun f hb => f.still (hb a h4)⟩
    exact h1.still
/-- a list behind what was told -/
theorem RVr.list {x : RV} {v : V} {xs : List D} (S : SOk p W H st) (h : RVr p Hs W H x v) (e : asL st x = some xs) : ∃ a vs, v = .ref a ∧ SqL p.K H a vs ∧ RepL p W H xs vs := by
  have cc : ∀ {d : D} {a : Addr}, RepC p W H d a → asL st (.val d) = some xs → ∃ vs, SqL p.K H a vs ∧ RepL p W H xs vs := by
    intro d a h e
    cases d with
    | lst ys =>
      injection e with e
      subst e
      obtain ⟨vs, q1, q2⟩ := h
      exact ⟨vs, SqL.of q1, q2⟩
    | _ => first
      | exact h.elim
      | cases e
  cases x with
  | val d =>
    cases d with
    | lst ys =>
      injection e with e
      subst e
      obtain ⟨a, vs, e, _, q1, q2⟩ := h
      exact ⟨a, vs, e, SqL.of q1, q2⟩
    | rol ys =>
      injection e with e
      subst e
      obtain ⟨a, vs, e, q1, q2⟩ := h
      refine ⟨a, vs, e, ?_, q2⟩
      rcases q1 with ⟨_, q⟩ | q
      · exact q
      · exact q H
    | ref n =>
      obtain ⟨h1, h2⟩ := h
      have e' : (match st[n]? with | some (.lst xs) => some xs | _ => none) = some xs := e
      cases q : st[n]? with
      | none => rw [q] at e'; cases e'
      | some d =>
        rw [q] at e'
        have c := S.at_ n d q
        cases d with
        | lst ys =>
          injection e' with e'
          subst e'
          obtain ⟨vs, q1, q2⟩ := c
          exact ⟨_, vs, h2, SqL.of q1, q2⟩
        | _ => first
          | exact c.elim
          | cases e'
    | _ => cases e
  | fresh d =>
    obtain ⟨a, rfl, h1, _⟩ := h
    obtain ⟨vs, q⟩ := cc h1 e
    exact ⟨a, vs, rfl, q⟩
  | peek d =>
    obtain ⟨a, rfl, h1, _⟩ := h
    obtain ⟨vs, q⟩ := cc h1 e
    exact ⟨a, vs, rfl, q⟩
/-- what was told is no list of its own: the tree is the value's -/
theorem RVr.plain {x : RV} {v : V} (h : RVr p Hs W H x v) (hn : boxD x.d = false) : Rep p W H x.d v := by
  cases x with
  | val d => exact h
  | fresh d =>
    obtain ⟨a, _, h1, _⟩ := h
    exact absurd (h1.box.symm.trans hn) (fun z => by cases z)
  | peek d =>
    obtain ⟨a, _, h1, _⟩ := h
    exact absurd (h1.box.symm.trans hn) (fun z => by cases z)
end

/-- between two statements of a def that was entered at (W0, H0) -/
structure Good (p : Prm) (W0 : Wd) (H0 : Hp) (W : Wd) (σ : L2.St) (H : Hp) (r : Rho) (st : Store) : Prop where
  fut : Fut W0 H0 W H
  ok : SOk p W H st
  len : σ.length = r.length
  val : ∀ (i : Nat) d, r[i]? = some (.val d) → ∃ v, σ[i]? = some (some v) ∧ Rep p W H d v
  own : ∀ (i : Nat) d, r[i]? = some (.own d) → ∃ a, σ[i]? = some (some (.ref a)) ∧ RepC p W H d a ∧ ¬ W.F a ∧ (∀ k, k < W.n → W.mu k ≠ a) ∧ H0 a = none
  one : ∀ (i j : Nat) d e a, r[i]? = some (.own d) → r[j]? = some (.own e) → σ[i]? = some (some (.ref a)) → σ[j]? = some (some (.ref a)) → i = j
section
variable {p : Prm} {W0 W W' : Wd} {H0 H H' : Hp} {σ : L2.St} {r : Rho} {st st' : Store}
theorem Good.to (G : Good p W0 H0 W σ H r st) (f : Fut W H W' H') (S : SOk p W' H' st') : Good p W0 H0 W' σ H' r st' where
  fut := G.fut.trans f
  ok := S
  len := G.len
  val := fun i d e => by
    obtain ⟨v, h1, h2⟩ := G.val i d e
    exact ⟨v, h1, Rep.fut f G.ok d v h2⟩
  own := fun i d e => by
    obtain ⟨a, h1, h2, h3, h4, h5⟩ := G.own i d e
    have z : RVr p H0 W H (.peek d) (.ref a) := ⟨a, rfl, h2, h3, h4⟩
    obtain ⟨b, q, k2, k3, k4⟩ := z.fut f G.ok
    injection q with q
    subst q
    exact ⟨a, h1, k2, k3, k4, h5⟩
  one := G.one
/-- a slot read -/
theorem Good.read (G : Good p W0 H0 W σ H r st) {i : Nat} {x : RV} (h : eVar i r st = some (.ok x st')) : st' = st ∧ ∃ v, σ[i]? = some (some v) ∧ RVr p H W H x v := by
  unfold eVar at h
  cases q : r[i]? with
  | none => rw [q] at h; cases h
  | some s =>
    rw [q] at h
    cases s with
    | no => cases h
    | val d =>
      injection h with h
      injection h with h1 h2
      subst h1
      obtain ⟨v, e, q⟩ := G.val i d q
      exact ⟨h2.symm, v, e, q⟩
    | own d =>
      injection h with h
      injection h with h1 h2
      subst h1
      obtain ⟨a, e, q2, q3, q4, q5⟩ := G.own i d q
      exact ⟨h2.symm, _, e, a, rfl, q2, q3, q4⟩
end

/-- an exception of ours, by its class and its own dict -/
def RepEx (p : Prm) (W : Wd) (H : Hp) (e : Ex) (c : Value) (d : Option Addr) : Prop := c = .ref (p.cX e.cls) ∧ match p.xF e.cls with
  | none => True
  | some f => ∃ dd v, d = some dd ∧ H dd = some (.xd [(f, v)]) ∧ Rep p W H e.fld v
/-! ### readings -/
def okE (p : Prm) (Wx : WX) (W : Wd) (σ : L2.St) (H : Hp) (Q : VK) : Option ER → Prop
  | none => False
  | some (.ok v st') => ∀ W' H' x, Fut W H W' H' → SOk p W' H' st' → RVr p H W' H' v x → Q x H'
  | some (.exc e st') => ∀ W' H' c d, Fut W H W' H' → SOk p W' H' st' → RepEx p W' H' e c d → Wx c d σ H'
def okT (p : Prm) (Wx : WX) (W : Wd) (σ : L2.St) (H : Hp) (Q : Bool → Hp → Prop) : Option TR → Prop
  | none => False
  | some (.ok b st') => ∀ W' H', Fut W H W' H' → SOk p W' H' st' → Q b H'
  | some (.exc e st') => ∀ W' H' c d, Fut W H W' H' → SOk p W' H' st' → RepEx p W' H' e c d → Wx c d σ H'
def okA (p : Prm) (Wx : WX) (W : Wd) (σ : L2.St) (H : Hp) (Q : List V → Hp → Prop) : Option AR → Prop
  | none => False
  | some (.ok ds st') => ∀ W' H' xs, Fut W H W' H' → SOk p W' H' st' → RepL p W' H' ds xs → Q xs H'
  | some (.exc e st') => ∀ W' H' c d, Fut W H W' H' → SOk p W' H' st' → RepEx p W' H' e c d → Wx c d σ H'
def tE (p : Prm) (Wx : WX) (f : ESem) : TE := fun σ H Q => ∃ W0 H0 W r st, Good p W0 H0 W σ H r st ∧ okE p Wx W σ H Q (f r st)
def tT (p : Prm) (Wx : WX) (f : TSem) : TT := fun σ H Q => ∃ W0 H0 W r st, Good p W0 H0 W σ H r st ∧ okT p Wx W σ H Q (f r st)
def tA (p : Prm) (Wx : WX) (f : ASem) : TA := fun σ H Q => ∃ W0 H0 W r st, Good p W0 H0 W σ H r st ∧ okA p Wx W σ H Q (f r st)
/-- an operation on two told things, on one -/
def r2 (p : Prm) (fn : Store → RV → RV → Option RV) : R2 := fun x y H Q => ∃ W st Hs u v z, SOk p W H st ∧ RVr p Hs W H u x ∧ RVr p Hs W H v y ∧ fn st u v = some z ∧
  ∀ W' H' w, Fut W H W' H' → SOk p W' H' st → RVr p H W' H' z w → Q w H'
def r1 (p : Prm) (fn : Store → RV → Option RV) : V → Hp → VK → Prop := fun x H Q => ∃ W st Hs u z, SOk p W H st ∧ RVr p Hs W H u x ∧ fn st u = some z ∧
  ∀ W' H' w, Fut W H W' H' → SOk p W' H' st → RVr p H W' H' z w → Q w H'
/-- a built-in of values -/
def rN (p : Prm) (fn : Store → List D → Option RV) : List V → Hp → VK → Prop := fun xs H Q => ∃ W st ds z, SOk p W H st ∧ RepL p W H ds xs ∧ fn st ds = some z ∧
  ∀ W' H' w, Fut W H W' H' → SOk p W' H' st → RVr p H W' H' z w → Q w H'
section
variable {X : Cx} {p : Prm} {Wx : WX} {f g h : ESem} {e e1 e2 e3 : Expr} {t u : TSem} {al : ASem}
theorem _root_.L2.PE.weak {t t' : TE} (h : PE X e t) (w : ∀ σ H Q, t' σ H Q → t σ H Q) : PE X e t' := ⟨fun pins s σ H Q I q => h.run pins s σ H Q I (w σ H Q q)⟩
theorem _root_.L2.PT.weak {t t' : TT} (h : PT X e t) (w : ∀ σ H Q, t' σ H Q → t σ H Q) : PT X e t' := ⟨fun pins s σ H Q I q => h.run pins s σ H Q I (w σ H Q q)⟩
theorem _root_.L2.PW.weak {t t' : TT} (h : PW X e t) (w : ∀ σ H Q, t' σ H Q → t σ H Q) : PW X e t' := ⟨fun wh pins s σ H Q I q => h.run wh pins s σ H Q I (w σ H Q q)⟩
theorem _root_.L2.PA.weak {es : List Expr} {t t' : TA} (h : PA X es t) (w : ∀ σ H Q, t' σ H Q → t σ H Q) : PA X es t' := ⟨fun pos pins s σ H Q I q => h.run pos pins s σ H Q I (w σ H Q q)⟩
/-- one step: where f goes, the rest goes on -/
theorem tE_bind {σ : L2.St} {H : Hp} {W0 W : Wd} {H0 : Hp} {r : Rho} {st : Store} (G : Good p W0 H0 W σ H r st) {Q : VK}
    (hok : ∀ v st1, f r st = some (.ok v st1) → ∀ W1 H1 x, Fut W H W1 H1 → SOk p W1 H1 st1 → RVr p H W1 H1 v x → Good p W0 H0 W1 σ H1 r st1 → Q x H1)
    (hex : ∀ e st1, f r st = some (.exc e st1) → ∀ W1 H1 c d, Fut W H W1 H1 → SOk p W1 H1 st1 → RepEx p W1 H1 e c d → Wx c d σ H1)
    (hno : f r st ≠ none) : tE p Wx f σ H Q := by
  refine ⟨W0, H0, W, r, st, G, ?_⟩
  cases q : f r st with
  | none => exact absurd q hno
  | some y =>
    cases y with
    | ok v st1 => exact fun W1 H1 x f1 S1 R1 => hok v st1 q W1 H1 x f1 S1 R1 (G.to f1 S1)
    | exc e st1 => exact fun W1 H1 c d f1 S1 R1 => hex e st1 q W1 H1 c d f1 S1 R1
theorem tT_bind {σ : L2.St} {H : Hp} {W0 W : Wd} {H0 : Hp} {r : Rho} {st : Store} (G : Good p W0 H0 W σ H r st) {Q : Bool → Hp → Prop}
    (hok : ∀ b st1, t r st = some (.ok b st1) → ∀ W1 H1, Fut W H W1 H1 → SOk p W1 H1 st1 → Good p W0 H0 W1 σ H1 r st1 → Q b H1)
    (hex : ∀ e st1, t r st = some (.exc e st1) → ∀ W1 H1 c d, Fut W H W1 H1 → SOk p W1 H1 st1 → RepEx p W1 H1 e c d → Wx c d σ H1)
    (hno : t r st ≠ none) : tT p Wx t σ H Q := by
  refine ⟨W0, H0, W, r, st, G, ?_⟩
  cases q : t r st with
  | none => exact absurd q hno
  | some y =>
    cases y with
    | ok v st1 => exact fun W1 H1 f1 S1 => hok v st1 q W1 H1 f1 S1 (G.to f1 S1)
    | exc e st1 => exact fun W1 H1 c d f1 S1 R1 => hex e st1 q W1 H1 c d f1 S1 R1
theorem tA_bind {σ : L2.St} {H : Hp} {W0 W : Wd} {H0 : Hp} {r : Rho} {st : Store} (G : Good p W0 H0 W σ H r st) {Q : List V → Hp → Prop}
    (hok : ∀ ds st1, al r st = some (.ok ds st1) → ∀ W1 H1 xs, Fut W H W1 H1 → SOk p W1 H1 st1 → RepL p W1 H1 ds xs → Good p W0 H0 W1 σ H1 r st1 → Q xs H1)
    (hex : ∀ e st1, al r st = some (.exc e st1) → ∀ W1 H1 c d, Fut W H W1 H1 → SOk p W1 H1 st1 → RepEx p W1 H1 e c d → Wx c d σ H1)
    (hno : al r st ≠ none) : tA p Wx al σ H Q := by
  refine ⟨W0, H0, W, r, st, G, ?_⟩
  cases q : al r st with
  | none => exact absurd q hno
  | some y =>
    cases y with
    | ok v st1 => exact fun W1 H1 xs f1 S1 R1 => hok v st1 q W1 H1 xs f1 S1 R1 (G.to f1 S1)
    | exc e st1 => exact fun W1 H1 c d f1 S1 R1 => hex e st1 q W1 H1 c d f1 S1 R1
theorem Fut.none {W W1 : Wd} {H H1 : Hp} (f : Fut W H W1 H1) : ∀ a, H1 a = none → H a = none := fun a h => by
  cases q : H a with
  | none => rfl
  | some o => exact absurd h (f.tr a (some_ne q))
theorem pe_stuck : PE X e (tE p Wx eStuck) := ⟨fun _ _ _ _ _ _ ⟨_, _, _, _, _, _, z⟩ => z.elim⟩
theorem pt_stuck : PT X e (tT p Wx tStuck) := ⟨fun _ _ _ _ _ _ ⟨_, _, _, _, _, _, z⟩ => z.elim⟩
theorem pe_const {v : V} {d : D} (h : PE X e (tC v)) (hr : ∀ W H, Rep p W H d v) : PE X e (tE p Wx (eC d)) := by
  refine h.weak fun σ H Q ⟨W0, H0, W, r, st, G, q⟩ => ?_
  exact q W H v Fut.refl G.ok (hr W H)
theorem pe_slot {i : Nat} (h : PE X e (tVar i)) : PE X e (tE p Wx (eVar i)) := by
  refine h.weak fun σ H Q ⟨W0, H0, W, r, st, G, q⟩ => ?_
  cases z : eVar i r st with
  | none => rw [z] at q; exact q.elim
  | some y =>
    rw [z] at q
    cases y with
    | ok v st1 =>
      obtain ⟨rfl, x, h1, h2⟩ := G.read z
      exact ⟨x, h1, q W H x Fut.refl G.ok h2⟩
    | exc x st1 =>
      unfold eVar at z
      split at z <;> cases z
/-- two operands and an operation on them -/
theorem op2_weak {fn : Store → RV → RV → Option RV} {σ : L2.St} {H : Hp} {Q : VK} (w : tE p Wx (eOp2 fn f g) σ H Q) : tOp (r2 p fn) (tE p Wx f) (tE p Wx g) σ H Q := by
  obtain ⟨W0, H0, W, r, st, G, q⟩ := w
  unfold eOp2 at q
  refine tE_bind G (fun v st1 e1 W1 H1 x f1 S1 R1 G1 => ?_) (fun e st1 e1 => ?_) (fun z => ?_)
  · rw [e1] at q
    refine tE_bind G1 (fun w st2 e2 W2 H2 y f2 S2 R2 G2 => ?_) (fun e st2 e2 W2 H2 c d f2 S2 R2 => ?_) (fun z => ?_)
    · simp only [e2] at q
      cases ez : fn st2 v w with
      | none => rw [ez] at q; exact q.elim
      | some z =>
        rw [ez] at q
        exact ⟨W2, st2, H, v, w, z, S2, R1.fut f2 S1, R2.back fun a => f1.tr a, ez, fun W3 H3 y3 f3 S3 R3 => q W3 H3 y3 (f1.trans (f2.trans f3)) S3 (R3.back fun a h => f2.tr a (f1.tr a h))⟩
    · simp only [e2] at q
      exact q W2 H2 c d (f1.trans f2) S2 R2
    · simp only [z] at q
      exact q.elim
  · rw [e1] at q
    exact q
  · rw [z] at q
    exact q
theorem pe_bin {op : Operator} {fn : Store → RV → RV → Option RV} {pos : Pos} (ho : OpR X (binaryOp op) (r2 p fn)) (ha : PE X e1 (tE p Wx f)) (hb : PE X e2 (tE p Wx g)) : PE X (.BinOp e1 op e2 pos) (tE p Wx (eOp2 fn f g)) :=
  (pe_op ho ha hb).weak fun _ _ _ => op2_weak
theorem pe_cmp2 {op : CmpOp} {fn : Store → RV → RV → Option RV} {pos : Pos} (ho : OpR X (compareOp op) (r2 p fn)) (ha : PE X e1 (tE p Wx f)) (hb : PE X e2 (tE p Wx g)) (hm : behindInMarks op e2 = false) : PE X (.Compare e1 [op] [e2] pos) (tE p Wx (eOp2 fn f g)) :=
  (pe_cmpR ho ha hb hm).weak fun _ _ _ => op2_weak
theorem pe_ix2 {fn : Store → RV → RV → Option RV} {pos : Pos} (ho : IxR X (r2 p fn)) (ha : PE X e1 (tE p Wx f)) (hb : PE X e2 (tE p Wx g)) (hm : PlainIx e2) : PE X (.Subscript e1 e2 pos) (tE p Wx (eOp2 fn f g)) :=
  (pe_ix ho ha hb hm).weak fun _ _ _ => op2_weak
theorem op1_weak {fn : Store → RV → Option RV} {σ : L2.St} {H : Hp} {Q : VK} (w : tE p Wx (eOp1 fn f) σ H Q) : tUn (r1 p fn) (tE p Wx f) σ H Q := by
  obtain ⟨W0, H0, W, r, st, G, q⟩ := w
  unfold eOp1 at q
  refine tE_bind G (fun v st1 e1 W1 H1 x f1 S1 R1 G1 => ?_) (fun e st1 e1 => ?_) (fun z => ?_)
  · simp only [e1] at q
    cases ez : fn st1 v with
    | none => rw [ez] at q; exact q.elim
    | some z =>
      rw [ez] at q
      exact ⟨W1, st1, H, v, z, S1, R1, ez, fun W3 H3 y3 f3 S3 R3 => q W3 H3 y3 (f1.trans f3) S3 (R3.back fun a h => f1.tr a h)⟩
  · simp only [e1] at q
    exact q
  · simp only [z] at q
    exact q
theorem pe_un1 {op : UnaryOp} {fn : Store → RV → Option RV} {pos : Pos} (ho : UnR X (unaryOp op) (r1 p fn)) (ha : PE X e1 (tE p Wx f)) : PE X (.UnaryOp op e1 pos) (tE p Wx (eOp1 fn f)) :=
  (pe_un ho ha).weak fun _ _ _ => op1_weak
/-- arguments -/
theorem pa_nilS : PA X [] (tA p Wx aNil) := pa_nil.weak fun σ H Q ⟨W0, H0, W, r, st, G, q⟩ => q W H [] Fut.refl G.ok rfl
theorem pa_consS {es : List Expr} (ha : PE X e (tE p Wx f)) (hr : PA X es (tA p Wx al)) (hs : starEach (e :: es) X.env = (false, eval e X.env) :: starEach es X.env) : PA X (e :: es) (tA p Wx (aCons f al)) := by
  refine (pa_cons ha hr hs).weak fun σ H Q ⟨W0, H0, W, r, st, G, q⟩ => ?_
  unfold aCons at q
  refine tE_bind G (fun v st1 e1 W1 H1 x f1 S1 R1 G1 => ?_) (fun e st1 e1 => ?_) (fun z => ?_)
  · simp only [e1] at q
    cases ev : v.toVal with
    | none => rw [ev] at q; exact q.elim
    | some d =>
      rw [ev] at q
      obtain ⟨W1', S1', R1', mk⟩ := R1.toVal S1 ev
      have f1' := mk f1 fun _ z => z
      refine tA_bind (G.to f1' S1') (fun ds st2 e2 W2 H2 xs f2 S2 R2 G2 => ?_) (fun e st2 e2 W2 H2 c d f2 S2 R2 => ?_) (fun z => ?_)
      · simp only [e2] at q
        exact q W2 H2 (x :: xs) (f1'.trans f2) S2 ⟨x, xs, rfl, Rep.fut f2 S1' d x R1', R2⟩
      · simp only [e2] at q
        exact q W2 H2 c d (f1'.trans f2) S2 R2
      · simp only [z] at q
        exact q.elim
  · simp only [e1] at q
    exact q
  · simp only [z] at q
    exact q
theorem lim_le {n : Nat} (h : n ≤ lim) : n ≤ sizeLine := by
  rw [sizeLine_eq]
  unfold lim at h
  omega
theorem lim_lt {n : Nat} (h : n < lim) : n < sizeLine := by
  rw [sizeLine_eq]
  unfold lim at h
  omega
/-- a new list, a new tuple -/
theorem fresh_mk {W : Wd} {H : Hp} {st : Store} {a : Addr} {xs : List D} {vs : List V} (S : SOk p W H st) (hn : H a = none) (hr : RepL p W H xs vs) :
    RVr p H W (upd H a (.lst vs)) (.fresh (.lst xs)) (.ref a) := ⟨a, rfl, ⟨vs, upd_same, RepL.fut (Fut.laid S hn) S xs vs hr⟩, S.nF hn, S.ne hn, hn⟩
theorem tup_mk {W : Wd} {H Hs : Hp} {st : Store} {a : Addr} {xs : List D} {vs : List V} (S : SOk p W H st) (hn : H a = none) (hr : RepL p W H xs vs) :
    RVr p Hs W (upd H a (.tup vs)) (.val (.tup xs)) (.ref a) := ⟨a, vs, rfl, SqT.of upd_same, RepL.fut (Fut.laid S hn) S xs vs hr⟩
theorem pe_tupS {es : List Expr} {k : Nat} {pos : Pos} (ha : PA X es (tA p Wx al)) : PE X (.Tuple es k pos) (tE p Wx (eTup al)) := by
  refine (pe_tup ha).weak fun σ H Q ⟨W0, H0, W, r, st, G, q⟩ => ?_
  unfold eTup at q
  refine tA_bind G (fun ds st1 e1 W1 H1 xs f1 S1 R1 G1 => ?_) (fun e st1 e1 => ?_) (fun z => ?_)
  · simp only [e1] at q
    by_cases hl : ds.length ≤ lim
    · rw [if_pos hl] at q
      refine ⟨by rw [R1.length]; exact lim_le hl, fun a hn => ?_⟩
      exact q W1 _ _ (f1.trans (Fut.laid S1 hn)) (S1.laid hn) (tup_mk S1 hn R1)
    · rw [if_neg hl] at q
      exact q.elim
  · simp only [e1] at q
    exact q
  · simp only [z] at q
    exact q
theorem pe_lstS {es : List Expr} {pos : Pos} (ha : PA X es (tA p Wx al)) : PE X (.List es pos) (tE p Wx (eLst al)) := by
  refine (pe_lst ha).weak fun σ H Q ⟨W0, H0, W, r, st, G, q⟩ => ?_
  unfold eLst at q
  refine tA_bind G (fun ds st1 e1 W1 H1 xs f1 S1 R1 G1 => ?_) (fun e st1 e1 => ?_) (fun z => ?_)
  · simp only [e1] at q
    by_cases hl : ds.length ≤ lim
    · rw [if_pos hl] at q
      refine ⟨by rw [R1.length]; exact lim_le hl, fun a hn => ?_⟩
      exact q W1 _ _ (f1.trans (Fut.laid S1 hn)) (S1.laid hn) ((fresh_mk S1 hn R1).back fun a h => f1.tr a h)
    · rw [if_neg hl] at q
      exact q.elim
  · simp only [e1] at q
    exact q
  · simp only [z] at q
    exact q
/-- a built-in called with values -/
theorem blt_weak {fn : Store → List D → Option RV} {σ : L2.St} {H : Hp} {Q : VK} (w : tE p Wx (eBlt fn al) σ H Q) : tCB (rN p fn) (tA p Wx al) σ H Q := by
  obtain ⟨W0, H0, W, r, st, G, q⟩ := w
  unfold eBlt at q
  refine tA_bind G (fun ds st1 e1 W1 H1 xs f1 S1 R1 G1 => ?_) (fun e st1 e1 => ?_) (fun z => ?_)
  · simp only [e1] at q
    cases ez : fn st1 ds with
    | none => rw [ez] at q; exact q.elim
    | some z =>
      rw [ez] at q
      exact ⟨W1, st1, ds, z, S1, R1, ez, fun W3 H3 y3 f3 S3 R3 => q W3 H3 y3 (f1.trans f3) S3 (R3.back fun a h => f1.tr a h)⟩
  · simp only [e1] at q
    exact q
  · simp only [z] at q
    exact q
/-- .. with one told thing -/
theorem blt1_weak {fn : Store → RV → Option RV} {σ : L2.St} {H : Hp} {Q : VK} (w : tE p Wx (eOp1 fn f) σ H Q) : tCB (fun vs H Q => ∃ v, vs = [v] ∧ r1 p fn v H Q) (tCons (tE p Wx f) tNil) σ H Q := by
  have q := op1_weak w
  obtain ⟨W0, H0, W, r, st, G, q⟩ := q
  refine ⟨W0, H0, W, r, st, G, ?_⟩
  cases z : f r st with
  | none => rw [z] at q; exact q.elim
  | some y =>
    rw [z] at q
    cases y with
    | ok v st1 => exact fun W1 H1 x f1 S1 R1 => ⟨x, rfl, q W1 H1 x f1 S1 R1⟩
    | exc e st1 => exact q
end
end Tz

set_option Elab.async false
set_option linter.all false
set_option maxRecDepth 100000
set_option maxHeartbeats 4000000
/-! Ts3: calls of defs, tests, comprehensions, targets, statements. -/
namespace Tz
open PySem L2 PyProof.Rows

/-! ### what a def does, as a promise -/
def okF (p : Prm) (W : Wd) (H : Hp) (Q : VK) (E : XK) : Option FR → Prop
  | none => False
  | some (.ret v st') => ∀ W' H' x, Fut W H W' H' → SOk p W' H' st' → RVr p H W' H' v x → Q x H'
  | some (.exc e st') => ∀ W' H' c d, Fut W H W' H' → SOk p W' H' st' → RepEx p W' H' e c d → E c d H'
def spF (p : Prm) (F : FSem) : Sp := fun vs H Q E => ∃ W st ds, SOk p W H st ∧ RepL p W H ds vs ∧ okF p W H Q E (F ds st)
/-- a module's name called with np positional values and keywords ks; ds in the written order -/
def CallOk (X : Cx) (p : Prm) (x : Str) (np : Nat) (ks : List Str) (F : FSem) : Prop :=
  ∃ u, X.mg x = some u ∧ PySem.W.keepIn X.K u = true ∧ ∀ (E : L2.St → XK) (pins : List (Addr × Obj)) (σ : L2.St) (H : Hp) (s : Shared) (Q : VK) (us ws : List Value) (vs zs : List V),
    PassesAt (L2.CX X.prog X.w) X σ (E σ) → Inv X pins σ H s → Vals vs us → Vals zs ws → vs.length = np → zs.length = ks.length → spF p F (vs ++ zs) H Q (E σ) →
      wpAny (model X.prog X.w) X.A (call u us (ks.zip ws)) (EP X pins σ Q) X.xe s

def notStar : Expr → Bool
  | .Starred _ _ => false
  | _ => true
theorem starEach_cons {e : Expr} {es : List Expr} {env : Env} (h : notStar e = true) : starEach (e :: es) env = (false, eval e env) :: starEach es env := by
  cases e <;> first
    | rfl
    | cases h
theorem star_none {pos : Pos} {env : Env} : ∀ {es : List Expr}, es.all notStar = true → (backTo pos (starEach es env)).any (·.1) = false
  | [], _ => rfl
  | e :: es, h => by
    rw [List.all_cons, Bool.and_eq_true] at h
    rw [starEach_cons h.1]
    show (false || (backTo pos (starEach es env)).any (·.1)) = false
    rw [star_none h.2]
    rfl
def kwName : Keyword → Option Str
  | ⟨n, _, _⟩ => n
def kwE : Keyword → Expr
  | ⟨_, e, _⟩ => e
theorem kw_all {pos : Pos} {env : Env} : ∀ {kws : List Keyword} {ks : List Str}, kws.map kwName = ks.map some → (backToKw pos (keywordEach kws env)).all (·.1.isSome) = true
  | [], _, _ => rfl
  | ⟨n, e, q⟩ :: kws, [], h => by cases h
  | ⟨n, e, q⟩ :: kws, k :: ks, h => by
    rw [List.map_cons, List.map_cons] at h
    injection h with h1 h2
    have h1 : n = some k := h1
    subst h1
    show (true && (backToKw pos (keywordEach kws env)).all (·.1.isSome)) = true
    rw [kw_all h2]
    rfl
theorem kw_any {pos : Pos} {env : Env} : ∀ {kws : List Keyword} {ks : List Str}, kws.map kwName = ks.map some → (backToKw pos (keywordEach kws env)).any (·.1.isNone) = false
  | [], _, _ => rfl
  | ⟨n, e, q⟩ :: kws, [], h => by cases h
  | ⟨n, e, q⟩ :: kws, k :: ks, h => by
    rw [List.map_cons, List.map_cons] at h
    injection h with h1 h2
    have h1 : n = some k := h1
    subst h1
    show (false || (backToKw pos (keywordEach kws env)).any (·.1.isNone)) = false
    rw [kw_any h2]
    rfl
theorem kw_names {pos : Pos} {env : Env} : ∀ {kws : List Keyword} {ks : List Str}, kws.map kwName = ks.map some → (backToKw pos (keywordEach kws env)).filterMap (·.1) = ks
  | [], [], _ => rfl
  | [], k :: ks, h => by cases h
  | ⟨n, e, q⟩ :: kws, [], h => by cases h
  | ⟨n, e, q⟩ :: kws, k :: ks, h => by
    rw [List.map_cons, List.map_cons] at h
    injection h with h1 h2
    have h1 : n = some k := h1
    subst h1
    have ih := kw_names (pos := pos) (env := env) h2
    show k :: (backToKw pos (keywordEach kws env)).filterMap (·.1) = k :: ks
    rw [ih]
section
variable {X : Cx} {p : Prm} {Wx : WX} {F : FSem} {x : Str} {al kl : ASem}
/-- the values of keywords -/
theorem _root_.L2.PK.weak {kws : List Keyword} {t t' : TA} (h : PK X kws t) (w : ∀ σ H Q, t' σ H Q → t σ H Q) : PK X kws t' := ⟨fun pos pins s σ H Q I q => h.run pos pins s σ H Q I (w σ H Q q)⟩
theorem acons_weak {f : ESem} {σ : L2.St} {H : Hp} {Q : List V → Hp → Prop} (w : tA p Wx (aCons f al) σ H Q) : tCons (tE p Wx f) (tA p Wx al) σ H Q := by
  obtain ⟨W0, H0, W, r, st, G, q⟩ := w
  unfold aCons at q
  refine tE_bind G (fun v st1 e1 W1 H1 x f1 S1 R1 G1 => ?_) (fun e st1 e1 => ?_) (fun z => ?_)
  · simp only [e1] at q
    cases ev : v.toVal with
    | none => rw [ev] at q; exact q.elim
    | some d =>
      rw [ev] at q
      obtain ⟨W1', S1', R1', mk⟩ := R1.toVal S1 ev
      have f1' := mk f1 fun _ z => z
      refine tA_bind (G.to f1' S1') (fun ds st2 e2 W2 H2 xs f2 S2 R2 G2 => ?_) (fun e st2 e2 W2 H2 c d f2 S2 R2 => ?_) (fun z => ?_)
      · simp only [e2] at q
        exact q W2 H2 (x :: xs) (f1'.trans f2) S2 ⟨x, xs, rfl, Rep.fut f2 S1' d x R1', R2⟩
      · simp only [e2] at q
        exact q W2 H2 c d (f1'.trans f2) S2 R2
      · simp only [z] at q
        exact q.elim
  · simp only [e1] at q
    exact q
  · simp only [z] at q
    exact q
theorem pk_nilS : PK X [] (tA p Wx aNil) := pk_nil.weak fun σ H Q ⟨W0, H0, W, r, st, G, q⟩ => q W H [] Fut.refl G.ok rfl
theorem pk_consS {f : ESem} {k : Keyword} {kws : List Keyword} (ha : PE X (kwE k) (tE p Wx f)) (hr : PK X kws (tA p Wx al)) : PK X (k :: kws) (tA p Wx (aCons f al)) := by
  obtain ⟨n, e, q⟩ := k
  exact (pk_cons (e := e) ha hr).weak fun _ _ _ => acons_weak
/-- positional values, then the keywords' -/
def aApp (a b : ASem) : ASem := fun r st => match a r st with
  | some (.ok ds st1) => match b r st1 with
    | some (.ok es st2) => some (.ok (ds ++ es) st2)
    | some (.exc x st2) => some (.exc x st2)
    | none => none
  | some (.exc x st1) => some (.exc x st1)
  | none => none
theorem call_run {σ : L2.St} {H : Hp} {Q : VK} (w : tE p Wx (eCall F al) σ H Q) : tA p Wx al σ H fun vs H1 => spF p F vs H1 Q (WE Wx σ) := by
  obtain ⟨W0, H0, W, r, st, G, q⟩ := w
  unfold eCall at q
  refine tA_bind G (fun ds st1 e1 W1 H1 xs f1 S1 R1 G1 => ?_) (fun e st1 e1 => ?_) (fun z => ?_)
  · simp only [e1] at q
    refine ⟨W1, st1, ds, S1, R1, ?_⟩
    cases ez : F ds st1 with
    | none => simp only [ez] at q; exact q.elim
    | some y =>
      simp only [ez] at q
      cases y with
      | ret v st2 => exact fun W' H' x f S R => q W' H' x (f1.trans f) S (R.back fun a => f1.tr a)
      | exc e st2 => exact fun W' H' c d f S R => q W' H' c d (f1.trans f) S R
  · simp only [e1] at q
    exact q
  · simp only [z] at q
    exact q
theorem tA_len {es : List Expr} {σ : L2.St} {H : Hp} {Q : List V → Hp → Prop} {n : Nat} (hl : ∀ r st ds st1, al r st = some (.ok ds st1) → ds.length = n) (h : tA p Wx al σ H Q) : tA p Wx al σ H fun vs H1 => vs.length = n ∧ Q vs H1 := by
  obtain ⟨W0, H0, W, r, st, G, q⟩ := h
  refine ⟨W0, H0, W, r, st, G, ?_⟩
  cases z : al r st with
  | none => rw [z] at q; exact q
  | some y =>
    rw [z] at q
    cases y with
    | ok ds st1 => exact fun W' H' xs f S R => ⟨by rw [R.length]; exact hl r st ds st1 z, q W' H' xs f S R⟩
    | exc e st1 => exact q
theorem args_len : ∀ (fs : List ESem) (r : Rho) (st : Store) (ds : List D) (st1 : Store), argsS fs r st = some (.ok ds st1) → ds.length = fs.length
  | [], r, st, ds, st1, h => by
    unfold argsS aNil at h
    injection h with h
    injection h with h h2
    rw [← h]
    rfl
  | f :: fs, r, st, ds, st1, h => by
    unfold argsS aCons at h
    split at h
    · split at h
      · split at h
        · injection h with h
          injection h with h h2
          rename_i q
          rw [← h, List.length_cons, List.length_cons, args_len fs _ _ _ _ q]
        · cases h
        · cases h
      · cases h
    · cases h
    · cases h
/-- f(e, ..) -/
theorem pe_callS1 {e : Expr} {es : List Expr} {f : ESem} {fs : List ESem} {pp pos : Pos} (c : CallOk X p x (es.length + 1) [] F) (tk : Takes X Wx) (hg : Gl X x) (hdb : (x == ("__debug__" : Str)) = false) (hl : fs.length = es.length)
    (ha : PA X (e :: es) (tA p Wx (argsS (f :: fs)))) (hs : (e :: es).all notStar = true) : PE X (.Call (.Name x pp) (e :: es) [] pos) (tE p Wx (eCall F (argsS (f :: fs)))) := by
  obtain ⟨u, hm, hk, c⟩ := c
  refine ⟨fun pins s σ H Q I h => ?_⟩
  have h2 := tA_len (es := es) (n := es.length + 1) (fun r st ds st1 z => by rw [args_len _ _ _ _ _ z, List.length_cons, hl]) (call_run h)
  have hsn := hs
  rw [List.all_cons, Bool.and_eq_true] at hsn
  refine wpAny_Call_Name_kw (ld_glob I hg hm ?_ hdb)
  refine PySem.W.callWith_K (h₀ := X.base) I.ok.mod.kin hk (thn (ha.run pos pins s σ H _ I h2) fun us s1 ⟨vs, H1, I1, r, q1, q⟩ => ⟨I1.kIn, ?_⟩) (starEach_cons hsn.1) (star_none hsn.2)
  have z := c (WE Wx) pins σ H1 s1 Q us [] vs [] (passAt tk σ) I1 r .nil q1 rfl (by rw [List.append_nil]; exact q)
  exact z
/-- f() -/
theorem pe_callS0 {pp pos : Pos} (c : CallOk X p x 0 [] F) (tk : Takes X Wx) (hg : Gl X x) (hdb : (x == ("__debug__" : Str)) = false) : PE X (.Call (.Name x pp) [] [] pos) (tE p Wx (eCall F aNil)) := by
  obtain ⟨u, hm, hk, c⟩ := c
  refine ⟨fun pins s σ H Q I h => ?_⟩
  have h2 := call_run h
  refine wpAny_Call_Name_kw (ld_glob I hg hm ?_ hdb)
  refine PySem.W.callWith_K0 I.kIn hk ?_
  obtain ⟨W0, H0, W, r, st, G, q⟩ := h2
  have q2 := q W H [] Fut.refl G.ok rfl
  exact c (WE Wx) pins σ H s Q [] [] [] [] (passAt tk σ) I .nil .nil rfl rfl q2
theorem aApp_run {σ : L2.St} {H : Hp} {Q : List V → Hp → Prop} (w : tA p Wx (aApp al kl) σ H Q) : tA p Wx al σ H fun vs H1 => tA p Wx kl σ H1 fun zs H2 => Q (vs ++ zs) H2 := by
  obtain ⟨W0, H0, W, r, st, G, q⟩ := w
  unfold aApp at q
  refine tA_bind G (fun ds st1 e1 W1 H1 xs f1 S1 R1 G1 => ?_) (fun e st1 e1 => ?_) (fun z => ?_)
  · simp only [e1] at q
    refine tA_bind G1 (fun es st2 e2 W2 H2 ys f2 S2 R2 G2 => ?_) (fun e st2 e2 W2 H2 c d f2 S2 R2 => ?_) (fun z => ?_)
    · simp only [e2] at q
      exact q W2 H2 (xs ++ ys) (f1.trans f2) S2 ((RepL.fut f2 S1 _ _ R1).app R2)
    · simp only [e2] at q
      exact q W2 H2 c d (f1.trans f2) S2 R2
    · simp only [z] at q
      exact q.elim
  · simp only [e1] at q
    exact q
  · simp only [z] at q
    exact q
/-- f(e, .., k = v, ..) -/
theorem pe_callS2 {e : Expr} {es : List Expr} {f : ESem} {fs gs : List ESem} {kws : List Keyword} {ks : List Str} {pp pos : Pos} (c : CallOk X p x (es.length + 1) ks F) (tk : Takes X Wx) (hg : Gl X x) (hdb : (x == ("__debug__" : Str)) = false)
    (hl : fs.length = es.length) (hn : kws.map kwName = ks.map some) (hl2 : gs.length = ks.length)
    (ha : PA X (e :: es) (tA p Wx (argsS (f :: fs)))) (hkw : PK X kws (tA p Wx (argsS gs))) (hs : (e :: es).all notStar = true) : PE X (.Call (.Name x pp) (e :: es) kws pos) (tE p Wx (eCall F (aApp (argsS (f :: fs)) (argsS gs)))) := by
  obtain ⟨u, hm, hk, c⟩ := c
  refine ⟨fun pins s σ H Q I h => ?_⟩
  have h1 := aApp_run (call_run h)
  have h2 := tA_len (es := es) (n := es.length + 1) (fun r st ds st1 z => by rw [args_len _ _ _ _ _ z, List.length_cons, hl]) h1
  have hsn := hs
  rw [List.all_cons, Bool.and_eq_true] at hsn
  refine wpAny_Call_Name_kw (ld_glob I hg hm ?_ hdb)
  refine PySem.W.callWith_KW (h₀ := X.base) I.ok.mod.kin hk (kw_all hn) (thn (ha.run pos pins s σ H _ I h2) fun us s1 ⟨vs, H1, I1, r, q1, q⟩ => ?_) (by rw [star_none hs, kw_any hn]; rfl) (starEach_cons hsn.1)
  have h3 := tA_len (es := es) (n := ks.length) (fun r st ds st1 z => by rw [args_len _ _ _ _ _ z, hl2]) q
  refine thn (hkw.run pos pins s1 σ H1 _ I1 h3) fun ws s2 ⟨zs, H2, I2, rz, q2, q3⟩ => ⟨I2.kIn, ?_⟩
  rw [kw_names hn]
  exact c (WE Wx) pins σ H2 s2 Q us ws vs zs (passAt tk σ) I2 r rz q1 q2 q3
/-- f(k = v, ..) -/
theorem pe_callS3 {gs : List ESem} {kws : List Keyword} {ks : List Str} {pp pos : Pos} (c : CallOk X p x 0 ks F) (tk : Takes X Wx) (hg : Gl X x) (hdb : (x == ("__debug__" : Str)) = false) (hn : kws.map kwName = ks.map some) (hl2 : gs.length = ks.length)
    (hkw : PK X kws (tA p Wx (argsS gs))) : PE X (.Call (.Name x pp) [] kws pos) (tE p Wx (eCall F (argsS gs))) := by
  obtain ⟨u, hm, hk, c⟩ := c
  refine ⟨fun pins s σ H Q I h => ?_⟩
  have h3 := tA_len (es := []) (n := ks.length) (fun r st ds st1 z => by rw [args_len _ _ _ _ _ z, hl2]) (call_run h)
  refine wpAny_Call_Name_kw (ld_glob I hg hm ?_ hdb)
  refine PySem.W.callWith_KW0 (h₀ := X.base) I.ok.mod.kin hk (kw_all hn) ?_ (by rw [kw_any hn]; rfl)
  refine thn (hkw.run pos pins s σ H _ I h3) fun ws s2 ⟨zs, H2, I2, rz, q2, q3⟩ => ⟨I2.kIn, ?_⟩
  rw [kw_names hn]
  exact c (WE Wx) pins σ H2 s2 Q [] ws [] zs (passAt tk σ) I2 .nil rz rfl q2 q3
end

/-! ### tests -/
section
variable {X : Cx} {p : Prm} {Wx : WX} {f g h : ESem} {e e1 e2 e3 : Expr} {t u : TSem} {pos : Pos}
theorem rvr_ref {Hs H : Hp} {W : Wd} {x : RV} {v : V} {xs : List D} {st : Store} (h : RVr p Hs W H x v) (e : x.d = .tup xs) : ∃ a vs, v = .ref a ∧ SqT p.K H a vs ∧ RepL p W H xs vs := by
  have z := h.plain (by rw [e]; rfl)
  rw [e] at z
  exact z
theorem isEmpty_rep {W : Wd} {H : Hp} {xs : List D} {vs : List V} (r : RepL p W H xs vs) : vs.isEmpty = xs.isEmpty := by
  have l := r.length
  cases vs <;> cases xs <;> first
    | rfl
    | cases l
/-- truth of what was told -/
theorem tru_of {Hs H : Hp} {W : Wd} {x : RV} {v : V} {st : Store} {b : Bool} (S : SOk p W H st) (h : RVr p Hs W H x v) (e : truth st x = some b) : TruV p.K v H b := by
  have pl : boxD x.d = false → Rep p W H x.d v := h.plain
  unfold truth at e
  cases q : x.d with
  | non =>
    rw [q] at e
    injection e with e
    have z : v = .non := by have := pl (by rw [q]; rfl); rw [q] at this; exact this
    subst z
    exact e.symm
  | bl c =>
    rw [q] at e
    injection e with e
    have z : v = .bl c := by have := pl (by rw [q]; rfl); rw [q] at this; exact this
    subst z
    exact e.symm
  | int i =>
    rw [q] at e
    injection e with e
    have z : v = .int i := by have := pl (by rw [q]; rfl); rw [q] at this; exact this
    subst z
    exact e.symm
  | str s =>
    rw [q] at e
    have z : v = .str s := by have := pl (by rw [q]; rfl); rw [q] at this; exact this
    subst z
    dsimp only at e
    split at e
    · rename_i hl
      injection e with e
      exact ⟨lim_le hl, e.symm⟩
    · cases e
  | tup xs =>
    rw [q] at e
    injection e with e
    obtain ⟨a, vs, rfl, h1, h2⟩ := rvr_ref (st := st) h q
    exact .inr (.inl ⟨vs, h1, by rw [isEmpty_rep h2]; exact e.symm⟩)
  | ins c ns fs => rw [q] at e; cases e
  | dct ks xs => rw [q] at e; cases e
  | lst xs =>
    rw [q] at e
    injection e with e
    obtain ⟨a, vs, rfl, h1, h2⟩ := h.list (xs := xs) S (by unfold asL; rw [q])
    exact .inl ⟨vs, h1, by rw [isEmpty_rep h2]; exact e.symm⟩
  | rol xs =>
    rw [q] at e
    injection e with e
    obtain ⟨a, vs, rfl, h1, h2⟩ := h.list (xs := xs) S (by unfold asL; rw [q])
    exact .inl ⟨vs, h1, by rw [isEmpty_rep h2]; exact e.symm⟩
  | ref n =>
    rw [q] at e
    dsimp only at e
    split at e
    · rename_i xs hx
      injection e with e
      obtain ⟨a, vs, rfl, h1, h2⟩ := h.list (xs := xs) S (by unfold asL; rw [q]; dsimp only; rw [hx])
      exact .inl ⟨vs, h1, by rw [isEmpty_rep h2]; exact e.symm⟩
    · cases e
theorem tval_weak (hK : p.K = X.K) {σ : L2.St} {H : Hp} {Q : Bool → Hp → Prop} (w : tT p Wx (tVal f) σ H Q) : tE p Wx f σ H fun x H' => ∃ k, TruV X.K x H' k ∧ Q k H' := by
  obtain ⟨W0, H0, W, r, st, G, q⟩ := w
  unfold tVal at q
  refine tE_bind G (fun v st1 e1 W1 H1 x f1 S1 R1 G1 => ?_) (fun e st1 e1 => ?_) (fun z => ?_)
  · simp only [e1] at q
    cases ez : truth st1 v with
    | none => rw [ez] at q; exact q.elim
    | some b =>
      rw [ez] at q
      exact ⟨b, hK ▸ tru_of S1 R1 ez, q W1 H1 f1 S1⟩
  · simp only [e1] at q
    exact q
  · simp only [z] at q
    exact q
/-- an expression whose test is its value's truth -/
theorem pt_valS (hK : p.K = X.K) (ha : PE X e (tE p Wx f)) (he : ∀ whole, isTrue e X.env whole = (do let v ← whole; standAt e.pos; holding [v] (truthy v))) : PT X e (tT p Wx (tVal f)) :=
  (pt_truth ha he).weak fun _ _ _ => tval_weak hK
/-- a comparison as a test: its value's truth, the value a truth -/
def tBool (a : ESem) : TSem := fun r st => match a r st with
  | some (.ok (.val (.bl b)) st1) => some (.ok b st1)
  | some (.exc x st1) => some (.exc x st1)
  | _ => none
theorem tbool_weak {σ : L2.St} {H : Hp} {Q : Bool → Hp → Prop} (w : tT p Wx (tBool f) σ H Q) : tE p Wx f σ H fun x H' => ∃ k, x = .bl k ∧ Q k H' := by
  obtain ⟨W0, H0, W, r, st, G, q⟩ := w
  unfold tBool at q
  refine tE_bind G (fun v st1 e1 W1 H1 x f1 S1 R1 G1 => ?_) (fun e st1 e1 => ?_) (fun z => ?_)
  · simp only [e1] at q
    cases v with
    | val d =>
      cases d with
      | bl b => exact ⟨b, R1, q W1 H1 f1 S1⟩
      | _ => exact q.elim
    | _ => exact q.elim
  · simp only [e1] at q
    exact q
  · simp only [z] at q
    exact q
end
end Tz

set_option Elab.async false
set_option linter.all false
set_option maxRecDepth 100000
set_option maxHeartbeats 4000000
/-! Ts4: tests, targets, statements, loops, comprehensions. -/
namespace Tz
open PySem L2 PyProof.Rows
section
variable {X : Cx} {p : Prm} {Wx : WX} {f g h : ESem} {e e1 e2 e3 : Expr} {t u : TSem} {pos : Pos}
theorem pt_cmp2 {op : CmpOp} {fn : Store → RV → RV → Option RV} (ho : OpR X (compareOp op) (r2 p fn)) (ha : PE X e1 (tE p Wx f)) (hb : PE X e2 (tE p Wx g)) (hm : behindInMarks op e2 = false) : PT X (.Compare e1 [op] [e2] pos) (tT p Wx (tBool (eOp2 fn f g))) :=
  (pt_cmpR ho ha hb hm).weak fun _ _ _ w => op2_weak (tbool_weak w)
theorem chain_weak {fn gn : Store → RV → RV → Option RV} {σ : L2.St} {H : Hp} {Q : VK} (w : tE p Wx (eChain fn gn f g h) σ H Q) : tChain (r2 p fn) (r2 p gn) (tE p Wx f) (tE p Wx g) (tE p Wx h) σ H Q := by
  obtain ⟨W0, H0, W, r, st, G, q⟩ := w
  unfold eChain at q
  refine tE_bind G (fun v st1 e1 W1 H1 x f1 S1 R1 G1 => ?_) (fun e st1 e1 => ?_) (fun z => ?_)
  · simp only [e1] at q
    refine tE_bind G1 (fun w st2 e2 W2 H2 y f2 S2 R2 G2 => ?_) (fun e st2 e2 W2 H2 c d f2 S2 R2 => ?_) (fun z => ?_)
    · simp only [e2] at q
      cases ez : fn st2 v w with
      | none => simp only [ez] at q; exact q.elim
      | some z =>
        cases z with
        | fresh d => simp only [ez] at q; exact q.elim
        | peek d => simp only [ez] at q; exact q.elim
        | val d =>
          cases d with
          | bl b =>
            refine ⟨W2, st2, H, v, w, _, S2, R1.fut f2 S1, R2.back fun a => f1.tr a, ez, fun W3 H3 y3 f3 S3 R3 => ?_⟩
            have R3 : y3 = .bl b := R3
            refine ⟨b, R3, ?_⟩
            have R2' := R2.fut f3 S2
            have G3 := G2.to f3 S3
            cases b with
            | false =>
              simp only [ez] at q
              rw [if_neg Bool.false_ne_true]
              exact q W3 H3 _ (f1.trans (f2.trans f3)) S3 rfl
            | true =>
              simp only [ez] at q
              rw [if_pos rfl]
              refine tE_bind G3 (fun x3 st3 e3 W4 H4 z3 f4 S4 R4 G4 => ?_) (fun e st3 e3 W4 H4 c d f4 S4 R4 => ?_) (fun z => ?_)
              · simp only [e3] at q
                cases ey : gn st3 w x3 with
                | none => rw [ey] at q; exact q.elim
                | some y4 =>
                  rw [ey] at q
                  exact ⟨W4, st3, H, w, x3, y4, S4, (R2'.fut f4 S3).back fun a => f1.tr a, R4.back fun a h => f3.tr a (f2.trans Fut.refl |>.tr a (f1.tr a h)), ey, fun W5 H5 y5 f5 S5 R5 =>
                    q W5 H5 y5 (f1.trans (f2.trans (f3.trans (f4.trans f5)))) S5 (R5.back fun a h => f4.tr a (f3.tr a (f2.tr a (f1.tr a h))))⟩
              · simp only [e3] at q
                exact q W4 H4 c d (f1.trans (f2.trans (f3.trans f4))) S4 R4
              · simp only [z] at q
                exact q.elim
          | _ => simp only [ez] at q; exact q.elim
    · simp only [e2] at q
      exact q W2 H2 c d (f1.trans f2) S2 R2
    · simp only [z] at q
      exact q.elim
  · simp only [e1] at q
    exact q
  · simp only [z] at q
    exact q
theorem pe_chain3 {op op' : CmpOp} {fn gn : Store → RV → RV → Option RV} (ho : OpR X (compareOp op) (r2 p fn)) (ho' : OpR X (compareOp op') (r2 p gn)) (ha : PE X e1 (tE p Wx f)) (hb : PE X e2 (tE p Wx g)) (hc : PE X e3 (tE p Wx h))
    (hm : lastMarks [op, op'] [e2, e3] = false) : PE X (.Compare e1 [op, op'] [e2, e3] pos) (tE p Wx (eChain fn gn f g h)) := (pe_chain ho ho' ha hb hc hm).weak fun _ _ _ => chain_weak
theorem pt_chain3 {op op' : CmpOp} {fn gn : Store → RV → RV → Option RV} (ho : OpR X (compareOp op) (r2 p fn)) (ho' : OpR X (compareOp op') (r2 p gn)) (ha : PE X e1 (tE p Wx f)) (hb : PE X e2 (tE p Wx g)) (hc : PE X e3 (tE p Wx h))
    (hm : lastMarks [op, op'] [e2, e3] = false) : PT X (.Compare e1 [op, op'] [e2, e3] pos) (tT p Wx (tBool (eChain fn gn f g h))) := (pt_chain ho ho' ha hb hc hm).weak fun _ _ _ w => chain_weak (tbool_weak w)
theorem pt_notS (ha : PT X e (tT p Wx t)) : PT X (.UnaryOp .Not e pos) (tT p Wx (tNotS t)) := by
  refine (pt_not ha).weak fun σ H Q ⟨W0, H0, W, r, st, G, q⟩ => ?_
  unfold tNotS at q
  refine tT_bind G (fun b st1 e1 W1 H1 f1 S1 G1 => ?_) (fun e st1 e1 => ?_) (fun z => ?_)
  · simp only [e1] at q
    exact q W1 H1 f1 S1
  · simp only [e1] at q
    exact q
  · simp only [z] at q
    exact q
theorem pw_and1S (ha : PT X e (tT p Wx t)) : PW X (.BoolOp .And [e] pos) (tT p Wx t) := pw_and1 ha
theorem pw_or1S (ha : PT X e (tT p Wx t)) : PW X (.BoolOp .Or [e] pos) (tT p Wx t) := pw_or1 ha
theorem pw_andS {es : List Expr} (ha : PT X e1 (tT p Wx t)) (hb : PW X (.BoolOp .And (e2 :: es) pos) (tT p Wx u)) : PW X (.BoolOp .And (e1 :: e2 :: es) pos) (tT p Wx (tAndS t u)) := by
  refine (pw_and ha hb).weak fun σ H Q ⟨W0, H0, W, r, st, G, q⟩ => ?_
  unfold tAndS at q
  refine tT_bind G (fun b st1 e1 W1 H1 f1 S1 G1 => ?_) (fun e st1 e1 => ?_) (fun z => ?_)
  · simp only [e1] at q
    cases b with
    | false =>
      rw [if_neg Bool.false_ne_true]
      exact q W1 H1 f1 S1
    | true =>
      rw [if_pos rfl]
      refine tT_bind G1 (fun b st2 e2 W2 H2 f2 S2 G2 => ?_) (fun e st2 e2 W2 H2 c d f2 S2 R2 => ?_) (fun z => ?_)
      · simp only [e2] at q
        exact q W2 H2 (f1.trans f2) S2
      · simp only [e2] at q
        exact q W2 H2 c d (f1.trans f2) S2 R2
      · simp only [z] at q
        exact q.elim
  · simp only [e1] at q
    exact q
  · simp only [z] at q
    exact q
theorem pw_orS {es : List Expr} (ha : PT X e1 (tT p Wx t)) (hb : PW X (.BoolOp .Or (e2 :: es) pos) (tT p Wx u)) : PW X (.BoolOp .Or (e1 :: e2 :: es) pos) (tT p Wx (tOrS t u)) := by
  refine (pw_or ha hb).weak fun σ H Q ⟨W0, H0, W, r, st, G, q⟩ => ?_
  unfold tOrS at q
  refine tT_bind G (fun b st1 e1 W1 H1 f1 S1 G1 => ?_) (fun e st1 e1 => ?_) (fun z => ?_)
  · simp only [e1] at q
    cases b with
    | true =>
      rw [if_pos rfl]
      exact q W1 H1 f1 S1
    | false =>
      rw [if_neg Bool.false_ne_true]
      refine tT_bind G1 (fun b st2 e2 W2 H2 f2 S2 G2 => ?_) (fun e st2 e2 W2 H2 c d f2 S2 R2 => ?_) (fun z => ?_)
      · simp only [e2] at q
        exact q W2 H2 (f1.trans f2) S2
      · simp only [e2] at q
        exact q W2 H2 c d (f1.trans f2) S2 R2
      · simp only [z] at q
        exact q.elim
  · simp only [e1] at q
    exact q
  · simp only [z] at q
    exact q
theorem pe_notS (hK : p.K = X.K) (ha : PE X e (tE p Wx f)) : PE X (.UnaryOp .Not e pos) (tE p Wx (eTest (tNotS (tVal f)))) := by
  refine (pe_notT ha).weak fun σ H Q ⟨W0, H0, W, r, st, G, q⟩ => ?_
  refine tval_weak hK ⟨W0, H0, W, r, st, G, ?_⟩
  unfold eTest tNotS at q
  cases z : tVal f r st with
  | none => simp only [z] at q; exact q
  | some y =>
    cases y with
    | ok b st1 =>
      simp only [z] at q
      exact fun W' H' f1 S1 => q W' H' _ f1 S1 rfl
    | exc e st1 =>
      simp only [z] at q
      exact q
theorem pe_andS {es : List Expr} (ha : PE X e1 (tE p Wx f)) (hb : PE X (.BoolOp .And (e2 :: es) pos) (tE p Wx g)) : PE X (.BoolOp .And (e1 :: e2 :: es) pos) (tE p Wx (eAndS f g)) := by
  refine (pe_and ha hb).weak fun σ H Q ⟨W0, H0, W, r, st, G, q⟩ => ?_
  unfold eAndS at q
  refine tE_bind G (fun v st1 e1 W1 H1 x f1 S1 R1 G1 => ?_) (fun e st1 e1 => ?_) (fun z => ?_)
  · simp only [e1] at q
    cases v with
    | fresh d => exact q.elim
    | peek d => exact q.elim
    | val d =>
      cases d with
      | bl b =>
        refine ⟨b, R1, ?_⟩
        cases b with
        | false =>
          rw [if_neg Bool.false_ne_true]
          exact q W1 H1 _ f1 S1 rfl
        | true =>
          rw [if_pos rfl]
          refine tE_bind G1 (fun w st2 e2 W2 H2 y f2 S2 R2 G2 => ?_) (fun e st2 e2 W2 H2 c d f2 S2 R2 => ?_) (fun z => ?_)
          · simp only [e2] at q
            exact q W2 H2 y (f1.trans f2) S2 (R2.back fun a => f1.tr a)
          · simp only [e2] at q
            exact q W2 H2 c d (f1.trans f2) S2 R2
          · simp only [z] at q
            exact q.elim
      | _ => exact q.elim
  · simp only [e1] at q
    exact q
  · simp only [z] at q
    exact q
theorem pe_orS {es : List Expr} (ha : PE X e1 (tE p Wx f)) (hb : PE X (.BoolOp .Or (e2 :: es) pos) (tE p Wx g)) : PE X (.BoolOp .Or (e1 :: e2 :: es) pos) (tE p Wx (eOrS f g)) := by
  refine (pe_or ha hb).weak fun σ H Q ⟨W0, H0, W, r, st, G, q⟩ => ?_
  unfold eOrS at q
  refine tE_bind G (fun v st1 e1 W1 H1 x f1 S1 R1 G1 => ?_) (fun e st1 e1 => ?_) (fun z => ?_)
  · simp only [e1] at q
    cases v with
    | fresh d => exact q.elim
    | peek d => exact q.elim
    | val d =>
      cases d with
      | bl b =>
        refine ⟨b, R1, ?_⟩
        cases b with
        | true =>
          rw [if_pos rfl]
          exact q W1 H1 _ f1 S1 rfl
        | false =>
          rw [if_neg Bool.false_ne_true]
          refine tE_bind G1 (fun w st2 e2 W2 H2 y f2 S2 R2 G2 => ?_) (fun e st2 e2 W2 H2 c d f2 S2 R2 => ?_) (fun z => ?_)
          · simp only [e2] at q
            exact q W2 H2 y (f1.trans f2) S2 (R2.back fun a => f1.tr a)
          · simp only [e2] at q
            exact q W2 H2 c d (f1.trans f2) S2 R2
          · simp only [z] at q
            exact q.elim
      | _ => exact q.elim
  · simp only [e1] at q
    exact q
  · simp only [z] at q
    exact q
theorem pe_ifS (hc : PT X e1 (tT p Wx t)) (ha : PE X e2 (tE p Wx f)) (hb : PE X e3 (tE p Wx g)) : PE X (.IfExp e1 e2 e3 pos) (tE p Wx (eIf t f g)) := by
  refine (pe_ifExp hc ha hb).weak fun σ H Q ⟨W0, H0, W, r, st, G, q⟩ => ?_
  unfold eIf at q
  refine tT_bind G (fun b st1 e1 W1 H1 f1 S1 G1 => ?_) (fun e st1 e1 => ?_) (fun z => ?_)
  · simp only [e1] at q
    have go : ∀ {k : ESem}, okE p Wx W σ H Q (k r st1) → tE p Wx k σ H1 Q := fun {k} q => by
      refine tE_bind G1 (fun w st2 e2 W2 H2 y f2 S2 R2 G2 => ?_) (fun e st2 e2 W2 H2 c d f2 S2 R2 => ?_) (fun z => ?_)
      · rw [e2] at q
        exact q W2 H2 y (f1.trans f2) S2 (R2.back fun a => f1.tr a)
      · rw [e2] at q
        exact q W2 H2 c d (f1.trans f2) S2 R2
      · rw [z] at q
        exact q
    cases b with
    | true =>
      rw [if_pos rfl]
      exact go q
    | false =>
      rw [if_neg Bool.false_ne_true]
      exact go q
  · simp only [e1] at q
    exact q
  · simp only [z] at q
    exact q
end

/-! ### targets: us, the slots that they store at -/
def okG (p : Prm) (W0 : Wd) (H0 : Hp) (W : Wd) (σ : L2.St) (H : Hp) (us : List Nat) (Q : L2.St → Hp → Prop) : Option (Rho × Store) → Prop
  | none => False
  | some (r', st') => ∀ W' σ' H', Fut W H W' H' → Good p W0 H0 W' σ' H' r' st' → (∀ j, j ∉ us → σ'[j]? = σ[j]?) → σ'.length = σ.length → Q σ' H'
def tG (p : Prm) (g : TgSem) (us : List Nat) : TG := fun v σ H Q => ∃ W0 H0 Hs W r st x, Good p W0 H0 W σ H r st ∧ RVr p Hs W H x v ∧ (∀ b, H0 b ≠ none → Hs b ≠ none) ∧
  (∀ (i : Nat) d a, r[i]? = some (.own d) → σ[i]? = some (some (.ref a)) → Hs a ≠ none) ∧ okG p W0 H0 W σ H us Q (g x r st)
section
variable {X : Cx} {p : Prm} {Wx : WX} {pos : Pos} {W0 W : Wd} {H0 H Hs : Hp} {σ : L2.St} {r : Rho} {st : Store}
theorem _root_.L2.PG.weak {tg : Expr} {t t' : TG} (h : PG X tg t) (w : ∀ v σ H Q, t' v σ H Q → t v σ H Q) : PG X tg t' := ⟨fun pins s σ H v u Q I r q => h.run pins s σ H v u Q I r (w v σ H Q q)⟩
theorem _root_.L2.PGs.weak {tg : List Expr} {t t' : TGs} (h : PGs X tg t) (w : ∀ v σ H Q, t' v σ H Q → t v σ H Q) : PGs X tg t' := ⟨fun pins s σ H v u Q I r q => h.run pins s σ H v u Q I r (w v σ H Q q)⟩
theorem get_set {α : Type} {l : List α} {i j : Nat} {x y : α} (h : (l.set i x)[j]? = some y) : (j = i ∧ x = y) ∨ (j ≠ i ∧ l[j]? = some y) := by
  by_cases e : i = j
  · subst e
    rw [List.getElem?_set_self'] at h
    cases q : l[i]? with
    | none => rw [q] at h; cases h
    | some z => rw [q] at h; injection h with h; exact .inl ⟨rfl, h⟩
  · rw [List.getElem?_set_ne e] at h
    exact .inr ⟨fun z => e z.symm, h⟩
/-- a slot stored -/
theorem Good.setVal (G : Good p W0 H0 W σ H r st) {i : Nat} {d : D} {v : V} (hv : Rep p W H d v) : Good p W0 H0 W (σ.set i (some v)) H (r.set i (.val d)) st where
  fut := G.fut
  ok := G.ok
  len := by rw [List.length_set, List.length_set]; exact G.len
  val := fun j e h => by
    rcases get_set h with ⟨e1, e2⟩ | ⟨e1, e2⟩
    · injection e2 with e2
      subst e1 e2
      have hl := (List.getElem?_eq_some_iff.mp h).1
      rw [List.length_set, ← G.len] at hl
      exact ⟨v, List.getElem?_set_self hl, hv⟩
    · obtain ⟨w, h1, h2⟩ := G.val j e e2
      exact ⟨w, by rw [List.getElem?_set_ne (Ne.symm e1)]; exact h1, h2⟩
  own := fun j e h => by
    rcases get_set h with ⟨e1, e2⟩ | ⟨e1, e2⟩
    · cases e2
    · obtain ⟨a, h1, h2⟩ := G.own j e e2
      exact ⟨a, by rw [List.getElem?_set_ne (Ne.symm e1)]; exact h1, h2⟩
  one := fun j k d' e' a h1 h2 h3 h4 => by
    rcases get_set h1 with ⟨e1, e2⟩ | ⟨e1, e2⟩
    · cases e2
    · rcases get_set h2 with ⟨k1, k2⟩ | ⟨k1, k2⟩
      · cases k2
      · rw [List.getElem?_set_ne (Ne.symm e1)] at h3
        rw [List.getElem?_set_ne (Ne.symm k1)] at h4
        exact G.one j k d' e' a e2 k2 h3 h4
theorem Good.setOwn (G : Good p W0 H0 W σ H r st) {i : Nat} {d : D} {a : Addr} (h1 : RepC p W H d a) (h2 : ¬ W.F a) (h3 : ∀ k, k < W.n → W.mu k ≠ a) (h4 : H0 a = none)
    (h5 : ∀ (j : Nat) e, j ≠ i → r[j]? = some (.own e) → σ[j]? ≠ some (some (.ref a))) : Good p W0 H0 W (σ.set i (some (.ref a))) H (r.set i (.own d)) st where
  fut := G.fut
  ok := G.ok
  len := by rw [List.length_set, List.length_set]; exact G.len
  val := fun j e h => by
    rcases get_set h with ⟨e1, e2⟩ | ⟨e1, e2⟩
    · cases e2
    · obtain ⟨w, h1, h2⟩ := G.val j e e2
      exact ⟨w, by rw [List.getElem?_set_ne (Ne.symm e1)]; exact h1, h2⟩
  own := fun j e h => by
    rcases get_set h with ⟨e1, e2⟩ | ⟨e1, e2⟩
    · injection e2 with e2
      subst e1 e2
      have hl := (List.getElem?_eq_some_iff.mp h).1
      rw [List.length_set, ← G.len] at hl
      exact ⟨a, List.getElem?_set_self hl, h1, h2, h3, h4⟩
    · obtain ⟨b, k1, k2⟩ := G.own j e e2
      exact ⟨b, by rw [List.getElem?_set_ne (Ne.symm e1)]; exact k1, k2⟩
  one := fun j k d' e' b g1 g2 g3 g4 => by
    rcases get_set g1 with ⟨e1, e2⟩ | ⟨e1, e2⟩
    · rcases get_set g2 with ⟨k1, k2⟩ | ⟨k1, k2⟩
      · rw [e1, k1]
      · have hl := (List.getElem?_eq_some_iff.mp g1).1
        rw [List.length_set, ← G.len] at hl
        subst e1
        rw [List.getElem?_set_self hl] at g3
        injection g3 with g3
        injection g3 with g3
        injection g3 with g3
        rw [List.getElem?_set_ne (Ne.symm k1), ← g3] at g4
        exact absurd g4 (h5 k e' k1 k2)
    · rcases get_set g2 with ⟨k1, k2⟩ | ⟨k1, k2⟩
      · have hl := (List.getElem?_eq_some_iff.mp g2).1
        rw [List.length_set, ← G.len] at hl
        subst k1
        rw [List.getElem?_set_self hl] at g4
        injection g4 with g4
        injection g4 with g4
        injection g4 with g4
        rw [List.getElem?_set_ne (Ne.symm e1), ← g4] at g3
        exact absurd g3 (h5 j d' e1 e2)
      · rw [List.getElem?_set_ne (Ne.symm e1)] at g3
        rw [List.getElem?_set_ne (Ne.symm k1)] at g4
        exact G.one j k d' e' b e2 k2 g3 g4
/-- a list that a slot owns, changed -/
theorem pg_stuck {tg : Expr} {us : List Nat} : PG X tg (tG p gStuck us) := ⟨fun _ _ _ _ _ _ _ _ _ ⟨_, _, _, _, _, _, _, _, _, _, _, z⟩ => z.elim⟩
theorem set_other {i : Nat} {v : Option V} : (∀ j, j ∉ [i] → (σ.set i v)[j]? = σ[j]?) ∧ (σ.set i v).length = σ.length :=
  ⟨fun j hj => List.getElem?_set_ne (fun z => hj (by simp [z])), List.length_set⟩
theorem gvar_run {i : Nat} {v : V} {Q : L2.St → Hp → Prop} (w : tG p (gVar i) [i] v σ H Q) : gName i v σ H Q := by
  obtain ⟨W0, H0, Hs, W, r, st, x, G, R, hb, ho, q⟩ := w
  cases x with
  | val d => exact q W _ _ Fut.refl (G.setVal R) set_other.1 set_other.2
  | peek d => exact q.elim
  | fresh d =>
    obtain ⟨a, rfl, h1, h2, h3, h4⟩ := R
    refine q W _ _ Fut.refl (G.setOwn h1 h2 h3 ?_ fun j e hj he z => ho j e a he z h4) set_other.1 set_other.2
    cases z : H0 a with
    | none => rfl
    | some o => exact absurd h4 (hb a (some_ne z))
theorem pg_var {i : Nat} {x : Str} (h : PG X (.Name x pos) (gName i)) : PG X (.Name x pos) (tG p (gVar i) [i]) := h.weak fun _ _ _ _ => gvar_run
/-- several targets -/
def tGs (p : Prm) (gs : List TgSem) (us : List Nat) : TGs := fun vs σ H Q => ∃ W0 H0 W r st ds, Good p W0 H0 W σ H r st ∧ RepL p W H ds vs ∧ okG p W0 H0 W σ H us Q (gList gs ds r st)
theorem pgs_nilS : PGs X [] (tGs p [] []) := by
  refine pgs_nil.weak fun vs σ H Q ⟨W0, H0, W, r, st, ds, G, R, q⟩ => ?_
  cases ds with
  | nil =>
    have R : vs = [] := R
    exact ⟨R, q W σ H Fut.refl G (fun _ _ => rfl) rfl⟩
  | cons d ds => exact q.elim
theorem pgs_consS {tg : Expr} {ts : List Expr} {g : TgSem} {gs : List TgSem} {us vs' : List Nat} (h1 : PG X tg (tG p g us)) (h2 : PGs X ts (tGs p gs vs')) (hs : (assignEach (tg :: ts) X.env).map (·.2) = assign tg X.env :: (assignEach ts X.env).map (·.2)) : PGs X (tg :: ts) (tGs p (g :: gs) (us ++ vs')) := by
  refine (pgs_cons h1 h2 hs).weak fun vs σ H Q ⟨W0, H0, W, r, st, ds, G, R, q⟩ => ?_
  cases ds with
  | nil => exact q.elim
  | cons d ds =>
    obtain ⟨v, vr, rfl, R1, R2⟩ := R
    refine ⟨v, vr, rfl, W0, H0, H, W, r, st, .val d, G, R1, fun b z => G.fut.tr b z, fun i e a he hσ => ?_, ?_⟩
    · obtain ⟨b, k1, k2, _⟩ := G.own i e he
      rw [hσ] at k1
      injection k1 with k1
      injection k1 with k1
      injection k1 with k1
      subst k1
      obtain ⟨o, ho⟩ := k2.some
      exact some_ne ho
    · unfold gList at q
      cases z : g (.val d) r st with
      | none => rw [z] at q; exact q
      | some y =>
        rw [z] at q
        obtain ⟨r1, st1⟩ := y
        intro W1 σ1 H1 f1 G1 c1 l1
        refine ⟨W0, H0, W1, r1, st1, ds, G1, RepL.fut f1 G.ok ds vr R2, ?_⟩
        have q' : okG p W0 H0 W σ H (us ++ vs') Q (gList gs ds r1 st1) := q
        cases z2 : gList gs ds r1 st1 with
        | none => rw [z2] at q'; exact q'
        | some y2 =>
          rw [z2] at q'
          exact fun W2 σ2 H2 f2 G2 c2 l2 => q' W2 σ2 H2 (f1.trans f2) G2 (fun j hj => by
            rw [List.mem_append, not_or] at hj
            rw [c2 j hj.2, c1 j hj.1]) (l2.trans l1)
theorem pg_tupS {es : List Expr} {k : Nat} {gs : List TgSem} {us : List Nat} (hK : p.K = X.K) (hc : X.calm = true) (h : PGs X es (tGs p gs us)) (hl : gs.length = es.length) (hn : (assignEach es X.env).length = es.length) (hst : (assignEach es X.env).findIdx? (·.1) = none) :
    PG X (.Tuple es k pos) (tG p (gTupS gs) us) := by
  refine (pg_tup hc h hn hst).weak fun v σ H Q ⟨W0, H0, Hs, W, r, st, x, G, R, hb, ho, q⟩ => ?_
  cases x with
  | fresh d => exact q.elim
  | peek d => exact q.elim
  | val d =>
    cases d with
    | tup ds =>
      obtain ⟨a, vs, rfl, h1, h2⟩ := R
      have q : okG p W0 H0 W σ H us Q (if ds.length = gs.length then gList gs ds r st else none) := q
      by_cases hd : ds.length = gs.length
      · rw [if_pos hd] at q
        exact ⟨a, vs, rfl, hK ▸ h1, by rw [h2.length, hd, hl], W0, H0, W, r, st, ds, G, h2, q⟩
      · rw [if_neg hd] at q
        exact q.elim
    | _ => exact q.elim
end

/-! ### statements -/
def okS (p : Prm) (Wx : WX) (W0 : Wd) (H0 : Hp) (W : Wd) (H : Hp) (D : Ends) : Option SR → Prop
  | none => False
  | some (.nx r' st') => ∀ W' σ' H', Fw W H W' H' → Good p W0 H0 W' σ' H' r' st' → D.nx σ' H'
  | some (.bk r' st') => ∀ W' σ' H', Fw W H W' H' → Good p W0 H0 W' σ' H' r' st' → D.bk σ' H'
  | some (.ct r' st') => ∀ W' σ' H', Fw W H W' H' → Good p W0 H0 W' σ' H' r' st' → D.ct σ' H'
  | some (.rt v st') => ∀ W' H' x, Fut W0 H0 W' H' → SOk p W' H' st' → RVr p H0 W' H' v x → D.rt x H'
  | some (.exc e r' st') => ∀ W' σ' H' c d, Fw W H W' H' → Good p W0 H0 W' σ' H' r' st' → RepEx p W' H' e c d → Wx c d σ' H'
theorem okS.from {p : Prm} {Wx : WX} {W0 W W1 : Wd} {H0 H H1 : Hp} {D : Ends} {o : Option SR} (f : Fw W H W1 H1) (q : okS p Wx W0 H0 W H D o) : okS p Wx W0 H0 W1 H1 D o := by
  cases o with
  | none => exact q
  | some o =>
    cases o with
    | nx r st => exact fun W' σ' H' g G => q W' σ' H' (f.trans g) G
    | bk r st => exact fun W' σ' H' g G => q W' σ' H' (f.trans g) G
    | ct r st => exact fun W' σ' H' g G => q W' σ' H' (f.trans g) G
    | rt v st => exact q
    | exc e r st => exact fun W' σ' H' c d g G R => q W' σ' H' c d (f.trans g) G R
def tS (p : Prm) (Wx : WX) (f : SSem) : TS := fun D σ H => ∃ W0 H0 W r st, Good p W0 H0 W σ H r st ∧ okS p Wx W0 H0 W H D (f r st)
section
variable {X : Cx} {p : Prm} {Wx : WX} {pos : Pos} {f g : ESem} {a b : SSem} {t : TSem} {s1 : Stmt} {ss : List Stmt} {e e1 e2 : Expr}
theorem _root_.L2.PS.weak {st : Stmt} {t t' : TS} (h : PS X st t) (w : ∀ D σ H, t' D σ H → t D σ H) : PS X st t' := ⟨fun pins s σ H D I q => h.run pins s σ H D I (w D σ H q)⟩
theorem _root_.L2.PSs.weak {st : List Stmt} {t t' : TS} (h : PSs X st t) (w : ∀ D σ H, t' D σ H → t D σ H) : PSs X st t' := ⟨fun pins s σ H D I q => h.run pins s σ H D I (w D σ H q)⟩
theorem ps_stuck : PS X s1 (tS p Wx sStuck) := ⟨fun _ _ _ _ _ _ ⟨_, _, _, _, _, _, z⟩ => z.elim⟩
theorem pss_stuck : PSs X ss (tS p Wx sStuck) := ⟨fun _ _ _ _ _ _ ⟨_, _, _, _, _, _, z⟩ => z.elim⟩
theorem pss_nilS : PSs X [] (tS p Wx sNext) := pss_nil.weak fun D σ H ⟨W0, H0, W, r, st, G, q⟩ => q W σ H Fw.refl G
theorem seq_weak {D : Ends} {σ : L2.St} {H : Hp} (w : tS p Wx (sSeq a b) D σ H) : tSeq (tS p Wx a) (tS p Wx b) D σ H := by
  obtain ⟨W0, H0, W, r, st, G, q⟩ := w
  refine ⟨W0, H0, W, r, st, G, ?_⟩
  unfold sSeq at q
  cases z : a r st with
  | none => rw [z] at q; exact q
  | some o =>
    rw [z] at q
    cases o with
    | nx r1 st1 => exact fun W1 σ1 H1 f1 G1 => ⟨W0, H0, W1, r1, st1, G1, okS.from f1 q⟩
    | bk r1 st1 => exact q
    | ct r1 st1 => exact q
    | rt v st1 => exact q
    | exc e r1 st1 => exact q
theorem pss_consS (h1 : PS X s1 (tS p Wx a)) (h2 : PSs X ss (tS p Wx b)) : PSs X (s1 :: ss) (tS p Wx (sSeq a b)) := (pss_cons h1 h2).weak fun _ _ _ => seq_weak
theorem pss_oneS (h1 : PS X s1 (tS p Wx a)) : PSs X [s1] (tS p Wx a) := pss_one h1
theorem ps_passS : PS X (.Pass pos) (tS p Wx sNext) := ps_pass.weak fun D σ H ⟨W0, H0, W, r, st, G, q⟩ => q W σ H Fw.refl G
theorem ps_breakS : PS X (.Break pos) (tS p Wx sBreak) := ps_break.weak fun D σ H ⟨W0, H0, W, r, st, G, q⟩ => q W σ H Fw.refl G
theorem ps_contS : PS X (.Continue pos) (tS p Wx sCont) := ps_continue.weak fun D σ H ⟨W0, H0, W, r, st, G, q⟩ => q W σ H Fw.refl G
theorem ps_exprS (he : PE X e (tE p Wx f)) (hs : swapsWith e none pos.line X.env = pure false) : PS X (.Expr e pos) (tS p Wx (sDrop f)) := by
  refine (ps_expr he hs).weak fun D σ H ⟨W0, H0, W, r, st, G, q⟩ => ?_
  unfold sDrop at q
  refine tE_bind G (fun v st1 e1 W1 H1 x f1 S1 R1 G1 => ?_) (fun e st1 e1 W1 H1 c d f1 S1 R1 => ?_) (fun z => ?_)
  · simp only [e1] at q
    exact q W1 σ H1 (f1.fw G.ok) G1
  · simp only [e1] at q
    exact q W1 σ H1 c d (f1.fw G.ok) (G.to f1 S1) R1
  · simp only [z] at q
    exact q
theorem ps_retS (he : PE X e (tE p Wx f)) : PS X (.Return (some e) pos) (tS p Wx (sRet f)) := by
  refine (ps_ret he).weak fun D σ H ⟨W0, H0, W, r, st, G, q⟩ => ?_
  unfold sRet at q
  refine tE_bind G (fun v st1 e1 W1 H1 x f1 S1 R1 G1 => ?_) (fun e st1 e1 W1 H1 c d f1 S1 R1 => ?_) (fun z => ?_)
  · simp only [e1] at q
    cases v with
    | val d => exact q W1 H1 x (G.fut.trans f1) S1 (R1.back fun a => G.fut.tr a)
    | fresh d => exact q W1 H1 x (G.fut.trans f1) S1 (R1.back fun a => G.fut.tr a)
    | peek d => exact q.elim
  · simp only [e1] at q
    exact q W1 σ H1 c d (f1.fw G.ok) (G.to f1 S1) R1
  · simp only [z] at q
    exact q
theorem ps_retVS {i : Nat} (he : PE X e (tVar i)) : PS X (.Return (some e) pos) (tS p Wx (sRetV i)) := by
  refine (ps_ret he).weak fun D σ H ⟨W0, H0, W, r, st, G, q⟩ => ?_
  unfold sRetV at q
  cases z : r[i]? with
  | none => rw [z] at q; exact q.elim
  | some s =>
    rw [z] at q
    cases s with
    | no => exact q.elim
    | val d =>
      obtain ⟨v, h1, h2⟩ := G.val i d z
      exact ⟨v, h1, q W H v G.fut G.ok h2⟩
    | own d =>
      obtain ⟨b, h1, h2, h3, h4, h5⟩ := G.own i d z
      exact ⟨_, h1, q W H _ G.fut G.ok ⟨b, rfl, h2, h3, h4, h5⟩⟩
theorem ps_retNS : PS X (.Return none pos) (tS p Wx sRetN) := ps_retN.weak fun D σ H ⟨W0, H0, W, r, st, G, q⟩ => q W H .non G.fut G.ok rfl
/-- where an expression's end meets a target -/
theorem to_target {W0 W W1 : Wd} {H0 H H1 : Hp} {σ : L2.St} {r : Rho} {st st1 : Store} (G : Good p W0 H0 W σ H r st) (f1 : Fut W H W1 H1) (S1 : SOk p W1 H1 st1) {x : RV} {v : V} (R : RVr p H W1 H1 x v) {gs : TgSem} {us : List Nat} {Q : L2.St → Hp → Prop}
    (q : okG p W0 H0 W σ H us Q (gs x r st1)) : tG p gs us v σ H1 Q := by
  refine ⟨W0, H0, H, W1, r, st1, x, G.to f1 S1, R, fun b z => G.fut.tr b z, fun i d a he hσ => ?_, ?_⟩
  · obtain ⟨b, k1, k2, _⟩ := G.own i d he
    rw [hσ] at k1
    injection k1 with k1
    injection k1 with k1
    injection k1 with k1
    subst k1
    obtain ⟨o, ho⟩ := k2.some
    exact some_ne ho
  · cases z : gs x r st1 with
    | none => rw [z] at q; exact q
    | some y =>
      rw [z] at q
      exact fun W' σ' H' g G' => q W' σ' H' (f1.trans g) G'
theorem asg_weak {gs : TgSem} {us : List Nat} {D : Ends} {σ : L2.St} {H : Hp} (w : tS p Wx (sAsg f gs) D σ H) : tAsg (tE p Wx f) (tG p gs us) D σ H := by
  obtain ⟨W0, H0, W, r, st, G, q⟩ := w
  unfold sAsg at q
  refine tE_bind G (fun v st1 e1 W1 H1 x f1 S1 R1 G1 => ?_) (fun e st1 e1 W1 H1 c d f1 S1 R1 => ?_) (fun z => ?_)
  · simp only [e1] at q
    refine to_target G f1 S1 R1 ?_
    cases z : gs v r st1 with
    | none => rw [z] at q; exact q
    | some y =>
      rw [z] at q
      exact fun W' σ' H' g G' _ _ => q W' σ' H' (g.fw G.ok) G'
  · simp only [e1] at q
    exact q W1 σ H1 c d (f1.fw G.ok) (G.to f1 S1) R1
  · simp only [z] at q
    exact q
theorem ps_asgS {tg : Expr} {gs : TgSem} {us : List Nat} (he : PE X e (tE p Wx f)) (hg : PG X tg (tG p gs us)) (hs : swapsWithSole [tg] e pos.line X.env = pure false) (hw : swappedStores [tg] e X.env = pure none) (h1 : (assignEach [tg] X.env).map (·.2) = [assign tg X.env]) :
    PS X (.Assign [tg] e pos) (tS p Wx (sAsg f gs)) := (ps_asg he hg hs hw h1).weak fun _ _ _ => asg_weak
theorem ps_setS {i : Nat} {x : Str} {pos' : Pos} (h : ∀ te : TE, PE X e te → PS X (.Assign [.Name x pos'] e pos) (tAsg te (gName i))) (he : PE X e (tE p Wx f)) : PS X (.Assign [.Name x pos'] e pos) (tS p Wx (sAsg f (gVar i))) :=
  (h _ he).weak fun D σ H w => by
    obtain ⟨W0, H0, W, r, st, G, q⟩ := asg_weak (us := [i]) w
    refine ⟨W0, H0, W, r, st, G, ?_⟩
    cases z : f r st with
    | none => rw [z] at q; exact q
    | some y =>
      rw [z] at q
      cases y with
      | ok v st1 => exact fun W1 H1 x f1 S1 R1 => gvar_run (q W1 H1 x f1 S1 R1)
      | exc e st1 => exact q
theorem par_weak {i j : Nat} {D : Ends} {σ : L2.St} {H : Hp} (w : tS p Wx (sPar2 i j f g) D σ H) : tCons (tE p Wx f) (tCons (tE p Wx g) tNil) σ H fun vs H1 => ∃ v w, vs = [v, w] ∧ D.nx ((σ.set i (some v)).set j (some w)) H1 := by
  obtain ⟨W0, H0, W, r, st, G, q⟩ := w
  unfold sPar2 at q
  refine tE_bind G (fun v st1 e1 W1 H1 x f1 S1 R1 G1 => ?_) (fun e st1 e1 W1 H1 c d f1 S1 R1 => ?_) (fun z => ?_)
  · simp only [e1] at q
    refine tE_bind G1 (fun w st2 e2 W2 H2 y f2 S2 R2 G2 => ?_) (fun e st2 e2 W2 H2 c d f2 S2 R2 => ?_) (fun z => ?_)
    · simp only [e2] at q
      refine ⟨x, y, rfl, ?_⟩
      have R1' := R1.fut f2 S1
      have R2' : RVr p H W2 H2 w y := R2.back fun a => f1.tr a
      have f12 := f1.trans f2
      have z1 : ∃ y1, gVar i v r st2 = some y1 := by
        cases z : gVar i v r st2 with
        | none => rw [z] at q; exact q.elim
        | some y1 => exact ⟨y1, rfl⟩
      obtain ⟨⟨r1, st3⟩, z1⟩ := z1
      rw [z1] at q
      dsimp only at q
      have z2 : ∃ y1, gVar j w r1 st3 = some y1 := by
        cases z : gVar j w r1 st3 with
        | none => rw [z] at q; exact q.elim
        | some y1 => exact ⟨y1, rfl⟩
      obtain ⟨⟨r3, st4⟩, z2⟩ := z2
      rw [z2] at q
      dsimp only at q
      have own_ne : ∀ (k : Nat) d b, r[k]? = some (.own d) → σ[k]? = some (some (.ref b)) → H b ≠ none := by
        intro k d b hk hσ
        obtain ⟨b', k1, k2, _⟩ := G.own k d hk
        rw [hσ] at k1
        injection k1 with k1
        injection k1 with k1
        injection k1 with k1
        subst k1
        obtain ⟨o, ho⟩ := k2.some
        exact some_ne ho
      have h0 : ∀ b, H b = none → H0 b = none := fun b => G.fut.none b
      have G2' := G.to f12 S2
      have Ga : Good p W0 H0 W2 (σ.set i (some x)) H2 r1 st3 := by
        cases v with
        | val d =>
          injection z1 with z1
          injection z1 with z3 z4
          subst z3 z4
          exact G2'.setVal R1'
        | peek d => cases z1
        | fresh d =>
          injection z1 with z1
          injection z1 with z3 z4
          subst z3 z4
          obtain ⟨b, rfl, k1, k2, k3, k4⟩ := R1'
          exact G2'.setOwn k1 k2 k3 (h0 b k4) fun k e hk he z => own_ne k e b he z k4
      have Gb : Good p W0 H0 W2 ((σ.set i (some x)).set j (some y)) H2 r3 st4 := by
        cases w with
        | val d =>
          injection z2 with z2
          injection z2 with z3 z4
          subst z3 z4
          exact Ga.setVal R2'
        | peek d => cases z2
        | fresh d =>
          injection z2 with z2
          injection z2 with z3 z4
          subst z3 z4
          obtain ⟨b, rfl, k1, k2, k3, k4⟩ := R2
          have k4' : H b = none := f1.none b k4
          refine Ga.setOwn k1 k2 k3 (h0 b k4') fun k e hk he z => ?_
          have ri : r1 = r.set i (match v with | .val d => .val d | .fresh d => .own d | .peek d => .no) := by
            cases v with
            | val d => injection z1 with z1; injection z1 with z3 z4; exact z3.symm
            | fresh d => injection z1 with z1; injection z1 with z3 z4; exact z3.symm
            | peek d => cases z1
          rw [ri] at he
          rcases get_set he with ⟨c1, c2⟩ | ⟨c1, c2⟩
          · subst c1
            rcases get_set z with ⟨_, m2⟩ | ⟨m1, _⟩
            · injection m2 with m2
              cases v with
              | val d => cases c2
              | peek d => cases c2
              | fresh d =>
                obtain ⟨b', e', q1, _⟩ := R1
                rw [m2] at e'
                injection e' with e'
                subst e'
                obtain ⟨o, ho⟩ := q1.some
                rw [k4] at ho
                cases ho
            · exact m1 rfl
          · rcases get_set z with ⟨m1, _⟩ | ⟨_, m2⟩
            · exact c1 m1
            · exact own_ne k e b c2 m2 k4'
      exact q W2 _ H2 (f12.fw G.ok) Gb
    · simp only [e2] at q
      exact q W2 σ H2 c d ((f1.trans f2).fw G.ok) (G.to (f1.trans f2) S2) R2
    · simp only [z] at q
      exact q.elim
  · simp only [e1] at q
    exact q W1 σ H1 c d (f1.fw G.ok) (G.to f1 S1) R1
  · simp only [z] at q
    exact q
theorem ps_ifS {c : Expr} {sa sb : List Stmt} (hc : PT X c (tT p Wx t)) (ha : PSs X sa (tS p Wx a)) (hb : PSs X sb (tS p Wx b)) : PS X (.If c sa sb pos) (tS p Wx (sIf t a b)) := by
  refine (ps_if hc ha hb).weak fun D σ H ⟨W0, H0, W, r, st, G, q⟩ => ?_
  unfold sIf at q
  refine tT_bind G (fun b st1 e1 W1 H1 f1 S1 G1 => ?_) (fun e st1 e1 W1 H1 c d f1 S1 R1 => ?_) (fun z => ?_)
  · simp only [e1] at q
    cases b with
    | true =>
      rw [if_pos rfl]
      exact ⟨W0, H0, W1, r, st1, G1, okS.from (f1.fw G.ok) q⟩
    | false =>
      rw [if_neg Bool.false_ne_true]
      exact ⟨W0, H0, W1, r, st1, G1, okS.from (f1.fw G.ok) q⟩
  · simp only [e1] at q
    exact q W1 σ H1 c d (f1.fw G.ok) (G.to f1 S1) R1
  · simp only [z] at q
    exact q
/-- freezing is no step of the program -/
theorem freeze_weak {i : Nat} {D : Ends} {σ : L2.St} {H : Hp} (w : tS p Wx (sSeq (sFreeze i) a) D σ H) : tS p Wx a D σ H := by
  obtain ⟨W0, H0, W, r, st, G, q⟩ := w
  unfold sSeq sFreeze at q
  cases z : r[i]? with
  | none => simp only [z] at q; exact ⟨W0, H0, W, r, st, G, q⟩
  | some s =>
    cases s with
    | no => simp only [z] at q; exact ⟨W0, H0, W, r, st, G, q⟩
    | val d => simp only [z] at q; exact ⟨W0, H0, W, r, st, G, q⟩
    | own d =>
      simp only [z] at q
      obtain ⟨b, h1, h2, h3, h4, h5⟩ := G.own i d z
      obtain ⟨o, ho⟩ := h2.some
      refine ⟨W0, H0, W.add b, r.set i (.val d), st, ⟨G.fut.still h5, G.ok.still h4 (some_ne ho), by rw [List.length_set]; exact G.len, fun j e hj => ?_, fun j e hj => ?_, fun j k d' e' a' g1 g2 g3 g4 => ?_⟩, okS.from ⟨fun _ h => .inl h, fun _ _ => rfl, Nat.le_refl _, fun _ _ _ h => h, fun _ _ h => h, fun _ _ _ h => h⟩ q⟩
      · rcases get_set hj with ⟨c1, c2⟩ | ⟨c1, c2⟩
        · injection c2 with c2
          subst c1 c2
          refine ⟨_, h1, ?_⟩
          exact h2.still
        · obtain ⟨v, k1, k2⟩ := G.val j e c2
          exact ⟨v, k1, Rep.add b e v k2⟩
      · rcases get_set hj with ⟨c1, c2⟩ | ⟨c1, c2⟩
        · cases c2
        · obtain ⟨a', k1, k2, k3, k4, k5⟩ := G.own j e c2
          refine ⟨a', k1, k2.add b, fun z' => ?_, k4, k5⟩
          rcases z' with z' | z'
          · exact k3 z'
          · subst z'
            exact c1 (G.one j i e d _ c2 z k1 h1)
      · rcases get_set g1 with ⟨c1, c2⟩ | ⟨c1, c2⟩
        · cases c2
        · rcases get_set g2 with ⟨m1, m2⟩ | ⟨m1, m2⟩
          · cases m2
          · exact G.one j k d' e' a' c2 m2 g3 g4
theorem ps_freeze {i : Nat} (h : PS X s1 (tS p Wx a)) : PS X s1 (tS p Wx (sSeq (sFreeze i) a)) := h.weak fun _ _ _ => freeze_weak
end
end Tz

set_option Elab.async false
set_option linter.all false
set_option maxRecDepth 100000
set_option maxHeartbeats 4000000
/-! Ts5: loops, what they walk, comprehensions. -/
namespace Tz
open PySem L2 PyProof.Rows
section
variable {X : Cx} {p : Prm} {Wx : WX} {pos : Pos} {f g : ESem} {a b : SSem} {t : TSem} {e : Expr}
theorem ps_whileS {c : Expr} {sb : List Stmt} (hp : PassesOwn (model X.prog X.w) X.A X.env X.xe) (hc : PT X c (tT p Wx t)) (hb : PSs X sb (tS p Wx b)) : PS X (.While c sb [] pos) (tS p Wx (whileS t b)) := by
  refine (ps_while hp hc hb).weak fun D σ H ⟨W0, H0, W, r, st, G, q⟩ => ?_
  cases z : whileS t b r st with
  | none => rw [z] at q; exact q.elim
  | some o =>
    rw [z] at q
    obtain ⟨n, hn⟩ := of_whileS z
    refine ⟨fun m σ H => ∃ W0 H0 W r st o, Good p W0 H0 W σ H r st ∧ iterW t b m r st = some o ∧ okS p Wx W0 H0 W H D (some o), ⟨n, W0, H0, W, r, st, o, G, hn, q⟩, ?_⟩
    rintro m σ H ⟨W0, H0, W, r, st, o, G, hn, q⟩
    cases m with
    | zero => cases hn
    | succ m =>
      unfold iterW at hn
      refine tT_bind G (fun k st1 e1 W1 H1 f1 S1 G1 => ?_) (fun e st1 e1 W1 H1 c d f1 S1 R1 => ?_) (fun z => ?_)
      · simp only [e1] at hn
        cases k with
        | false =>
          rw [if_neg Bool.false_ne_true]
          injection hn with hn
          subst hn
          exact q W1 σ H1 (f1.fw G.ok) G1
        | true =>
          rw [if_pos rfl]
          have fw1 := f1.fw G.ok
          refine ⟨fun σ' H' => ∃ W0 H0 W r st o, Good p W0 H0 W σ' H' r st ∧ iterW t b m r st = some o ∧ okS p Wx W0 H0 W H' D (some o), fun σ' H' z => ⟨m, Nat.lt_succ_self m, z⟩, W0, H0, W1, r, st1, G1, ?_⟩
          dsimp only at hn
          cases eb : b r st1 with
          | none => rw [eb] at hn; cases hn
          | some y =>
            rw [eb] at hn
            cases y with
            | nx r2 st2 => exact fun W' σ' H' g G' => ⟨W0, H0, W', r2, st2, o, G', hn, okS.from (fw1.trans g) q⟩
            | ct r2 st2 => exact fun W' σ' H' g G' => ⟨W0, H0, W', r2, st2, o, G', hn, okS.from (fw1.trans g) q⟩
            | bk r2 st2 =>
              injection hn with hn
              subst hn
              exact fun W' σ' H' g G' => q W' σ' H' (fw1.trans g) G'
            | rt v st2 =>
              injection hn with hn
              subst hn
              exact q
            | exc e r2 st2 =>
              injection hn with hn
              subst hn
              exact fun W' σ' H' c d g G' R => q W' σ' H' c d (fw1.trans g) G' R
      · simp only [e1] at hn
        injection hn with hn
        subst hn
        exact q W1 σ H1 c d (f1.fw G.ok) (G.to f1 S1) R1
      · simp only [z] at hn
        cases hn

/-! ### what is walked -/
/-- J yields xs, one a turn, whatever happens to things that aren't still -/
def Walks (p : Prm) (J : It) (W : Wd) (H : Hp) (xs : List D) : Prop := ∀ W' H' st, Fw W H W' H' → SOk p W' H' st → ∀ i : Nat,
  (∀ d, xs[i]? = some d → J.go i H' ∧ ∀ x H'', J.yld i H' x H'' → ∃ W'', Fut W' H' W'' H'' ∧ SOk p W'' H'' st ∧ Rep p W'' H'' d x) ∧ (xs.length ≤ i → J.stop i H')
/-- .. where nothing but new things comes -/
def WalksU (p : Prm) (J : It) (W : Wd) (H : Hp) (st0 : Store) (xs : List D) : Prop := ∀ W' H' st, Fut W H W' H' → SOk p W' H' st → ∀ i : Nat,
  (∀ d, xs[i]? = some d → J.go i H' ∧ ∀ x H'', J.yld i H' x H'' → ∃ W'', Fut W' H' W'' H'' ∧ SOk p W'' H'' st ∧ Rep p W'' H'' d x) ∧ (xs.length ≤ i → J.stop i H')
theorem Walks.u {J : It} {W : Wd} {H : Hp} {st : Store} {xs : List D} (S : SOk p W H st) (h : Walks p J W H xs) : WalksU p J W H st xs := fun W' H' st' f S' => h W' H' st' (f.fw S) S'
def tI (p : Prm) (it : ISem) : TI := fun σ H R => ∃ W0 H0 W r st, Good p W0 H0 W σ H r st ∧ match it r st with
  | none => False
  | some (xs, st') => ∀ W' H' J, Fut W H W' H' → SOk p W' H' st' → Walks p J W' H' xs → R J H'
def tIU (p : Prm) (it : ISem) : TI := fun σ H R => ∃ W0 H0 W r st, Good p W0 H0 W σ H r st ∧ match it r st with
  | none => False
  | some (xs, st') => ∀ W' H' J, Fut W H W' H' → SOk p W' H' st' → WalksU p J W' H' st' xs → R J H'
theorem _root_.L2.PI.weak {tg iter : Expr} {w w' : TI} (h : PI X tg iter w) (hw : ∀ σ H R, w' σ H R → w σ H R) : PI X tg iter w' := ⟨fun pins s σ H R I q => h.run pins s σ H R I (hw σ H R q)⟩
theorem pi_u {tg iter : Expr} {it : ISem} (h : PI X tg iter (tI p it)) : PI X tg iter (tIU p it) := h.weak fun σ H R ⟨W0, H0, W, r, st, G, q⟩ => by
  refine ⟨W0, H0, W, r, st, G, ?_⟩
  cases z : it r st with
  | none => rw [z] at q; exact q
  | some y =>
    rw [z] at q
    exact fun W' H' J f S w => q W' H' J f S (w.u S)
/-- a list or a tuple -/
def iSeq (K : PySem.W.Frag) (tl : TE) : TI := fun σ H R => tl σ H fun x H1 => ∃ a, x = .ref a ∧ ((∃ xs, SqL K H1 a xs) ∧ R (Itl K a) H1 ∨ (∃ xs, SqT K H1 a xs) ∧ R (Itt K a) H1)
theorem pi_seq {tg l : Expr} {tl : TE} (hl : PE X l tl) : PI X tg l (iSeq X.K tl) := by
  refine ⟨fun pins s σ H R I h => ?_⟩
  have hl' : ∀ (tl' : TE), (∀ σ H Q, tl' σ H Q → tl σ H Q) → PE X l tl' := fun tl' w => hl.weak w
  refine thn (hl.run pins s σ H _ I h) fun v s1 ⟨x, H1, I1, r1, q1⟩ => ?_
  obtain ⟨b, e, q⟩ := q1
  subst e
  cases r1
  rcases q with ⟨⟨xs, hq⟩, q⟩ | ⟨⟨xs, hq⟩, q⟩
  · obtain ⟨its, rv, pl, hz⟩ := I1.list hq
    refine wpAny_pyIter_list pl.isList ?_
    refine ⟨_, [s1.heap.objs.size], _, Itl X.K b, H1, rfl, I1.kept (t' := s1.toks) (fun c o z => Heap.get?_push_of_some _ z), turn_list b _, ⟨_, Heap.get?_push_size _ rfl, rfl, rfl⟩, fun c hc => ?_, q⟩
    obtain rfl : c = s1.heap.objs.size := List.mem_singleton.mp hc
    exact I1.fpOk (Nat.le_refl _) (I1.hok.fresh (Nat.le_refl _))
  · obtain ⟨its, rv, pl, hz⟩ := I1.tuple hq
    refine wpAny_pyIter_tuple (show s1.heap.IsTuple b its.toArray from pl) ?_
    refine ⟨_, [s1.heap.objs.size], _, Itt X.K b, H1, rfl, I1.kept (t' := s1.toks) (fun c o z => Heap.get?_push_of_some _ z), turn_tuple b _, ⟨_, Heap.get?_push_size _ rfl, rfl, rfl⟩, fun c hc => ?_, q⟩
    obtain rfl : c = s1.heap.objs.size := List.mem_singleton.mp hc
    exact I1.fpOk (Nat.le_refl _) (I1.hok.fresh (Nat.le_refl _))
theorem walks_list {K : PySem.W.Frag} {W : Wd} {H : Hp} {b : Addr} {vs : List V} {xs : List D} (hs : ∀ W' H', Fw W H W' H' → SqL K H' b vs) (hr : RepL p W H xs vs) : Walks p (Itl K b) W H xs := by
  intro W' H' st f S i
  have hv := hs W' H' f
  have hr' := RepL.fw f xs vs hr
  refine ⟨fun d e => ?_, fun hi => ⟨vs, hv, by rw [hr.length]; exact hi⟩⟩
  obtain ⟨v, e1, e2⟩ := hr'.get e
  refine ⟨⟨vs, v, hv, e1⟩, fun x H'' y => ?_⟩
  obtain ⟨rfl, y⟩ := y
  have z := y vs hv
  rw [e1] at z
  injection z with z
  subst z
  exact ⟨W', Fut.refl, S, e2⟩
theorem walks_tup {K : PySem.W.Frag} {W : Wd} {H : Hp} {b : Addr} {vs : List V} {xs : List D} (hs : SqT K H b vs) (hr : RepL p W H xs vs) : Walks p (Itt K b) W H xs := by
  intro W' H' st f S i
  have hv := sqT_keep f hs
  have hr' := RepL.fw f xs vs hr
  refine ⟨fun d e => ?_, fun hi => ⟨vs, hv, by rw [hr.length]; exact hi⟩⟩
  obtain ⟨v, e1, e2⟩ := hr'.get e
  refine ⟨⟨vs, v, hv, e1⟩, fun x H'' y => ?_⟩
  obtain ⟨rfl, y⟩ := y
  have z := y vs hv
  rw [e1] at z
  injection z with z
  subst z
  exact ⟨W', Fut.refl, S, e2⟩
theorem walks_range {W : Wd} {H : Hp} {lo : Int} {n : Nat} : Walks p (Itr lo n) W H ((List.range n).map fun i : Nat => D.int (lo + i)) := by
  intro W' H' st f S i
  refine ⟨fun d e => ?_, fun hi => (show n ≤ i from by simpa using hi)⟩
  have hi : i < n := by
    have := (List.getElem?_eq_some_iff.mp e).1
    simpa using this
  refine ⟨hi, fun x H'' y => ?_⟩
  obtain ⟨rfl, rfl⟩ := y
  rw [List.getElem?_map, List.getElem?_range hi] at e
  injection e with e
  subst e
  exact ⟨W', Fut.refl, S, rfl⟩
/-- the items of what stays (a list just made stays from here on) -/
def itemsOf (v : RV) : Option (List D) := match v with
  | .val (.tup xs) => some xs
  | .val (.lst xs) => some xs
  | .val (.rol xs) => some xs
  | .fresh (.lst xs) => some xs
  | _ => none
/-- .. or of a list that a slot owns -/
def itemsU (v : RV) : Option (List D) := match v with
  | .peek (.lst xs) => some xs
  | v => itemsOf v
def iExp (a : ESem) : ISem := iOf (fun _ v => itemsOf v) a
def iExpU (a : ESem) : ISem := iOf (fun _ v => itemsU v) a
theorem items_walk (hK : p.K = X.K) {W W1 : Wd} {H H1 : Hp} {st1 : Store} {v : RV} {x : V} {xs : List D} (f1 : Fut W H W1 H1) (S1 : SOk p W1 H1 st1) (R1 : RVr p H W1 H1 v x) (e : itemsOf v = some xs) :
    ∃ b W2, x = .ref b ∧ Fut W H W2 H1 ∧ SOk p W2 H1 st1 ∧ (((∃ vs, SqL X.K H1 b vs) ∧ Walks p (Itl X.K b) W2 H1 xs) ∨ ((∃ vs, SqT X.K H1 b vs) ∧ Walks p (Itt X.K b) W2 H1 xs)) := by
  have tl : ∀ {W2 : Wd} {b : Addr} {vs : List V}, W2.F b → H1 b = some (.lst vs) → RepL p W2 H1 xs vs → ((∃ vs, SqL X.K H1 b vs) ∧ Walks p (Itl X.K b) W2 H1 xs) :=
    fun {W2 b vs} h1 h2 h3 => ⟨⟨vs, SqL.of h2⟩, walks_list (fun W' H' f => sqL_keep f h1 (SqL.of h2)) h3⟩
  cases v with
  | peek d => cases e
  | fresh d =>
    cases d with
    | lst ys =>
      injection e with e
      subst e
      obtain ⟨b, rfl, ⟨vs, h1, h2⟩, h3, h4, h5⟩ := R1
      exact ⟨b, W1.add b, rfl, f1.still h5, S1.still h4 (some_ne h1), .inl (tl (.inr rfl) h1 (RepL.add b _ _ h2))⟩
    | _ => cases e
  | val d =>
    cases d with
    | tup ys =>
      injection e with e
      subst e
      obtain ⟨b, vs, rfl, h1, h2⟩ := R1
      rw [hK] at h1
      exact ⟨b, W1, rfl, f1, S1, .inr ⟨⟨vs, h1⟩, walks_tup h1 h2⟩⟩
    | lst ys =>
      injection e with e
      subst e
      obtain ⟨b, vs, rfl, h1, h2, h3⟩ := R1
      exact ⟨b, W1, rfl, f1, S1, .inl (tl h1 h2 h3)⟩
    | rol ys =>
      injection e with e
      subst e
      obtain ⟨b, vs, rfl, h1, h3⟩ := R1
      rw [hK] at h1
      rcases h1 with ⟨h1, h2⟩ | h2
      · exact ⟨b, W1, rfl, f1, S1, .inl ⟨⟨vs, h2⟩, walks_list (fun W' H' f => sqL_keep f h1 h2) h3⟩⟩
      · exact ⟨b, W1, rfl, f1, S1, .inl ⟨⟨vs, h2 H1⟩, walks_list (fun W' H' f => h2 H') h3⟩⟩
    | _ => cases e
theorem pi_exp (hK : p.K = X.K) {tg l : Expr} (hl : PE X l (tE p Wx f)) : PI X tg l (tI p (iExp f)) := by
  refine (pi_seq hl).weak fun σ H R ⟨W0, H0, W, r, st, G, q⟩ => ?_
  unfold iExp iOf at q
  refine tE_bind G (fun v st1 e1 W1 H1 x f1 S1 R1 G1 => ?_) (fun e st1 e1 => ?_) (fun z => ?_)
  · simp only [e1] at q
    cases ez : itemsOf v with
    | none => simp only [ez] at q
    | some xs =>
      simp only [ez] at q
      obtain ⟨b, W2, rfl, f2, S2, h⟩ := items_walk hK f1 S1 R1 ez
      refine ⟨b, rfl, ?_⟩
      rcases h with ⟨h1, h2⟩ | ⟨h1, h2⟩
      · exact .inl ⟨h1, q W2 H1 _ f2 S2 h2⟩
      · exact .inr ⟨h1, q W2 H1 _ f2 S2 h2⟩
  · simp only [e1] at q
  · simp only [z] at q
theorem pi_expU (hK : p.K = X.K) {tg l : Expr} (hl : PE X l (tE p Wx f)) : PI X tg l (tIU p (iExpU f)) := by
  refine (pi_seq hl).weak fun σ H R ⟨W0, H0, W, r, st, G, q⟩ => ?_
  unfold iExpU iOf at q
  refine tE_bind G (fun v st1 e1 W1 H1 x f1 S1 R1 G1 => ?_) (fun e st1 e1 => ?_) (fun z => ?_)
  · simp only [e1] at q
    have go : ∀ {xs}, itemsOf v = some xs → (∀ W' H' J, Fut W H W' H' → SOk p W' H' st1 → WalksU p J W' H' st1 xs → R J H') → ∃ a, x = .ref a ∧ ((∃ xs, SqL X.K H1 a xs) ∧ R (Itl X.K a) H1 ∨ (∃ xs, SqT X.K H1 a xs) ∧ R (Itt X.K a) H1) := by
      intro xs ez q
      obtain ⟨b, W2, rfl, f2, S2, h⟩ := items_walk hK f1 S1 R1 ez
      refine ⟨b, rfl, ?_⟩
      rcases h with ⟨h1, h2⟩ | ⟨h1, h2⟩
      · exact .inl ⟨h1, q W2 H1 _ f2 S2 (h2.u S2)⟩
      · exact .inr ⟨h1, q W2 H1 _ f2 S2 (h2.u S2)⟩
    cases v with
    | val d =>
      cases ez : itemsOf (.val d) with
      | none =>
        have ez' : itemsU (.val d) = none := ez
        simp only [ez'] at q
      | some xs =>
        have ez' : itemsU (.val d) = some xs := ez
        simp only [ez'] at q
        exact go ez q
    | fresh d =>
      cases ez : itemsOf (.fresh d) with
      | none =>
        have ez' : itemsU (.fresh d) = none := ez
        simp only [ez'] at q
      | some xs =>
        have ez' : itemsU (.fresh d) = some xs := ez
        simp only [ez'] at q
        exact go ez q
    | peek d =>
      cases d with
      | lst xs =>
        obtain ⟨b, rfl, h1, h2, h3⟩ := R1
        have hv : ∃ vs, H1 b = some (.lst vs) ∧ RepL p W1 H1 xs vs := h1
        obtain ⟨vs, hv, hr⟩ := hv
        refine ⟨b, rfl, .inl ⟨⟨vs, SqL.of hv⟩, q W1 H1 _ f1 S1 ?_⟩⟩
        intro W' H' st' ff SS i
        have hv' : H' b = some (.lst vs) := ff.keep b _ hv h3
        have hr' := RepL.fut ff S1 xs vs hr
        refine ⟨fun d e => ?_, fun hi => ⟨vs, SqL.of hv', by rw [hr.length]; exact hi⟩⟩
        obtain ⟨w, k1, k2⟩ := hr'.get e
        refine ⟨⟨vs, w, SqL.of hv', k1⟩, fun x H'' y => ?_⟩
        obtain ⟨rfl, y⟩ := y
        have z := y vs (SqL.of hv')
        rw [k1] at z
        injection z with z
        subst z
        exact ⟨W', Fut.refl, SS, k2⟩
      | _ => exact False.elim q
  · simp only [e1] at q
  · simp only [z] at q
/-- range(n) -/
def iRange1 (a : ESem) : ISem := fun r st => match a r st with
  | some (.ok (.val (.int j)) st1) => if -(2 ^ 62) ≤ j ∧ j < 2 ^ 62 then some ((List.range j.toNat).map fun i : Nat => D.int (0 + i), st1) else none
  | _ => none
def iRange2 (a b : ESem) : ISem := fun r st => match a r st with
  | some (.ok (.val (.int i)) st1) => match b r st1 with
    | some (.ok (.val (.int j)) st2) => if (-(2 ^ 62) ≤ i ∧ i < 2 ^ 62) ∧ (-(2 ^ 62) ≤ j ∧ j < 2 ^ 62) then some ((List.range (j - i).toNat).map fun k : Nat => D.int (i + k), st2) else none
    | _ => none
  | _ => none
theorem pi_range1S {tg a1 : Expr} {pp : Pos} (hg : Gl X "range") (hm : X.mg "range" = none) (ha : PE X a1 (tE p Wx f)) (hs : notStar a1 = true) : PI X tg (.Call (.Name "range" pp) [a1] [] pos) (tI p (iRange1 f)) := by
  refine (pi_range1 hg hm (pa_cons ha pa_nil (starEach_cons hs)) (by rw [starEach_cons hs]; rfl)).weak fun σ H R ⟨W0, H0, W, r, st, G, q⟩ => ?_
  unfold iRange1 at q
  refine tE_bind G (fun v st1 e1 W1 H1 x f1 S1 R1 G1 => ?_) (fun e st1 e1 => ?_) (fun z => ?_)
  · simp only [e1] at q
    cases v with
    | val d =>
      cases d with
      | int j =>
        have hx : x = .int j := R1
        subst hx
        by_cases hj : -(2 ^ 62) ≤ j ∧ j < 2 ^ 62
        · have q : ∀ W' H' J, Fut W H W' H' → SOk p W' H' st1 → Walks p J W' H' ((List.range j.toNat).map fun i : Nat => D.int (0 + i)) → R J H' := by
            have z := q
            dsimp only at z
            rw [if_pos hj] at z
            exact z
          exact ⟨j, rfl, hj.1, hj.2, q W1 H1 _ f1 S1 walks_range⟩
        · dsimp only at q
          rw [if_neg hj] at q
          exact q.elim
      | _ => exact False.elim q
    | _ => exact False.elim q
  · simp only [e1] at q
  · simp only [z] at q
theorem pi_range2S {tg a1 a2 : Expr} {pp : Pos} (hg : Gl X "range") (hm : X.mg "range" = none) (ha : PE X a1 (tE p Wx f)) (hb : PE X a2 (tE p Wx g)) (hs : notStar a1 = true) (hs2 : notStar a2 = true) : PI X tg (.Call (.Name "range" pp) [a1, a2] [] pos) (tI p (iRange2 f g)) := by
  refine (pi_range2 hg hm (pa_cons ha (pa_cons hb pa_nil (starEach_cons hs2)) (starEach_cons hs)) (by rw [starEach_cons hs, starEach_cons hs2]; rfl) (by rw [starEach_cons hs2]; rfl)).weak fun σ H R ⟨W0, H0, W, r, st, G, q⟩ => ?_
  unfold iRange2 at q
  refine tE_bind G (fun v st1 e1 W1 H1 x f1 S1 R1 G1 => ?_) (fun e st1 e1 => ?_) (fun z => ?_)
  · simp only [e1] at q
    cases v with
    | val d =>
      cases d with
      | int i =>
        have hx : x = .int i := R1
        subst hx
        refine tE_bind G1 (fun v st2 e2 W2 H2 x f2 S2 R2 G2 => ?_) (fun e st2 e2 => ?_) (fun z => ?_)
        · simp only [e2] at q
          cases v with
          | val d =>
            cases d with
            | int j =>
              have hx : x = .int j := R2
              subst hx
              dsimp only at q
              by_cases hj : (-(2 ^ 62) ≤ i ∧ i < 2 ^ 62) ∧ (-(2 ^ 62) ≤ j ∧ j < 2 ^ 62)
              · have q : ∀ W' H' J, Fut W H W' H' → SOk p W' H' st2 → Walks p J W' H' ((List.range (j - i).toNat).map fun k : Nat => D.int (i + k)) → R J H' := by
                  have z := q
                  rw [if_pos hj] at z
                  exact z
                exact ⟨i, j, rfl, ⟨hj.1.1, hj.1.2, hj.2.1, hj.2.2⟩, q W2 H2 _ (f1.trans f2) S2 walks_range⟩
              · rw [if_neg hj] at q
                exact q.elim
            | _ => exact False.elim q
          | _ => exact False.elim q
        · simp only [e2] at q
        · simp only [z] at q
      | _ => exact False.elim q
    | _ => exact False.elim q
  · simp only [e1] at q
  · simp only [z] at q
theorem own_there {W0 W : Wd} {H0 H : Hp} {σ : L2.St} {r : Rho} {st : Store} (G : Good p W0 H0 W σ H r st) : ∀ (i : Nat) d c, r[i]? = some (.own d) → σ[i]? = some (some (.ref c)) → H c ≠ none := fun i d c he hσ => by
  obtain ⟨b, k1, k2, _⟩ := G.own i d he
  rw [hσ] at k1
  injection k1 with k1
  injection k1 with k1
  injection k1 with k1
  subst k1
  obtain ⟨o, ho⟩ := k2.some
  exact some_ne ho
theorem ps_forS {tg iter : Expr} {sb : List Stmt} {it : ISem} {gs : TgSem} {us : List Nat} (hp : PassesOwn (model X.prog X.w) X.A X.env X.xe) (hc : X.calm = true) (hi : PI X tg iter (tI p it)) (hg : PG X tg (tG p gs us)) (hb : PSs X sb (tS p Wx b)) (hs : ∀ x, foldedSetIterable iter X.env x = pure x) :
    PS X (.For tg iter sb [] pos) (tS p Wx (sFor it gs b)) := by
  refine (ps_for hp hc hi hg hb hs).weak fun D σ H ⟨W0, H0, W, r, st, G, q⟩ => ?_
  unfold sFor at q
  refine ⟨W0, H0, W, r, st, G, ?_⟩
  cases ei : it r st with
  | none => rw [ei] at q; exact q
  | some y =>
    obtain ⟨xs, st1⟩ := y
    rw [ei] at q
    intro W1 H1 J f1 S1 wk
    refine ⟨fun i m σ H => ∃ W0 H0 W r st, Good p W0 H0 W σ H r st ∧ Fw W1 H1 W H ∧ okS p Wx W0 H0 W H D (forS gs b (xs.drop i) r st) ∧ m = xs.length - i ∧ i ≤ xs.length,
      ⟨_, W0, H0, W1, r, st1, G.to f1 S1, Fw.refl, okS.from (f1.fw G.ok) q, rfl, Nat.zero_le _⟩, ?_⟩
    rintro i m σ H ⟨W0, H0, W, r, st, G, fw, q, rfl, hi⟩
    obtain ⟨w1, w2⟩ := wk W H st fw G.ok i
    by_cases hlt : i < xs.length
    · have ed : xs.drop i = xs[i] :: xs.drop (i + 1) := List.drop_eq_getElem_cons hlt
      obtain ⟨go, yl⟩ := w1 xs[i] (List.getElem?_eq_getElem hlt)
      rw [ed] at q
      refine .inr ⟨go, fun σ' H' => ∃ W0 H0 W r st, Good p W0 H0 W σ' H' r st ∧ Fw W1 H1 W H' ∧ okS p Wx W0 H0 W H' D (forS gs b (xs.drop (i + 1)) r st), fun σ' H' ⟨W0, H0, W, r, st, G, fw, q⟩ => ⟨xs.length - (i + 1), by omega, W0, H0, W, r, st, G, fw, q, rfl, hlt⟩, fun x H' y => ?_⟩
      obtain ⟨W', f2, S2, R2⟩ := yl x H' y
      have G2 := G.to f2 S2
      have fw2 : Fw W H W' H' := f2.fw G.ok
      unfold forS at q
      refine ⟨W0, H0, H, W', r, st, .val xs[i], G2, R2, fun c z => G.fut.tr c z, own_there G, ?_⟩
      cases eg : gs (.val xs[i]) r st with
      | none => rw [eg] at q; exact q
      | some y =>
        obtain ⟨r1, st2⟩ := y
        rw [eg] at q
        intro W3 σ3 H3 f3 G3 _ _
        refine ⟨W0, H0, W3, r1, st2, G3, ?_⟩
        have f23 := fw2.trans (f3.fw G2.ok)
        dsimp only at q
        cases eb : b r1 st2 with
        | none => rw [eb] at q; exact q
        | some o =>
          rw [eb] at q
          cases o with
          | nx r2 st3 => exact fun W4 σ4 H4 f4 G4 => ⟨W0, H0, W4, r2, st3, G4, fw.trans (f23.trans f4), okS.from (f23.trans f4) q⟩
          | ct r2 st3 => exact fun W4 σ4 H4 f4 G4 => ⟨W0, H0, W4, r2, st3, G4, fw.trans (f23.trans f4), okS.from (f23.trans f4) q⟩
          | bk r2 st3 => exact fun W4 σ4 H4 f4 G4 => q W4 σ4 H4 (f23.trans f4) G4
          | rt v st3 => exact q
          | exc e r2 st3 => exact fun W4 σ4 H4 c d f4 G4 R => q W4 σ4 H4 c d (f23.trans f4) G4 R
    · have e : i = xs.length := by omega
      subst e
      rw [List.drop_length] at q
      exact .inl ⟨w2 (Nat.le_refl _), q W σ H Fw.refl G⟩
/-! ### a list changed, no still one -/
theorem Fw.mut {W : Wd} {H : Hp} {D : Addr} {o0 o : HO} (h : ¬ W.F D) (hd : H D = some o0) (hm : MutO o0) : Fw W H W (upd H D o) := by
  have ne : ∀ a u, H a = some u → ¬ MutO u → a ≠ D := fun a u e n z => by
    rw [z, hd] at e
    injection e with e
    exact n (e ▸ hm)
  exact ⟨fun _ z => z, fun _ _ => rfl, Nat.le_refl _, fun a u hf e => by rw [upd_ne (fun z : a = D => h (by rw [← z]; exact hf))]; exact e, fun a xs e => by rw [upd_ne (ne a _ e (fun z => z))]; exact e, fun a u v e => by rw [upd_ne (ne a _ e (fun z => z))]; exact e⟩
theorem Fut.mut {W1 W : Wd} {H1 H : Hp} {D : Addr} {o : HO} (f : Fut W1 H1 W H) (h : H1 D = Option.none) (hd : H D ≠ Option.none) : Fut W1 H1 W (upd H D o) :=
  ⟨f.fsub, f.mu, fun a u e hn => by rw [upd_ne (ne_of_none e h)]; exact f.keep a u e hn, f.nf, f.dom, f.le, fun a z => by
    by_cases e : a = D
    · subst e; rw [upd_same]; exact fun z => by cases z
    · rw [upd_ne e]; exact f.tr a z⟩
theorem SOk.mut {W : Wd} {H : Hp} {st : Store} {D : Addr} {o0 o : HO} (S : SOk p W H st) (h : ¬ W.F D) (hn : ∀ i, i < W.n → W.mu i ≠ D) (hd : H D = some o0) (hm : MutO o0) : SOk p W (upd H D o) st := by
  have fm := Fw.mut (o := o) h hd hm
  refine ⟨S.len, fun n d e => ?_, S.nf, S.inj, fun a z => ?_⟩
  · have hl : n < W.n := by rw [← S.len]; exact (List.getElem?_eq_some_iff.mp e).1
    have c := S.at_ n d e
    exact c.moved fm fun u h1 => by rw [upd_ne (hn n hl)]; exact h1
  · by_cases e : a = D
    · subst e; rw [upd_same]; exact fun z => by cases z
    · rw [upd_ne e]; exact S.fok a z
/-! ### comprehensions -/
theorem wipe_len (r : Rho) : ∀ ws : List Nat, (wipeR r ws).length = r.length
  | [] => rfl
  | i :: is => by unfold wipeR; rw [List.length_set, wipe_len r is]
theorem wipe_get {r : Rho} {i : Nat} {s : Sl} : ∀ {ws : List Nat}, (wipeR r ws)[i]? = some s → s ≠ .no → r[i]? = some s ∧ i ∉ ws
  | [], h, _ => ⟨h, by simp⟩
  | w :: ws, h, hs => by
    unfold wipeR at h
    rcases get_set h with ⟨_, e⟩ | ⟨e1, e2⟩
    · exact absurd e.symm hs
    · obtain ⟨k1, k2⟩ := wipe_get e2 hs
      exact ⟨k1, by simp only [List.mem_cons, not_or]; exact ⟨e1, k2⟩⟩
theorem wipe_keep {σ : L2.St} {i : Nat} : ∀ {ws : List Nat}, i ∉ ws → (wipe σ ws)[i]? = σ[i]?
  | [], _ => rfl
  | w :: ws, h => by
    simp only [List.mem_cons, not_or] at h
    unfold wipe
    rw [List.getElem?_set_ne (Ne.symm h.1), wipe_keep h.2]
theorem Good.wipe {W0 W : Wd} {H0 H : Hp} {σ : L2.St} {r : Rho} {st : Store} (G : Good p W0 H0 W σ H r st) (ws : List Nat) : Good p W0 H0 W (L2.wipe σ ws) H (wipeR r ws) st where
  fut := G.fut
  ok := G.ok
  len := by rw [wipe_length, wipe_len]; exact G.len
  val := fun i d e => by
    obtain ⟨e1, e2⟩ := wipe_get e (fun z => by cases z)
    obtain ⟨v, h1, h2⟩ := G.val i d e1
    exact ⟨v, by rw [wipe_keep e2]; exact h1, h2⟩
  own := fun i d e => by
    obtain ⟨e1, e2⟩ := wipe_get e (fun z => by cases z)
    obtain ⟨v, h1, h2⟩ := G.own i d e1
    exact ⟨v, by rw [wipe_keep e2]; exact h1, h2⟩
  one := fun i j d e b h1 h2 h3 h4 => by
    obtain ⟨e1, e2⟩ := wipe_get h1 (fun z => by cases z)
    obtain ⟨k1, k2⟩ := wipe_get h2 (fun z => by cases z)
    rw [wipe_keep e2] at h3
    rw [wipe_keep k2] at h4
    exact G.one i j d e b e1 k1 h3 h4
theorem wipe_same {σ τ : L2.St} (ws : List Nat) (h : ∀ i, i ∉ ws → τ[i]? = (wipe σ ws)[i]?) (hl : τ.length = (wipe σ ws).length) : wipe τ ws = wipe σ ws := by
  have in_ws : ∀ (us : List Nat) (ρ : L2.St) (i : Nat), i ∈ us → i < ρ.length → (wipe ρ us)[i]? = some none := by
    intro us
    induction us with
    | nil => intro ρ i hi; cases hi
    | cons u us ih =>
      intro ρ i hi hl
      unfold wipe
      by_cases e : u = i
      · subst e
        exact List.getElem?_set_self (by rw [wipe_length]; exact hl)
      · rw [List.getElem?_set_ne e]
        rcases List.mem_cons.mp hi with z | z
        · exact absurd z.symm e
        · exact ih ρ i z hl
  refine List.ext_getElem? fun i => ?_
  by_cases hi : i ∈ ws
  · by_cases hb : i < σ.length
    · rw [in_ws ws σ i hi hb, in_ws ws τ i hi (by rw [hl, wipe_length]; exact hb)]
    · rw [List.getElem?_eq_none (by rw [wipe_length, hl, wipe_length]; omega), List.getElem?_eq_none (by rw [wipe_length]; omega)]
  · rw [wipe_keep hi]
    exact h i hi
theorem pe_compS {tg iter elt : Expr} {ifs : List Expr} {scope : Scope} {own : List (Str × Nat)} {it : ISem} {gs : TgSem} {us : List Nat} {ts : TSem} {es : ESem} (hc : X.calm = true) (hN : X.N.Nodup) (hi : PI X tg iter (tIU p it)) (ok : BlkOk X.N X.env.scope scope own)
    (hg : ∀ (s : Shared) (H : Hp) (C : Addr) (cl : List (Str × Addr)) (fp : List Addr), PG (X.blk s H scope (compEnvC scope cl C X.env) fp) tg (tG p gs us)) (hgi : ∀ j, j ∈ us → j ∈ own.map (·.2))
    (ht : ∀ (s : Shared) (H : Hp) (C : Addr) (cl : List (Str × Addr)) (fp : List Addr), PTs (X.blk s H scope (compEnvC scope cl C X.env) fp) ifs (tT p (fun _ _ _ _ => False) ts))
    (he : ∀ (s : Shared) (H : Hp) (C : Addr) (cl : List (Str × Addr)) (fp : List Addr), PE (X.blk s H scope (compEnvC scope cl C X.env) fp) elt (tE p (fun _ _ _ _ => False) es)) (hs : ∀ x, foldedSetIterable iter X.env x = pure x) :
    ∀ σ H Q, tE p Wx (eComp (own.map (·.2)) it gs ts es) σ H Q → tLc (tIU p it) (tG p gs us) (tT p (fun _ _ _ _ => False) ts) (tE p (fun _ _ _ _ => False) es) (own.map (·.2)) σ H Q := by
  intro σ H Q ⟨W0, H0, W, r, st, G, q⟩
  unfold eComp at q
  refine ⟨W0, H0, W, r, st, G, ?_⟩
  cases ei : it r st with
  | none => simp only [ei] at q; exact q
  | some y =>
    obtain ⟨xs, st1⟩ := y
    simp only [ei] at q
    intro W1 H1 J f1 S1 wk D hD
    have G1 := (G.to f1 S1).wipe (own.map (·.2))
    cases ec : compL gs ts es (wipeR r (own.map (·.2))) [] xs st1 with
    | none => simp only [ec] at q; exact q.elim
    | some y =>
      obtain ⟨ys, st2⟩ := y
      simp only [ec] at q
      refine ⟨fun i m H => ∃ W st acc, Fut W1 H1 W H ∧ SOk p W H st ∧ RVr p H1 W H (.peek (.lst acc)) (.ref D) ∧ compL gs ts es (wipeR r (own.map (·.2))) acc (xs.drop i) st = some (ys, st2) ∧ m = xs.length - i ∧ i ≤ xs.length,
        ⟨_, W1, st1, [], Fut.laid S1 hD, S1.laid hD, ⟨D, rfl, ⟨[], upd_same, rfl⟩, S1.nF hD, S1.ne hD⟩, ec, rfl, Nat.zero_le _⟩, ?_⟩
      rintro i m H ⟨W, st, acc, f, S, hv, hcl, rfl, hi⟩
      obtain ⟨w1, w2⟩ := wk W H st f S i
      by_cases hlt : i < xs.length
      · have ed : xs.drop i = xs[i] :: xs.drop (i + 1) := List.drop_eq_getElem_cons hlt
        obtain ⟨go, yl⟩ := w1 xs[i] (List.getElem?_eq_getElem hlt)
        rw [ed] at hcl
        unfold compL at hcl
        refine .inr ⟨go, fun H' => ∃ W st acc, Fut W1 H1 W H' ∧ SOk p W H' st ∧ RVr p H1 W H' (.peek (.lst acc)) (.ref D) ∧ compL gs ts es (wipeR r (own.map (·.2))) acc (xs.drop (i + 1)) st = some (ys, st2), fun H' ⟨W, st, acc, z1, z2, z3, z4⟩ => ⟨xs.length - (i + 1), by omega, W, st, acc, z1, z2, z3, z4, rfl, hlt⟩, fun x H' y => ?_⟩
        obtain ⟨W', f2, S2, R2⟩ := yl x H' y
        have f12 := f.trans f2
        have G2 := G1.to f12 S2
        have hv2 := hv.fut f2 S
        refine ⟨W0, H0, H1, W', _, st, .val xs[i], G2, R2, fun c z => G1.fut.tr c z, fun j d c he hσ => own_there G1 j d c he hσ, ?_⟩
        cases eg : gs (.val xs[i]) (wipeR r (own.map (·.2))) st with
        | none => rw [eg] at hcl; cases hcl
        | some y =>
          obtain ⟨r1, st3⟩ := y
          rw [eg] at hcl
          dsimp only at hcl
          intro W3 σ3 H3 f3 G3 c3 l3
          refine ⟨wipe_same _ (fun j hj => c3 j fun z => hj (hgi j z)) l3, ?_⟩
          have hv3 := hv2.fut f3 S2
          refine tT_bind G3 (fun k st4 e4 W4 H4 f4 S4 G4 => ?_) (fun e st4 e4 => ?_) (fun z => ?_)
          · simp only [e4] at hcl
            have f14 := f12.trans (f3.trans f4)
            have hv4 := hv3.fut f4 G3.ok
            cases k with
            | false =>
              rw [if_neg Bool.false_ne_true]
              exact ⟨W4, st4, acc, f14, S4, hv4, hcl⟩
            | true =>
              rw [if_pos rfl]
              dsimp only at hcl
              refine tE_bind G4 (fun v st5 e5 W5 H5 yv f5 S5 R5 G5 => ?_) (fun e st5 e5 => ?_) (fun z => ?_)
              · simp only [e5] at hcl
                cases ev : v.toVal with
                | none => rw [ev] at hcl; cases hcl
                | some d =>
                  rw [ev] at hcl
                  dsimp only at hcl
                  by_cases hl : acc.length < lim
                  · rw [if_pos hl] at hcl
                    obtain ⟨W6, S6, R6, mk⟩ := R5.toVal S5 ev
                    have f46 : Fut W4 H4 W6 H5 := mk f5 fun _ z => z
                    obtain ⟨D', eD, ⟨vs, h1, h2⟩, h3, h4⟩ := hv4.fut f46 S4
                    injection eD with eD
                    subst eD
                    have fm := Fw.mut (o := .lst (vs ++ [yv])) h3 h1 trivial
                    refine ⟨vs, h1, by rw [h2.length]; exact lim_lt hl, W6, st5, acc ++ [d], (f14.trans f46).mut hD (some_ne h1), S6.mut h3 h4 h1 trivial, ⟨D, rfl, ⟨_, upd_same, RepL.fw fm _ _ (h2.app (RepL.one R6))⟩, h3, h4⟩, hcl⟩
                  · rw [if_neg hl] at hcl
                    cases hcl
              · simp only [e5] at hcl
                cases hcl
              · simp only [z] at hcl
                cases hcl
          · simp only [e4] at hcl
            cases hcl
          · simp only [z] at hcl
            cases hcl
      · have e : i = xs.length := by omega
        subst e
        rw [List.drop_length] at hcl
        unfold compL at hcl
        injection hcl with hcl
        injection hcl with h1 h2
        subst h1 h2
        obtain ⟨D', eD, k1, k2, k3⟩ := hv
        injection eD with eD
        subst eD
        refine .inl ⟨w2 (Nat.le_refl _), q W H _ (f1.trans f) S ⟨D, rfl, k1, k2, k3, ?_⟩⟩
        exact f1.none D hD
end
end Tz

set_option Elab.async false
set_option linter.all false
set_option maxRecDepth 100000
set_option maxHeartbeats 4000000
/-! Ts6: operations on values, built-ins. -/
namespace Tz
open PySem L2 PyProof.Rows
section
variable {X : Cx} {p : Prm} {Wx : WX}
theorem rvr_int {Hs H : Hp} {W : Wd} {x : RV} {v : V} {i : Int} (h : RVr p Hs W H x v) (e : x.d = .int i) : v = .int i := by
  have z := h.plain (by rw [e]; rfl)
  rw [e] at z
  exact z
theorem rvr_bl {Hs H : Hp} {W : Wd} {x : RV} {v : V} {i : Bool} (h : RVr p Hs W H x v) (e : x.d = .bl i) : v = .bl i := by
  have z := h.plain (by rw [e]; rfl)
  rw [e] at z
  exact z
theorem rvr_str {Hs H : Hp} {W : Wd} {x : RV} {v : V} {i : Str} (h : RVr p Hs W H x v) (e : x.d = .str i) : v = .str i := by
  have z := h.plain (by rw [e]; rfl)
  rw [e] at z
  exact z
theorem rvr_non {Hs H : Hp} {W : Wd} {x : RV} {v : V} (h : RVr p Hs W H x v) (e : x.d = .non) : v = .non := by
  have z := h.plain (by rw [e]; rfl)
  rw [e] at z
  exact z
/-! ### two ints -/
def i2 (C : Int → Int → Bool) (g : Int → Int → D) : Store → RV → RV → Option RV := fun _ x y => match x.d, y.d with
  | .int i, .int j => if C i j = true then some (.val (g i j)) else none
  | _, _ => none
theorem i2_some {C : Int → Int → Bool} {g : Int → Int → D} {st : Store} {x y z : RV} (h : i2 C g st x y = some z) : ∃ i j, x.d = .int i ∧ y.d = .int j ∧ C i j = true ∧ z = .val (g i j) := by
  unfold i2 at h
  split at h
  · rename_i i j e1 e2
    split at h
    · rename_i hc
      injection h with h
      exact ⟨i, j, e1, e2, hc, h.symm⟩
    · cases h
  · cases h
theorem op_i2 {f : Value → Value → Sem Value} {P : Int → Int → Prop} {C : Int → Int → Bool} {g : Int → Int → D} {gv : Int → Int → V} (ho : OpR X f (rI P gv)) (hP : ∀ i j, C i j = true → P i j) (hg : ∀ W H i j, Rep p W H (g i j) (gv i j)) : OpR X f (r2 p (i2 C g)) := by
  intro pins s σ H x y v u Q I rx ry ⟨W, st, Hs, a, b, z, S, R1, R2, e, q⟩
  obtain ⟨i, j, e1, e2, hc, rfl⟩ := i2_some e
  exact ho pins s σ H x y v u Q I rx ry ⟨i, j, rvr_int R1 e1, rvr_int R2 e2, hP i j hc, q W H _ Fut.refl S (hg W H i j)⟩
theorem op_i20 {f : Value → Value → Sem Value} {g : Int → Int → D} {gv : Int → Int → V} (ho : OpR X f (rI0 gv)) (hg : ∀ W H i j, Rep p W H (g i j) (gv i j)) : OpR X f (r2 p (i2 (fun _ _ => true) g)) := by
  intro pins s σ H x y v u Q I rx ry ⟨W, st, Hs, a, b, z, S, R1, R2, e, q⟩
  obtain ⟨i, j, e1, e2, hc, rfl⟩ := i2_some e
  exact ho pins s σ H x y v u Q I rx ry ⟨i, j, rvr_int R1 e1, rvr_int R2 e2, q W H _ Fut.refl S (hg W H i j)⟩
def mulOk (i j : Int) : Bool := decide (i.natAbs.log2 + j.natAbs.log2 < 1000000)
def divOk (_ j : Int) : Bool := decide (0 < j) && decide (j.natAbs.log2 < 9000)
def modOk (_ j : Int) : Bool := decide (0 < j)
def powOk (i j : Int) : Bool := decide (0 ≤ j) && decide (j ≤ 1000000) && decide (i.natAbs < 2 ^ 64)
def shrOk (_ j : Int) : Bool := decide (0 ≤ j)
def yes2 (_ _ : Int) : Bool := true
def subV := i2 yes2 fun i j => .int (i - j)
def mulV := i2 mulOk fun i j => .int (i * j)
def divV := i2 divOk fun i j => .int (i / j)
def modV := i2 modOk fun i j => .int (i % j)
def powV := i2 powOk fun i j => .int (i ^ j.toNat)
def shrV := i2 shrOk fun i j => .int (i / 2 ^ j.toNat)
def shlV := i2 powOk fun i j => .int (i * 2 ^ j.toNat)
def andV := i2 yes2 fun i j => .int (Builtin.bitAnd i j)
def ltV := i2 yes2 fun i j => .bl (decide (i < j))
def leV := i2 yes2 fun i j => .bl (decide (i ≤ j))
def gtV := i2 yes2 fun i j => .bl (decide (j < i))
def geV := i2 yes2 fun i j => .bl (decide (j ≤ i))
theorem op_subV : OpR X (binaryOp .Sub) (r2 p subV) := op_i20 op_sub fun _ _ _ _ => rfl
theorem op_mulV : OpR X (binaryOp .Mult) (r2 p mulV) := op_i2 op_mulW (fun i j h => (show i.natAbs.log2 + j.natAbs.log2 < 1000000 from of_decide_eq_true h)) fun _ _ _ _ => rfl
theorem op_divV : OpR X (binaryOp .FloorDiv) (r2 p divV) := op_i2 op_fdivW (fun i j h => by
  unfold divOk at h
  rw [Bool.and_eq_true] at h
  exact ⟨of_decide_eq_true h.1, of_decide_eq_true h.2⟩) fun _ _ _ _ => rfl
theorem op_modV : OpR X (binaryOp .Mod) (r2 p modV) := op_i2 op_mod (fun i j h => of_decide_eq_true h) fun _ _ _ _ => rfl
theorem op_powV : OpR X (binaryOp .Pow) (r2 p powV) := op_i2 op_pow (fun i j h => by
  unfold powOk at h
  rw [Bool.and_eq_true, Bool.and_eq_true] at h
  exact ⟨of_decide_eq_true h.1.1, of_decide_eq_true h.1.2, of_decide_eq_true h.2⟩) fun _ _ _ _ => rfl
theorem op_shrV : OpR X (binaryOp .RShift) (r2 p shrV) := op_i2 op_shr (fun i j h => of_decide_eq_true h) fun _ _ _ _ => rfl
theorem op_shlV : OpR X (binaryOp .LShift) (r2 p shlV) := op_i2 op_shl (fun i j h => by
  unfold powOk at h
  rw [Bool.and_eq_true, Bool.and_eq_true] at h
  exact ⟨of_decide_eq_true h.1.1, of_decide_eq_true h.1.2, of_decide_eq_true h.2⟩) fun _ _ _ _ => rfl
theorem op_andV : OpR X (binaryOp .BitAnd) (r2 p andV) := op_i20 op_and fun _ _ _ _ => rfl
theorem op_ltI : OpR X (compareOp .Lt) (r2 p ltV) := op_i20 op_lt fun _ _ _ _ => rfl
theorem op_leI : OpR X (compareOp .LtE) (r2 p leV) := op_i20 op_le fun _ _ _ _ => rfl
theorem op_gtI : OpR X (compareOp .Gt) (r2 p gtV) := op_i20 op_gt fun _ _ _ _ => rfl
theorem op_geI : OpR X (compareOp .GtE) (r2 p geV) := op_i20 op_ge fun _ _ _ _ => rfl
def imulV := i2 (fun i j => decide (-(2 ^ 64) < j) && decide (j < 2 ^ 64)) fun i j => .int (i * j)
theorem op_imulV : OpR X (inplaceOp .Mult) (r2 p imulV) := op_i2 iop_mul (fun i j h => by
  rw [Bool.and_eq_true] at h
  exact .inr ⟨of_decide_eq_true h.1, of_decide_eq_true h.2⟩) fun _ _ _ _ => rfl
/-! ### + -/
/-- the items of a list that is no read-only one -/
def asLm (st : Store) (v : RV) : Option (List D) := match v.d with
  | .lst xs => some xs
  | .ref n => match st[n]? with
    | some (.lst xs) => some xs
    | _ => none
  | _ => none
theorem RVr.listM {Hs H : Hp} {W : Wd} {st : Store} {x : RV} {v : V} {xs : List D} (S : SOk p W H st) (h : RVr p Hs W H x v) (e : asLm st x = some xs) : ∃ a vs, v = .ref a ∧ H a = some (.lst vs) ∧ RepL p W H xs vs := by
  have cc : ∀ {d : D} {a : Addr}, RepC p W H d a → asLm st (.val d) = some xs → ∃ vs, H a = some (.lst vs) ∧ RepL p W H xs vs := by
    intro d a h e
    cases d with
    | lst ys =>
      injection e with e
      subst e
      exact h
    | _ => first
      | exact h.elim
      | cases e
  cases x with
  | val d =>
    cases d with
    | lst ys =>
      injection e with e
      subst e
      obtain ⟨a, vs, e, _, q1, q2⟩ := h
      exact ⟨a, vs, e, q1, q2⟩
    | ref n =>
      obtain ⟨h1, h2⟩ := h
      have e' : (match st[n]? with | some (.lst xs) => some xs | _ => none) = some xs := e
      cases q : st[n]? with
      | none => rw [q] at e'; cases e'
      | some d =>
        rw [q] at e'
        have c := S.at_ n d q
        cases d with
        | lst ys =>
          injection e' with e'
          subst e'
          obtain ⟨vs, q1, q2⟩ := c
          exact ⟨_, vs, h2, q1, q2⟩
        | _ => first
          | exact c.elim
          | cases e'
    | _ => cases e
  | fresh d =>
    obtain ⟨a, rfl, h1, _⟩ := h
    obtain ⟨vs, q⟩ := cc h1 e
    exact ⟨a, vs, rfl, q⟩
  | peek d =>
    obtain ⟨a, rfl, h1, _⟩ := h
    obtain ⟨vs, q⟩ := cc h1 e
    exact ⟨a, vs, rfl, q⟩
def addV : Store → RV → RV → Option RV := fun st x y => match x.d, y.d with
  | .int i, .int j => some (.val (.int (i + j)))
  | .tup a, .tup b => if a.length + b.length ≤ lim then some (.val (.tup (a ++ b))) else none
  | .str a, .str b => if a.length + b.length ≤ lim then some (.val (.str (a ++ b))) else none
  | _, _ => match asLm st x, asLm st y with
    | some a, some b => if a.length + b.length ≤ lim then some (.fresh (.lst (a ++ b))) else none
    | _, _ => none
theorem repL_nil {W : Wd} {H : Hp} {xs : List D} {vs : List V} (r : RepL p W H xs vs) : vs = [] ↔ xs = [] := by
  have l := r.length
  cases vs <;> cases xs <;> first
    | (constructor <;> intro _ <;> rfl)
    | cases l
    | (constructor <;> intro z <;> cases z)
theorem op_addV (hK : p.K = X.K) : OpR X (binaryOp .Add) (r2 p addV) := by
  intro pins s σ H x y v u Q I rx ry ⟨W, st, Hs, a, b, z, S, R1, R2, e, q⟩
  unfold addV at e
  split at e
  · rename_i i j e1 e2
    injection e with e
    subst e
    exact op_add pins s σ H x y v u Q I rx ry ⟨i, j, rvr_int R1 e1, rvr_int R2 e2, q W H _ Fut.refl S rfl⟩
  · rename_i xs ys e1 e2
    split at e
    · rename_i hl
      injection e with e
      subst e
      obtain ⟨c, vs, rfl, h1, h2⟩ := rvr_ref (st := st) R1 e1
      obtain ⟨d, ws, rfl, k1, k2⟩ := rvr_ref (st := st) R2 e2
      refine op_catA pins s σ H _ _ v u Q I rx ry ⟨c, d, vs, ws, rfl, rfl, hK ▸ h1, hK ▸ k1, by rw [h2.length, k2.length]; exact lim_le hl, fun hv => ?_, fun hv hw => ?_, fun hv hw a hn => ?_⟩
      · refine q W H _ Fut.refl S ?_
        have : xs = [] := (repL_nil h2).mp hv
        subst this
        exact ⟨d, ws, rfl, k1, k2⟩
      · refine q W H _ Fut.refl S ?_
        have : ys = [] := (repL_nil k2).mp hw
        subst this
        rw [List.append_nil]
        exact ⟨c, vs, rfl, h1, h2⟩
      · exact q W _ _ (Fut.laid S hn) (S.laid hn) (tup_mk S hn (h2.app k2))
    · cases e
  · rename_i xs ys e1 e2
    split at e
    · rename_i hl
      injection e with e
      subst e
      exact op_add_str pins s σ H x y v u Q I rx ry ⟨xs, ys, rvr_str R1 e1, rvr_str R2 e2, lim_le hl, q W H _ Fut.refl S rfl⟩
    · cases e
  · split at e
    · rename_i xs ys e1 e2
      split at e
      · rename_i hl
        injection e with e
        subst e
        obtain ⟨c, vs, rfl, h1, h2⟩ := R1.listM S e1
        obtain ⟨d, ws, rfl, k1, k2⟩ := R2.listM S e2
        exact op_cat pins s σ H _ _ v u Q I rx ry ⟨c, d, vs, ws, rfl, rfl, h1, k1, by rw [h2.length, k2.length]; exact lim_le hl, fun a hn => q W _ _ (Fut.laid S hn) (S.laid hn) (fresh_mk S hn (h2.app k2))⟩
      · cases e
    · cases e
/-! ### == of scalars -/
def eqS : D → D → Option Bool
  | .non, .non => some true
  | .non, .int _ => some false
  | .int _, .non => some false
  | .non, .bl _ => some false
  | .bl _, .non => some false
  | .non, .str _ => some false
  | .str _, .non => some false
  | .int i, .int j => some (decide (i = j))
  | .bl i, .bl j => some (decide (i = j))
  | .str i, .str j => some (decide (i = j))
  | .int _, .str _ => some false
  | .str _, .int _ => some false
  | .bl _, .str _ => some false
  | .str _, .bl _ => some false
  | _, _ => none
def eqV : Store → RV → RV → Option RV := fun _ x y => match eqS x.d y.d with
  | some b => some (.val (.bl b))
  | none => none
def neV : Store → RV → RV → Option RV := fun _ x y => match eqS x.d y.d with
  | some b => some (.val (.bl (!b)))
  | none => none
def scV : D → Option V
  | .non => some .non
  | .bl b => some (.bl b)
  | .int i => some (.int i)
  | .str s => some (.str s)
  | _ => none
theorem scV_rep {W : Wd} {H Hs : Hp} {x : RV} {v w : V} (h : RVr p Hs W H x v) (e : scV x.d = some w) : v = w := by
  cases q : x.d with
  | non => rw [q] at e; injection e with e; rw [← e]; exact rvr_non h q
  | bl b => rw [q] at e; injection e with e; rw [← e]; exact rvr_bl h q
  | int b => rw [q] at e; injection e with e; rw [← e]; exact rvr_int h q
  | str b => rw [q] at e; injection e with e; rw [← e]; exact rvr_str h q
  | _ => rw [q] at e; cases e
theorem eqS_sc {d e : D} {b : Bool} (h : eqS d e = some b) : ∃ v w, scV d = some v ∧ scV e = some w ∧ scal v w = true ∧ decide (v = w) = b := by
  cases d <;> cases e <;> first
    | (cases h; done)
    | (injection h with h; subst h; exact ⟨_, _, rfl, rfl, rfl, by simp⟩)
theorem op_eqV : OpR X (compareOp .Eq) (r2 p eqV) := by
  intro pins s σ H x y v u Q I rx ry ⟨W, st, Hs, a, b, z, S, R1, R2, e, q⟩
  unfold eqV at e
  split at e
  · rename_i k ek
    injection e with e
    subst e
    obtain ⟨v1, w1, h1, h2, h3, h4⟩ := eqS_sc ek
    have ex := scV_rep R1 h1
    have ey := scV_rep R2 h2
    subst ex ey
    exact op_eq pins s σ H _ _ v u Q I rx ry ⟨h3, by rw [h4]; exact q W H _ Fut.refl S rfl⟩
  · cases e
theorem op_neV : OpR X (compareOp .NotEq) (r2 p neV) := by
  intro pins s σ H x y v u Q I rx ry ⟨W, st, Hs, a, b, z, S, R1, R2, e, q⟩
  unfold neV at e
  split at e
  · rename_i k ek
    injection e with e
    subst e
    obtain ⟨v1, w1, h1, h2, h3, h4⟩ := eqS_sc ek
    have ex := scV_rep R1 h1
    have ey := scV_rep R2 h2
    subst ex ey
    exact op_ne pins s σ H _ _ v u Q I rx ry ⟨h3, by rw [h4]; exact q W H _ Fut.refl S rfl⟩
  · cases e
/-! ### is None -/
def isN (d : D) : Bool := match d with
  | .non => true
  | _ => false
def isV : Store → RV → RV → Option RV := fun _ x y => match y.d with
  | .non => some (.val (.bl (isN x.d)))
  | _ => none
def isntV : Store → RV → RV → Option RV := fun _ x y => match y.d with
  | .non => some (.val (.bl (!isN x.d)))
  | _ => none
theorem isN_rep {W : Wd} {H Hs : Hp} {x : RV} {v : V} (h : RVr p Hs W H x v) : decide (v = .non) = isN x.d := by
  cases x with
  | fresh d =>
    obtain ⟨a, rfl, h, _⟩ := h
    cases d with
    | lst xs => exact decide_eq_false (fun z => by cases z)
    | ins c ns fs => exact decide_eq_false (fun z => by cases z)
    | dct ks xs => exact decide_eq_false (fun z => by cases z)
    | _ => exact h.elim
  | peek d =>
    obtain ⟨a, rfl, h, _⟩ := h
    cases d with
    | lst xs => exact decide_eq_false (fun z => by cases z)
    | ins c ns fs => exact decide_eq_false (fun z => by cases z)
    | dct ks xs => exact decide_eq_false (fun z => by cases z)
    | _ => exact h.elim
  | val d =>
    cases d with
    | non => have h : v = .non := h; subst h; rfl
    | bl b => have h : v = .bl b := h; subst h; rfl
    | int b => have h : v = .int b := h; subst h; rfl
    | str b => have h : v = .str b := h; subst h; rfl
    | tup xs => obtain ⟨a, vs, rfl, _⟩ := h; exact decide_eq_false (fun z => by cases z)
    | lst xs => obtain ⟨a, vs, rfl, _⟩ := h; exact decide_eq_false (fun z => by cases z)
    | rol xs => obtain ⟨a, vs, rfl, _⟩ := h; exact decide_eq_false (fun z => by cases z)
    | ref n => obtain ⟨_, rfl⟩ := h; exact decide_eq_false (fun z => by cases z)
    | ins c ns fs => obtain ⟨a, dx, vs, rfl, _⟩ := h; exact decide_eq_false (fun z => by cases z)
    | dct ks xs => obtain ⟨a, vs, rfl, _⟩ := h; exact decide_eq_false (fun z => by cases z)
theorem op_isV : OpR X (compareOp .Is) (r2 p isV) := by
  intro pins s σ H x y v u Q I rx ry ⟨W, st, Hs, a, b, z, S, R1, R2, e, q⟩
  unfold isV at e
  split at e
  · rename_i ek
    injection e with e
    subst e
    exact op_isN pins s σ H _ _ v u Q I rx ry ⟨rvr_non R2 ek, by rw [isN_rep R1]; exact q W H _ Fut.refl S rfl⟩
  · cases e
theorem op_isntV : OpR X (compareOp .IsNot) (r2 p isntV) := by
  intro pins s σ H x y v u Q I rx ry ⟨W, st, Hs, a, b, z, S, R1, R2, e, q⟩
  unfold isntV at e
  split at e
  · rename_i ek
    injection e with e
    subst e
    exact op_notN pins s σ H _ _ v u Q I rx ry ⟨rvr_non R2 ek, by rw [isN_rep R1]; exact q W H _ Fut.refl S rfl⟩
  · cases e
/-! ### subscripts -/
def ixV : Store → RV → RV → Option RV := fun st x y => match y.d with
  | .int i => match x.d with
    | .tup xs => (atI xs i).map .val
    | .str s => if s.length ≤ lim then (atI s.cps.toList i).map fun c => .val (.str ⟨#[c]⟩) else none
    | _ => match asL st x with
      | some xs => (atI xs i).map .val
      | none => none
  | _ => none
theorem atI_rep {W : Wd} {H : Hp} {xs : List D} {vs : List V} {i : Int} {d : D} (r : RepL p W H xs vs) (h : atI xs i = some d) : ∃ v, atI vs i = some v ∧ Rep p W H d v := by
  unfold atI at h ⊢
  rw [r.length]
  cases q : ixN xs.length i with
  | none => rw [q] at h; cases h
  | some j =>
    rw [q] at h
    exact r.get h
theorem ix_ok (hK : p.K = X.K) : IxR X (r2 p ixV) := by
  intro value slice pins s σ H x y v u Q I rx ry ⟨W, st, Hs, a, b, z, S, R1, R2, e, q⟩ hs
  unfold ixV at e
  split at e
  · rename_i i ei
    have ey := rvr_int R2 ei
    subst ey
    split at e
    · rename_i xs ex
      cases q2 : atI xs i with
      | none => rw [q2] at e; cases e
      | some d =>
        rw [q2] at e
        injection e with e
        subst e
        obtain ⟨c, vs, rfl, h1, h2⟩ := rvr_ref (st := st) R1 ex
        obtain ⟨w, k1, k2⟩ := atI_rep h2 q2
        exact ix_tup value slice pins s σ H _ _ v u Q I rx ry ⟨c, vs, i, w, rfl, rfl, hK ▸ h1, k1, q W H _ Fut.refl S k2⟩ hs
    · rename_i xs ex
      split at e
      · rename_i hl
        cases q2 : atI xs.cps.toList i with
        | none => rw [q2] at e; cases e
        | some d =>
          rw [q2] at e
          injection e with e
          subst e
          exact ix_str value slice pins s σ H _ _ v u Q I rx ry ⟨xs, i, d, rvr_str R1 ex, rfl, lim_le hl, q2, q W H _ Fut.refl S rfl⟩ hs
      · cases e
    · split at e
      · rename_i xs ex
        cases q2 : atI xs i with
        | none => rw [q2] at e; cases e
        | some d =>
          rw [q2] at e
          injection e with e
          subst e
          obtain ⟨c, vs, rfl, h1, h2⟩ := R1.list S ex
          obtain ⟨w, k1, k2⟩ := atI_rep h2 q2
          exact ix_list value slice pins s σ H _ _ v u Q I rx ry ⟨c, vs, i, w, rfl, rfl, hK ▸ h1, k1, q W H _ Fut.refl S k2⟩ hs
      · cases e
  · cases e
/-- a slice's end: an int, or left out -/
def cutD {α : Type} (xs : List α) (lo hi : Option Int) : List α := (xs.drop (HT.sIx xs.length 0 lo)).take (HT.sIx xs.length xs.length hi - HT.sIx xs.length 0 lo)
theorem cutD_rep {W : Wd} {H : Hp} {xs : List D} {vs : List V} {lo hi : Option Int} (r : RepL p W H xs vs) : RepL p W H (cutD xs lo hi) (cutV vs lo hi) := by
  unfold cutD cutV
  rw [r.length]
  exact (r.drop _).take _
def slV (st : Store) (x : RV) (lo hi : Option Int) : Option RV := match x.d with
  | .tup xs => some (.val (.tup (cutD xs lo hi)))
  | _ => match asL st x with
    | some xs => some (.fresh (.lst (cutD xs lo hi)))
    | none => none
def rSl (p : Prm) : V → Option Int → Option Int → Hp → VK → Prop := fun x lo hi H Q => ∃ W st Hs u z, SOk p W H st ∧ RVr p Hs W H u x ∧ slV st u lo hi = some z ∧
  ∀ W' H' w, Fut W H W' H' → SOk p W' H' st → RVr p H W' H' z w → Q w H'
theorem cutD_all {xs : List D} {lo hi : Option Int} (h : HT.sIx xs.length 0 lo = 0 ∧ HT.sIx xs.length xs.length hi = xs.length) : cutD xs lo hi = xs := by
  unfold cutD
  rw [h.1, h.2]
  simp
theorem sl_ok (hK : p.K = X.K) : SlR X (rSl p) := by
  intro pins s σ H x v vl vu lo hi sl Q I rx hs pl pu ⟨W, st, Hs, a, z, S, R1, e, q⟩
  unfold slV at e
  split at e
  · rename_i xs ex
    injection e with e
    subst e
    obtain ⟨c, vs, rfl, h1, h2⟩ := rvr_ref (st := st) R1 ex
    refine sl_tupA pins s σ H _ v vl vu lo hi sl Q I rx hs pl pu ⟨c, vs, rfl, hK ▸ h1, fun hh => ?_, fun hh a hn => ?_⟩
    · refine q W H _ Fut.refl S ?_
      rw [cutD_all (by rw [← h2.length]; exact hh)]
      exact ⟨c, vs, rfl, h1, h2⟩
    · exact q W _ _ (Fut.laid S hn) (S.laid hn) (tup_mk S hn (cutD_rep h2))
  · split at e
    · rename_i xs ex
      injection e with e
      subst e
      obtain ⟨c, vs, rfl, h1, h2⟩ := R1.list S ex
      exact sl_list pins s σ H _ v vl vu lo hi sl Q I rx hs pl pu ⟨c, vs, rfl, hK ▸ h1, fun a hn => q W _ _ (Fut.laid S hn) (S.laid hn) (fresh_mk S hn (cutD_rep h2))⟩
    · cases e
/-- e[lo:hi] -/
def oNone : Rho → Store → Option (Option Int × Store) := fun _ st => some (none, st)
def oSome (a : ESem) : Rho → Store → Option (Option Int × Store) := fun r st => match a r st with
  | some (.ok (.val (.int i)) st1) => some (some i, st1)
  | _ => none
def eSl (a : ESem) (lo hi : Rho → Store → Option (Option Int × Store)) : ESem := fun r st => match a r st with
  | some (.ok x st1) => match lo r st1 with
    | some (l, st2) => match hi r st2 with
      | some (h, st3) => match slV st3 x l h with
        | some z => some (.ok z st3)
        | none => none
      | none => none
    | none => none
  | some (.exc x st1) => some (.exc x st1)
  | none => none
def tO (p : Prm) (o : Rho → Store → Option (Option Int × Store)) : TO := fun σ H Q => ∃ W0 H0 W r st, Good p W0 H0 W σ H r st ∧ match o r st with
  | none => False
  | some (i, st') => ∀ W' H', Fut W H W' H' → SOk p W' H' st' → Q i H'
theorem _root_.L2.PO.weak {e : Option Expr} {t t' : TO} (h : PO X e t) (w : ∀ σ H Q, t' σ H Q → t σ H Q) : PO X e t' := ⟨fun pins s σ H Q I q => h.run pins s σ H Q I (w σ H Q q)⟩
theorem po_noneS : PO X none (tO p oNone) := po_none.weak fun σ H Q ⟨W0, H0, W, r, st, G, q⟩ => q W H Fut.refl G.ok
theorem po_someS {e : Expr} {f : ESem} (h : PE X e (tE p Wx f)) : PO X (some e) (tO p (oSome f)) := by
  refine (po_some h).weak fun σ H Q ⟨W0, H0, W, r, st, G, q⟩ => ?_
  unfold oSome at q
  refine tE_bind G (fun v st1 e1 W1 H1 x f1 S1 R1 G1 => ?_) (fun e st1 e1 => ?_) (fun z => ?_)
  · simp only [e1] at q
    cases v with
    | val d =>
      cases d with
      | int i => exact ⟨i, R1, q W1 H1 f1 S1⟩
      | _ => exact False.elim q
    | _ => exact False.elim q
  · simp only [e1] at q
  · simp only [z] at q
theorem pe_slS {e : Expr} {lo hi : Option Expr} {f : ESem} {l h : Rho → Store → Option (Option Int × Store)} {p2 pos : Pos} (hK : p.K = X.K) (he : PE X e (tE p Wx f)) (hl : PO X lo (tO p l)) (hh : PO X hi (tO p h)) : PE X (.Subscript e (.Slice lo hi none p2) pos) (tE p Wx (eSl f l h)) := by
  refine (pe_slice (sl_ok (p := p) hK) he hl hh).weak fun σ H Q ⟨W0, H0, W, r, st, G, q⟩ => ?_
  unfold eSl at q
  refine tE_bind G (fun v st1 e1 W1 H1 x f1 S1 R1 G1 => ?_) (fun e st1 e1 => ?_) (fun z => ?_)
  · simp only [e1] at q
    refine ⟨W0, H0, W1, r, st1, G1, ?_⟩
    cases el : l r st1 with
    | none => simp only [el] at q; exact q
    | some y =>
      obtain ⟨i, st2⟩ := y
      simp only [el] at q
      intro W2 H2 f2 S2
      have G2 := G1.to f2 S2
      refine ⟨W0, H0, W2, r, st2, G2, ?_⟩
      cases eh : h r st2 with
      | none => simp only [eh] at q; exact q
      | some y =>
        obtain ⟨j, st3⟩ := y
        simp only [eh] at q
        intro W3 H3 f3 S3
        cases ez : slV st3 v i j with
        | none => simp only [ez] at q; exact q.elim
        | some z =>
          simp only [ez] at q
          exact ⟨W3, st3, H, v, z, S3, (R1.fut f2 S1).fut f3 S2, ez, fun W4 H4 w f4 S4 R4 => q W4 H4 w (f1.trans (f2.trans (f3.trans f4))) S4 (R4.back fun a z => f3.tr a (f2.tr a (f1.tr a z)))⟩
  · simp only [e1] at q
    exact q
  · simp only [z] at q
    exact q
end
end Tz

set_option Elab.async false
set_option linter.all false
set_option maxRecDepth 100000
set_option maxHeartbeats 4000000
/-! Ts7: built-ins; a list's item stored; name op= value. -/
namespace Tz
open PySem L2 PyProof.Rows
section
variable {X : Cx} {p : Prm} {Wx : WX} {pos pp : Pos} {f g : ESem} {e e1 e2 : Expr}
/-- a built-in of one told thing -/
def rB1 (p : Prm) (fn : Store → RV → Option RV) : List V → Hp → VK → Prop := fun vs H Q => ∃ v, vs = [v] ∧ r1 p fn v H Q
theorem pe_blt1 {x : Str} {id : String} {fn : Store → RV → Option RV} (hc : CallR X (.builtin id) (rB1 p fn)) (hg : Gl X x) (hm : X.mg x = none) (hv : bootBuiltins x = some (.builtin id)) (ha : PE X e (tE p Wx f)) (hs : notStar e = true) (hn : x ≠ "__name__") (hdb : (x == ("__debug__" : Str)) = false) :
    PE X (.Call (.Name x pp) [e] [] pos) (tE p Wx (eOp1 fn f)) :=
  (pe_callB hc hg hm hv (pa_cons ha pa_nil (starEach_cons hs)) hn hdb (starEach_cons hs) rfl).weak fun _ _ _ => blt1_weak
theorem pe_ty1 {x : Str} {T : String} {fn : Store → RV → Option RV} (hc : CallR X (.type T) (rB1 p fn)) (hg : Gl X x) (hm : X.mg x = none) (hv : bootBuiltins x = some (.type T)) (ha : PE X e (tE p Wx f)) (hs : notStar e = true) (hn : x ≠ "__name__") (hdb : (x == ("__debug__" : Str)) = false) :
    PE X (.Call (.Name x pp) [e] [] pos) (tE p Wx (eOp1 fn f)) :=
  (pe_callTy hc hg hm hv (pa_cons ha pa_nil (starEach_cons hs)) hn hdb (starEach_cons hs) rfl).weak fun _ _ _ => blt1_weak
def lenV : Store → RV → Option RV := fun st x => match x.d with
  | .tup xs => some (.val (.int xs.length))
  | .str s => if s.length ≤ lim then some (.val (.int s.length)) else none
  | _ => match asL st x with
    | some xs => some (.val (.int xs.length))
    | none => none
theorem len_ok (hK : p.K = X.K) : CallR X (.builtin "len") (rB1 p lenV) := by
  intro pins s σ H xs us Q I r ⟨v, ev, W, st, Hs, u, z, S, R, e, q⟩
  subst ev
  unfold lenV at e
  split at e
  · rename_i ys ey
    injection e with e
    subst e
    obtain ⟨a, vs, rfl, h1, h2⟩ := rvr_ref (st := st) R ey
    exact call_len pins s σ H _ us Q I r ⟨_, vs.length, rfl, .inr ⟨vs, hK ▸ h1, rfl⟩, q W H _ Fut.refl S (by rw [h2.length]; exact rfl)⟩
  · rename_i s' ey
    split at e
    · rename_i hl
      injection e with e
      subst e
      have h := rvr_str R ey
      subst h
      exact call_len pins s σ H _ us Q I r ⟨_, s'.length, rfl, ⟨lim_le hl, rfl⟩, q W H _ Fut.refl S rfl⟩
    · cases e
  · split at e
    · rename_i ys ey
      injection e with e
      subst e
      obtain ⟨a, vs, rfl, h1, h2⟩ := R.list S ey
      exact call_len pins s σ H _ us Q I r ⟨_, vs.length, rfl, .inl ⟨vs, hK ▸ h1, rfl⟩, q W H _ Fut.refl S (by rw [h2.length]; exact rfl)⟩
    · cases e
def absV : Store → RV → Option RV := fun _ x => match x.d with
  | .int i => some (.val (.int i.natAbs))
  | _ => none
theorem abs_ok : CallR X (.builtin "abs") (rB1 p absV) := by
  intro pins s σ H xs us Q I r ⟨v, ev, W, st, Hs, u, z, S, R, e, q⟩
  subst ev
  unfold absV at e
  split at e
  · rename_i i ei
    injection e with e
    subst e
    have h := rvr_int R ei
    subst h
    refine call_abs pins s σ H _ us Q I r ⟨i, rfl, ?_⟩
    have e2 : (if i < 0 then -i else i) = (i.natAbs : Int) := by split <;> omega
    rw [e2]
    exact q W H _ Fut.refl S rfl
  · cases e
def intV : Store → RV → Option RV := fun _ x => match x.d with
  | .int i => some (.val (.int i))
  | .bl b => some (.val (.int (if b = true then 1 else 0)))
  | _ => none
theorem int_ok : CallR X (.type "int") (rB1 p intV) := by
  intro pins s σ H xs us Q I r ⟨v, ev, W, st, Hs, u, z, S, R, e, q⟩
  subst ev
  unfold intV at e
  split at e
  · rename_i i ei
    injection e with e
    subst e
    have h := rvr_int R ei
    subst h
    exact call_int1 pins s σ H _ us Q I r (.inl ⟨i, rfl, q W H _ Fut.refl S rfl⟩)
  · rename_i i ei
    injection e with e
    subst e
    have h := rvr_bl R ei
    subst h
    exact call_int1 pins s σ H _ us Q I r (.inr ⟨i, rfl, q W H _ Fut.refl S rfl⟩)
  · cases e
/-- a list of truths -/
def bools : List D → Option (List Bool)
  | [] => some []
  | .bl b :: xs => match bools xs with
    | some bs => some (b :: bs)
    | none => none
  | _ => none
theorem bools_rep {W : Wd} {H : Hp} : ∀ {xs : List D} {vs : List V} {bs : List Bool}, RepL p W H xs vs → bools xs = some bs → vs = bs.map V.bl
  | [], vs, bs, h, e => by
    have h : vs = [] := h
    injection e with e
    subst e h
    rfl
  | x :: xs, vs, bs, h, e => by
    obtain ⟨v, r, rfl, h1, h2⟩ := h
    cases x with
    | bl b =>
      have e : (match bools xs with | some bs => some (b :: bs) | none => none) = some bs := e
      cases q : bools xs with
      | none => rw [q] at e; cases e
      | some bs' =>
        rw [q] at e
        injection e with e
        subst e
        have h1 : v = .bl b := h1
        rw [h1, bools_rep h2 q]
        rfl
    | _ => cases e
def allV : Store → RV → Option RV := fun st x => match asL st x with
  | some xs => match bools xs with
    | some bs => some (.val (.bl (bs.all id)))
    | none => none
  | none => none
def anyV : Store → RV → Option RV := fun st x => match asL st x with
  | some xs => match bools xs with
    | some bs => some (.val (.bl (bs.any id)))
    | none => none
  | none => none
theorem all_ok (hK : p.K = X.K) (hc : X.calm = true) : CallR X (.builtin "all") (rB1 p allV) := by
  intro pins s σ H xs us Q I r ⟨v, ev, W, st, Hs, u, z, S, R, e, q⟩
  subst ev
  unfold allV at e
  split at e
  · rename_i ys ey
    split at e
    · rename_i bs eb
      injection e with e
      subst e
      obtain ⟨a, vs, rfl, h1, h2⟩ := R.list S ey
      have e2 := bools_rep h2 eb
      subst e2
      exact cr_all hc pins s σ H _ us Q I r ⟨a, bs, rfl, hK ▸ h1, q W H _ Fut.refl S rfl⟩
    · cases e
  · cases e
theorem any_ok (hK : p.K = X.K) (hc : X.calm = true) : CallR X (.builtin "any") (rB1 p anyV) := by
  intro pins s σ H xs us Q I r ⟨v, ev, W, st, Hs, u, z, S, R, e, q⟩
  subst ev
  unfold anyV at e
  split at e
  · rename_i ys ey
    split at e
    · rename_i bs eb
      injection e with e
      subst e
      obtain ⟨a, vs, rfl, h1, h2⟩ := R.list S ey
      have e2 := bools_rep h2 eb
      subst e2
      exact cr_any hc pins s σ H _ us Q I r ⟨a, bs, rfl, hK ▸ h1, q W H _ Fut.refl S rfl⟩
    · cases e
  · cases e
/-- tuple(..) of a list or a tuple -/
def tupV : Store → RV → Option RV := fun st x => match x.d with
  | .tup xs => some (.val (.tup xs))
  | _ => match asL st x with
    | some xs => some (.val (.tup xs))
    | none => none
theorem tup_ok (hK : p.K = X.K) : CallR X (.type "tuple") (rB1 p tupV) := by
  intro pins s σ H xs us Q I r ⟨v, ev, W, st, Hs, u, z, S, R, e, q⟩
  subst ev
  unfold tupV at e
  split at e
  · rename_i ys ey
    injection e with e
    subst e
    obtain ⟨a, vs, rfl, h1, h2⟩ := rvr_ref (st := st) R ey
    exact call_tuple_of pins s σ H _ us Q I r ⟨a, vs, rfl, .inr ⟨hK ▸ h1, q W H _ Fut.refl S ⟨a, vs, rfl, h1, h2⟩⟩⟩
  · split at e
    · rename_i ys ey
      injection e with e
      subst e
      obtain ⟨a, vs, rfl, h1, h2⟩ := R.list S ey
      exact call_tuple_of pins s σ H _ us Q I r ⟨a, vs, rfl, .inl ⟨hK ▸ h1, fun c hn => q W _ _ (Fut.laid S hn) (S.laid hn) (tup_mk S hn h2)⟩⟩
    · cases e
/-! two arguments -/
def rB2 (p : Prm) (fn : Store → RV → RV → Option RV) : List V → Hp → VK → Prop := fun vs H Q => ∃ v w, vs = [v, w] ∧ r2 p fn v w H Q
theorem blt2_weak {fn : Store → RV → RV → Option RV} {σ : L2.St} {H : Hp} {Q : VK} (w : tE p Wx (eOp2 fn f g) σ H Q) : tCB (rB2 p fn) (tCons (tE p Wx f) (tCons (tE p Wx g) tNil)) σ H Q := by
  obtain ⟨W0, H0, W, r, st, G, q⟩ := op2_weak w
  refine ⟨W0, H0, W, r, st, G, ?_⟩
  cases z : f r st with
  | none => rw [z] at q; exact q.elim
  | some y =>
    rw [z] at q
    cases y with
    | exc e st1 => exact q
    | ok v st1 =>
      intro W1 H1 x f1 S1 R1
      obtain ⟨V0, G0, V, r', st', G', q⟩ := q W1 H1 x f1 S1 R1
      refine ⟨V0, G0, V, r', st', G', ?_⟩
      cases z2 : g r' st' with
      | none => rw [z2] at q; exact q.elim
      | some y2 =>
        rw [z2] at q
        cases y2 with
        | exc e st2 => exact q
        | ok w st2 => exact fun W2 H2 y f2 S2 R2 => ⟨x, y, rfl, q W2 H2 y f2 S2 R2⟩
theorem pe_blt2 {x : Str} {id : String} {fn : Store → RV → RV → Option RV} (hc : CallR X (.builtin id) (rB2 p fn)) (hg : Gl X x) (hm : X.mg x = none) (hv : bootBuiltins x = some (.builtin id)) (ha : PE X e1 (tE p Wx f)) (hb : PE X e2 (tE p Wx g)) (hs : notStar e1 = true) (hs2 : notStar e2 = true) (hn : x ≠ "__name__") (hdb : (x == ("__debug__" : Str)) = false) :
    PE X (.Call (.Name x pp) [e1, e2] [] pos) (tE p Wx (eOp2 fn f g)) :=
  (pe_callB hc hg hm hv (pa_cons ha (pa_cons hb pa_nil (starEach_cons hs2)) (starEach_cons hs)) hn hdb (starEach_cons hs) (by rw [starEach_cons hs2]; rfl)).weak fun _ _ _ => blt2_weak
def max2V := i2 yes2 fun i j => .int (if j > i then j else i)
def min2V := i2 yes2 fun i j => .int (if j < i then j else i)
theorem max2_ok (hc : X.calm = true) : CallR X (.builtin "max") (rB2 p max2V) := by
  intro pins s σ H xs us Q I r ⟨v, w, ev, W, st, Hs, a, b, z, S, R1, R2, e, q⟩
  subst ev
  obtain ⟨i, j, e1, e2, _, rfl⟩ := i2_some e
  have h1 := rvr_int R1 e1
  have h2 := rvr_int R2 e2
  subst h1 h2
  exact call_max2 hc pins s σ H _ us Q I r ⟨i, j, rfl, q W H _ Fut.refl S rfl⟩
theorem min2_ok (hc : X.calm = true) : CallR X (.builtin "min") (rB2 p min2V) := by
  intro pins s σ H xs us Q I r ⟨v, w, ev, W, st, Hs, a, b, z, S, R1, R2, e, q⟩
  subst ev
  obtain ⟨i, j, e1, e2, _, rfl⟩ := i2_some e
  have h1 := rvr_int R1 e1
  have h2 := rvr_int R2 e2
  subst h1 h2
  exact call_min2 hc pins s σ H _ us Q I r ⟨i, j, rfl, q W H _ Fut.refl S rfl⟩
/-! ### isinstance of built-in types -/
inductive Ty where
  | non | bl | int | str | tup | lst | dct
  deriving DecidableEq
def Ty.name : Ty → String
  | .non => "NoneType" | .bl => "bool" | .int => "int" | .str => "str" | .tup => "tuple" | .lst => "list" | .dct => "dict"
def tyD (st : Store) : D → Option Ty
  | .non => some .non
  | .bl _ => some .bl
  | .int _ => some .int
  | .str _ => some .str
  | .tup _ => some .tup
  | .lst _ => some .lst
  | .rol _ => some .lst
  | .ref n => match st[n]? with
    | some (.lst _) => some .lst
    | _ => none
  | .ins _ _ _ => none
  | .dct _ _ => some .dct
def tyIs : Ty → Ty → Bool
  | .bl, .int => true
  | a, b => decide (a = b)
theorem tyIs_kit (a b : Ty) (hb : b ≠ .non) : kitB a.name b.name = some (tyIs a b) := by
  cases a <;> cases b <;> first
    | exact absurd rfl hb
    | decide +kernel
theorem tyX_tup {K : PySem.W.Frag} {H : Hp} {a : Addr} {vs : List V} (h : SqT K H a vs) : TyX K H (.ref a) (.type "tuple") := by
  rcases h with (h | ⟨o, h⟩) | ⟨o, _, _, h, c, _⟩
  · exact .base (.tup h)
  · exact .fTuple h
  · exact .kTuple h c
theorem tyX_lst {K : PySem.W.Frag} {H : Hp} {a : Addr} {vs : List V} (h : SqL K H a vs) : TyX K H (.ref a) (.type "list") := by
  rcases h with (h | ⟨o, h⟩) | ⟨o, _, _, h, c, _⟩
  · exact .base (.lst h)
  · exact .base (.frz h)
  · exact .kList h c
theorem tyX_of {W : Wd} {H Hs : Hp} {st : Store} {x : RV} {v : V} {t : Ty} (S : SOk p W H st) (h : RVr p Hs W H x v) (e : tyD st x.d = some t) : TyX p.K H v (.type t.name) := by
  cases q : x.d with
  | non => rw [q] at e; injection e with e; subst e; rw [rvr_non h q]; exact .base .non
  | bl b => rw [q] at e; injection e with e; subst e; rw [rvr_bl h q]; exact .base (.bl b)
  | int b => rw [q] at e; injection e with e; subst e; rw [rvr_int h q]; exact .base (.int b)
  | str b => rw [q] at e; injection e with e; subst e; rw [rvr_str h q]; exact .base (.str b)
  | tup xs =>
    rw [q] at e
    injection e with e
    subst e
    obtain ⟨a, vs, rfl, h1, h2⟩ := rvr_ref (st := st) h q
    exact tyX_tup h1
  | lst xs =>
    rw [q] at e
    injection e with e
    subst e
    obtain ⟨a, vs, rfl, h1, h2⟩ := h.list (xs := xs) S (by unfold asL; rw [q])
    exact tyX_lst h1
  | rol xs =>
    rw [q] at e
    injection e with e
    subst e
    obtain ⟨a, vs, rfl, h1, h2⟩ := h.list (xs := xs) S (by unfold asL; rw [q])
    exact tyX_lst h1
  | ref n =>
    rw [q] at e
    have e : (match st[n]? with | some (.lst _) => some Ty.lst | _ => none) = some t := e
    split at e
    · rename_i xs hx
      injection e with e
      subst e
      obtain ⟨a, vs, rfl, h1, h2⟩ := h.list (xs := xs) S (by unfold asL; rw [q]; dsimp only; rw [hx])
      exact tyX_lst h1
    · cases e
  | ins c ns fs => rw [q] at e; cases e
  | dct ks xs =>
    rw [q] at e
    injection e with e
    subst e
    have cc : ∀ {a : Addr} {vs : List V}, H a = some (.dK (ks.zip vs)) → TyX p.K H (.ref a) (.type "dict") := fun h => .base (.dK h)
    cases x with
    | val d =>
      have q : d = .dct ks xs := q
      subst q
      obtain ⟨a, vs, rfl, _, h1, _⟩ := h
      exact cc h1
    | fresh d =>
      have q : d = .dct ks xs := q
      subst q
      obtain ⟨a, rfl, ⟨vs, h1, _⟩, _⟩ := h
      exact cc h1
    | peek d =>
      have q : d = .dct ks xs := q
      subst q
      obtain ⟨a, rfl, ⟨vs, h1, _⟩, _⟩ := h
      exact cc h1
def isiV (T : Ty) : Store → RV → Option RV := fun st x => match tyD st x.d with
  | some t => some (.val (.bl (tyIs t T)))
  | none => none
theorem pe_isi {T : Ty} {n : Str} {p2 : Pos} (hK : p.K = X.K) (hT : T ≠ .non) (hg : Gl X "isinstance") (hm : X.mg "isinstance" = none) (hgn : Gl X n) (hmn : X.mg n = none) (hv : bootBuiltins n = some (.type T.name)) (hnn : n ≠ "__name__") (hdb : (n == ("__debug__" : Str)) = false)
    (ha : PE X e (tE p Wx f)) (hs : notStar e = true) : PE X (.Call (.Name "isinstance" pp) [e, .Name n p2] [] pos) (tE p Wx (eOp1 (isiV T) f)) := by
  have hty : PE X (.Name n p2) (tC (.ty T.name)) := pe_bltn hgn hmn hv rfl hnn hdb
  refine (pe_callB call_isi hg hm (by decide +kernel) (pa_cons ha (pa_cons hty pa_nil rfl) (starEach_cons hs)) (by decide) (by decide) (starEach_cons hs) rfl).weak fun σ H Q w => ?_
  obtain ⟨W0, H0, W, r, st, G, q⟩ := op1_weak w
  refine ⟨W0, H0, W, r, st, G, ?_⟩
  cases z : f r st with
  | none => rw [z] at q; exact q.elim
  | some y =>
    rw [z] at q
    cases y with
    | exc e st1 => exact q
    | ok v st1 =>
      intro W1 H1 x f1 S1 R1
      obtain ⟨W2, st2, Hs, u, zz, S2, R2, ez, k⟩ := q W1 H1 x f1 S1 R1
      unfold isiV at ez
      split at ez
      · rename_i t et
        injection ez with ez
        subst ez
        exact ⟨x, .ty T.name, _, _, _, rfl, .ty _, hK ▸ tyX_of S2 R2 et, kit_ty (tyIs_kit t T hT), k W2 H1 _ Fut.refl S2 rfl⟩
      · cases ez
end
/-! ### o[i] = e, o a name -/
def sSetIx (j : Nat) (ie e : ESem) : SSem := fun r st => match e r st with
  | some (.ok v st1) => match v.toVal with
    | some d => match r[j]? with
      | some (.own (.lst xs)) => match ie r st1 with
        | some (.ok (.val (.int k)) st2) => match ixN xs.length k with
          | some m => some (.nx (r.set j (.own (.lst (xs.set m d)))) st2)
          | none => none
        | some (.exc x st2) => some (.exc x r st2)
        | _ => none
      | some (.val (.ref n)) => match ie r st1 with
        | some (.ok (.val (.int k)) st2) => match st2[n]? with
          | some (.lst xs) => match ixN xs.length k with
            | some m => some (.nx r (st2.set n (.lst (xs.set m d))))
            | none => none
          | _ => none
        | some (.exc x st2) => some (.exc x r st2)
        | _ => none
      | _ => none
    | none => none
  | some (.exc x st1) => some (.exc x r st1)
  | none => none
section
variable {X : Cx} {p : Prm} {Wx : WX} {pos pp : Pos} {f g : ESem} {e e1 e2 : Expr} {W0 W : Wd} {H0 H : Hp} {σ : L2.St} {r : Rho} {st : Store}
/-- o is what the tree d is laid as -/
def RepO (p : Prm) (W : Wd) (H : Hp) (d : D) (o : HO) : Prop := ∀ H' a, Fw W H W H' → H' a = some o → RepC p W H' d a
theorem repO_lst {xs : List D} {vs : List V} (hr : RepL p W H xs vs) : RepO p W H (.lst xs) (.lst vs) := fun H' a f e => ⟨vs, e, RepL.fw f xs vs hr⟩
theorem repO_ins {c : Str} {ns : List Str} {fs : List D} {vs : List V} {dx : Addr} (hr : RepL p W H fs vs) : RepO p W H (.ins c ns fs) (.ins (p.cS c) dx (ns.zip vs)) := fun H' a f e => ⟨dx, vs, e, RepL.fw f fs vs hr⟩
theorem repO_dct {ks : List Key} {xs : List D} {vs : List V} (hr : RepL p W H xs vs) : RepO p W H (.dct ks xs) (.dK (ks.zip vs)) := fun H' a f e => ⟨vs, e, RepL.fw f xs vs hr⟩
theorem Good.mutOwn (G : Good p W0 H0 W σ H r st) {i : Nat} {d dn : D} {a : Addr} {o o' : HO} (hi : r[i]? = some (.own d)) (hσ : σ[i]? = some (some (.ref a))) (ha : H a = some o) (hm : MutO o) (hr : RepO p W H dn o') :
    Good p W0 H0 W σ (upd H a o') (r.set i (.own dn)) st ∧ Fw W H W (upd H a o') := by
  obtain ⟨b, k1, k2, k3, k4, k5⟩ := G.own i d hi
  rw [hσ] at k1
  injection k1 with k1
  injection k1 with k1
  injection k1 with k1
  subst k1
  have fm : Fw W H W (upd H a o') := Fw.mut k3 ha hm
  refine ⟨⟨G.fut.mut k5 (some_ne ha), G.ok.mut k3 k4 ha hm, by rw [List.length_set]; exact G.len, fun j e h => ?_, fun j e h => ?_, fun j k d' e' b g1 g2 g3 g4 => ?_⟩, fm⟩
  · rcases get_set h with ⟨e1, e2⟩ | ⟨e1, e2⟩
    · cases e2
    · obtain ⟨v, h1, h2⟩ := G.val j e e2
      exact ⟨v, h1, Rep.fw fm e v h2⟩
  · rcases get_set h with ⟨e1, e2⟩ | ⟨e1, e2⟩
    · injection e2 with e2
      subst e1 e2
      exact ⟨a, hσ, hr _ _ fm upd_same, k3, k4, k5⟩
    · obtain ⟨b, h1, h2, h3, h4, h5⟩ := G.own j e e2
      refine ⟨b, h1, ?_, h3, h4, h5⟩
      refine h2.moved fm fun u q1 => ?_
      rw [upd_ne]
      · exact q1
      · intro z
        subst z
        exact e1 (G.one j i _ d _ e2 hi h1 hσ)
  · have old : ∀ (j : Nat) e, (r.set i (.own dn))[j]? = some (.own e) → ∃ e0, r[j]? = some (.own e0) := fun j e h => by
      rcases get_set h with ⟨e1, e2⟩ | ⟨e1, e2⟩
      · subst e1; exact ⟨d, hi⟩
      · exact ⟨e, e2⟩
    obtain ⟨d1, q1⟩ := old j d' g1
    obtain ⟨d2, q2⟩ := old k e' g2
    exact G.one j k d1 d2 b q1 q2 g3 g4
/-- a thing of the store changed -/
theorem Good.mutSt (G : Good p W0 H0 W σ H r st) {n : Nat} {dn : D} {o o' : HO} (hn : n < W.n) (ha : H (W.mu n) = some o) (hm : MutO o) (hr : RepO p W H dn o') :
    Good p W0 H0 W σ (upd H (W.mu n) o') r (st.set n dn) ∧ Fw W H W (upd H (W.mu n) o') := by
  have fm : Fw W H W (upd H (W.mu n) o') := Fw.mut (G.ok.nf n hn) ha hm
  have S : SOk p W (upd H (W.mu n) o') (st.set n dn) := by
    refine ⟨by rw [List.length_set]; exact G.ok.len, fun m d e => ?_, G.ok.nf, G.ok.inj, fun a z => ?_⟩
    · have hl := (List.getElem?_eq_some_iff.mp e).1
      rw [List.length_set, G.ok.len] at hl
      rcases get_set e with ⟨e1, e2⟩ | ⟨e1, e2⟩
      · subst e1 e2
        exact hr _ _ fm upd_same
      · have c := G.ok.at_ m d e2
        exact c.moved fm fun u q1 => by rw [upd_ne (fun z => e1 (G.ok.inj m n hl hn z))]; exact q1
    · by_cases e : a = W.mu n
      · subst e; rw [upd_same]; exact fun z => by cases z
      · rw [upd_ne e]; exact G.ok.fok a z
  refine ⟨⟨⟨G.fut.fsub, G.fut.mu, fun a o e hn' => ?_, G.fut.nf, G.fut.dom, G.fut.le, fun a z => ?_⟩, S, G.len, fun j e h => ?_, fun j e h => ?_, G.one⟩, fm⟩
  · rw [upd_ne]
    · exact G.fut.keep a o e hn'
    · intro z
      by_cases hl : n < W0.n
      · exact hn' n hl (by rw [← G.fut.mu n hl]; exact z.symm)
      · have q := G.fut.dom n (Nat.le_of_not_lt hl) hn
        rw [← z, e] at q
        cases q
  · by_cases e : a = W.mu n
    · subst e; rw [upd_same]; exact fun z => by cases z
    · rw [upd_ne e]; exact G.fut.tr a z
  · obtain ⟨v, h1, h2⟩ := G.val j e h
    exact ⟨v, h1, Rep.fw fm e v h2⟩
  · obtain ⟨b, h1, h2, h3, h4, h5⟩ := G.own j e h
    refine ⟨b, h1, ?_, h3, h4, h5⟩
    exact h2.moved fm fun u q1 => by rw [upd_ne (fun z => h4 n hn z.symm)]; exact q1
theorem repL_setn {W : Wd} {H : Hp} {xs : List D} {vs : List V} {d : D} {v : V} {k : Int} {m : Nat} (h : RepL p W H xs vs) (hm : ixN xs.length k = some m) : ixN vs.length k = some m := by
  rw [h.length]
  exact hm
theorem ps_setIx {j : Nat} {x : Str} {i : Expr} {p2 : Pos} (he : PE X e (tE p Wx f)) (ho : PE X (.Name x pp) (tVar j)) (hi : PE X i (tE p Wx g))
    (hh : ∀ te ti : TE, PE X e te → PE X i ti → PS X (.Assign [.Subscript (.Name x pp) i p2] e pos) (tAsg te (gSub (tVar j) ti rSetL))) :
    PS X (.Assign [.Subscript (.Name x pp) i p2] e pos) (tS p Wx (sSetIx j g f)) := by
  refine (hh _ _ he hi).weak fun D σ H ⟨W0, H0, W, r, st, G, q⟩ => ?_
  unfold sSetIx at q
  refine tE_bind G (fun v st1 e1 W1 H1 x f1 S1 R1 G1 => ?_) (fun e st1 e1 W1 H1 c d f1 S1 R1 => ?_) (fun z => ?_)
  · simp only [e1] at q
    cases ev : v.toVal with
    | none => simp only [ev] at q; exact q.elim
    | some d =>
      simp only [ev] at q
      obtain ⟨W2, S2, R2, mk⟩ := R1.toVal S1 ev
      have f2 : Fut W H W2 H1 := mk f1 fun _ z => z
      have G2 := G.to f2 S2
      cases ej : r[j]? with
      | none => simp only [ej] at q; exact q.elim
      | some s =>
        simp only [ej] at q
        cases s with
        | no => exact q.elim
        | own c =>
          cases c with
          | lst xs =>
            dsimp only at q
            obtain ⟨a, k1, k2, k3, k4, k5⟩ := G2.own j _ ej
            refine ⟨_, k1, ?_⟩
            refine tE_bind G2 (fun w st3 e3 W3 H3 y f3 S3 R3 G3 => ?_) (fun e st3 e3 W3 H3 c d f3 S3 R3 => ?_) (fun z => ?_)
            · simp only [e3] at q
              cases w with
              | val w =>
                cases w with
                | int k =>
                  dsimp only at q
                  have hy : y = .int k := R3
                  subst hy
                  cases em : ixN xs.length k with
                  | none => simp only [em] at q; exact q.elim
                  | some m =>
                    simp only [em] at q
                    obtain ⟨a', m1, m2, m3, m4, m5⟩ := G3.own j _ ej
                    rw [k1] at m1
                    injection m1 with m1
                    injection m1 with m1
                    injection m1 with m1
                    subst m1
                    obtain ⟨vs, n1, n2⟩ := m2
                    have R2' := Rep.fut f3 S2 d x R2
                    obtain ⟨G4, f4⟩ := G3.mutOwn ej k1 n1 trivial (repO_lst (n2.set m R2'))
                    exact ⟨a, vs, k, m, rfl, rfl, n1, by rw [n2.length]; exact em, q W3 σ _ (((f2.trans f3).fw G.ok).trans f4) G4⟩
                | _ => exact q.elim
              | _ => exact q.elim
            · simp only [e3] at q
              exact q W3 σ H3 c d ((f2.trans f3).fw G.ok) (G2.to f3 S3) R3
            · simp only [z] at q
              exact q.elim
          | _ => exact q.elim
        | val c =>
          cases c with
          | ref n =>
            dsimp only at q
            obtain ⟨v0, k1, k2, k3⟩ := G2.val j _ ej
            subst k3
            refine ⟨_, k1, ?_⟩
            refine tE_bind G2 (fun w st3 e3 W3 H3 y f3 S3 R3 G3 => ?_) (fun e st3 e3 W3 H3 c d f3 S3 R3 => ?_) (fun z => ?_)
            · simp only [e3] at q
              cases w with
              | val w =>
                cases w with
                | int k =>
                  dsimp only at q
                  have hy : y = .int k := R3
                  subst hy
                  cases es : st3[n]? with
                  | none => simp only [es] at q; exact q.elim
                  | some c =>
                    simp only [es] at q
                    cases c with
                    | lst xs =>
                      dsimp only at q
                      cases em : ixN xs.length k with
                      | none => simp only [em] at q; exact q.elim
                      | some m =>
                        simp only [em] at q
                        have hn : n < W3.n := Nat.lt_of_lt_of_le k2 f3.le
                        obtain ⟨vs, n1, n2⟩ := S3.at_ n _ es
                        have R2' := Rep.fut f3 S2 d x R2
                        obtain ⟨G4, f4⟩ := G3.mutSt hn n1 trivial (repO_lst (n2.set m R2'))
                        have emu : W2.mu n = W3.mu n := (f3.mu n k2).symm
                        rw [emu]
                        exact ⟨_, vs, k, m, rfl, rfl, n1, by rw [n2.length]; exact em, q W3 σ _ (((f2.trans f3).fw G.ok).trans f4) G4⟩
                    | _ => exact q.elim
                | _ => exact q.elim
              | _ => exact q.elim
            · simp only [e3] at q
              exact q W3 σ H3 c d ((f2.trans f3).fw G.ok) (G2.to f3 S3) R3
            · simp only [z] at q
              exact q.elim
          | _ => exact q.elim
  · simp only [e1] at q
    exact q W1 σ H1 c d (f1.fw G.ok) (G.to f1 S1) R1
  · simp only [z] at q
    exact q
theorem ps_augS1 {i : Nat} {x : Str} {op : Operator} {fn : Store → RV → RV → Option RV} {pos' : Pos} (ho : OpR X (inplaceOp op) (r2 p fn)) (he : PE X e (tE p Wx f)) (hh : ∀ te : TE, ∀ ti : TIp, PE X e te → PIp X op ti → PS X (.AugAssign (.Name x pos') op e pos) (tAug i te ti)) :
    PS X (.AugAssign (.Name x pos') op e pos) (tS p Wx (sAug fn i f)) := by
  refine (hh _ (r2 p fn) he ho).weak fun D σ H ⟨W0, H0, W, r, st, G, q⟩ => ?_
  unfold sAug at q
  cases ej : r[i]? with
  | none => simp only [ej] at q; exact q.elim
  | some s =>
    simp only [ej] at q
    cases s with
    | no => exact q.elim
    | own c => exact q.elim
    | val c =>
      dsimp only at q
      obtain ⟨v0, k1, k2⟩ := G.val i _ ej
      refine ⟨v0, k1, ?_⟩
      refine tE_bind G (fun v st1 e1 W1 H1 x f1 S1 R1 G1 => ?_) (fun e st1 e1 W1 H1 c d f1 S1 R1 => ?_) (fun z => ?_)
      · simp only [e1] at q
        cases ez : fn st1 (.val c) v with
        | none => simp only [ez] at q; exact q.elim
        | some z =>
          simp only [ez] at q
          refine ⟨W1, st1, H, .val c, v, z, S1, Rep.fut f1 G.ok c v0 k2, R1, ez, fun W2 H2 w f2 S2 R2 => ?_⟩
          have f12 := f1.trans f2
          refine gvar_run (to_target (us := [i]) G f12 S2 (R2.back fun a z => f1.tr a z) ?_)
          cases eg : gVar i z r st1 with
          | none => rw [eg] at q; exact q
          | some y =>
            rw [eg] at q
            exact fun W' σ' H' g G' _ _ => q W' σ' H' (g.fw G.ok) G'
      · simp only [e1] at q
        exact q W1 σ H1 c d (f1.fw G.ok) (G.to f1 S1) R1
      · simp only [z] at q
        exact q
end
end Tz

set_option Elab.async false
set_option linter.all false
set_option maxRecDepth 100000
set_option maxHeartbeats 4000000
/-! Ts8: the text read into combinators, and that the reading is right. -/
namespace Tz
open PySem L2 PyProof.Rows

/-- what is known of a def's names: its slots, its scope, what module names do when called, constants, built-ins that stand -/
structure Cfg where
  N : List Str
  sc : Scope
  calls : List ((Str × Nat × List Str) × FSem)
  consts : List (Str × D)
  blt : List Str
  cel : Bool := true
  box : Bool := false
def ixIn (x : Str) : List Str → Option Nat
  | [] => none
  | y :: ys => if y = x then some 0 else (ixIn x ys).map (· + 1)
theorem ixIn_get {x : Str} : ∀ {l : List Str} {i : Nat}, ixIn x l = some i → l[i]? = some x
  | [], i, h => by cases h
  | y :: ys, i, h => by
    unfold ixIn at h
    split at h
    · rename_i e
      injection h with h
      subst h e
      rfl
    · cases q : ixIn x ys with
      | none => rw [q] at h; cases h
      | some j =>
        rw [q] at h
        injection h with h
        subst h
        show ys[j]? = some x
        exact ixIn_get q
def okNm (x : Str) : Bool := !(x == ("__debug__" : Str)) && !(x == ("__classdict__" : Str)) && !decide (x = ("__name__" : Str))
theorem okNm_d {x : Str} (h : okNm x = true) : (x == ("__debug__" : Str)) = false ∧ (x == ("__classdict__" : Str)) = false ∧ x ≠ "__name__" := by
  unfold okNm at h
  simp only [Bool.and_eq_true, Bool.not_eq_true', decide_eq_false_iff_not] at h
  exact ⟨h.1.1, h.1.2, h.2⟩
/-- the slot of a name that is read -/
def slotOf (c : Cfg) (x : Str) : Option Nat := match c.sc.names.lookup x with
  | some .local => if okNm x = true then ixIn x c.N else none
  | some .cell => if okNm x = true then ixIn x c.N else none
  | some .free => if okNm x = true then ixIn x c.N else none
  | _ => none
/-- the slot of a name that is stored -/
def slotSt (c : Cfg) (x : Str) : Option Nat := match c.sc.names.lookup x with
  | some .local => ixIn x c.N
  | some .cell => if c.cel = true then ixIn x c.N else none
  | _ => none
def isGl (c : Cfg) (x : Str) : Bool := decide (c.sc.names.lookup x = some .globalImplicit) && okNm x
def lookC : List ((Str × Nat × List Str) × FSem) → Str → Nat → List Str → Option FSem
  | [], _, _, _ => none
  | (k, F) :: r, x, n, ks => if k = (x, n, ks) then some F else lookC r x n ks
theorem lookC_mem {x : Str} {n : Nat} {ks : List Str} {F : FSem} : ∀ {l : List ((Str × Nat × List Str) × FSem)}, lookC l x n ks = some F → ((x, n, ks), F) ∈ l
  | [], h => by cases h
  | (k, G) :: r, h => by
    unfold lookC at h
    split at h
    · rename_i e
      injection h with h
      subst h e
      exact List.mem_cons_self
    · exact List.mem_cons_of_mem _ (lookC_mem h)
def lookK : List (Str × D) → Str → Option D
  | [], _ => none
  | (k, d) :: r, x => if k = x then some d else lookK r x
theorem lookK_mem {x : Str} {d : D} : ∀ {l : List (Str × D)}, lookK l x = some d → (x, d) ∈ l
  | [], h => by cases h
  | (k, e) :: r, h => by
    unfold lookK at h
    split at h
    · rename_i q
      injection h with h
      subst h q
      exact List.mem_cons_self
    · exact List.mem_cons_of_mem _ (lookK_mem h)

/-- a module's name called, in every context of these grounds with room k -/
def CallF (P : Program) (w : World) (K : PySem.W.Frag) (mg : Str → Option Value) (base : Heap) (k : Nat) (p : Prm) (x : Str) (np : Nat) (ks : List Str) (F : FSem) : Prop :=
  ∀ X : Cx, X.prog = P → X.w = w → X.K = K → X.mg = mg → X.base = base → Room k X.A → CallOk X p x np ks F
structure COk (c : Cfg) (X : Cx) (p : Prm) (Wx : WX) : Prop where
  hK : p.K = X.K
  N : X.N = c.N
  sc : X.env.scope = c.sc
  nd : c.N.Nodup
  calm : X.calm = true
  tk : Takes X Wx
  kind : c.sc.kind = .function
  calls : ∀ x n ks F, ((x, n, ks), F) ∈ c.calls → ∃ k, Room k X.A ∧ CallF X.prog X.w X.K X.mg X.base k p x n ks F
  consts : ∀ x d, (x, d) ∈ c.consts → ∃ v u, X.mg x = some u ∧ RelV v u ∧ ∀ W H, Rep p W H d v
  blt : ∀ x, x ∈ c.blt → X.mg x = none
  fn : c.cel = true → ∀ x, X.fn x = true
  own : c.cel = true → PassesOwn (model X.prog X.w) X.A X.env X.xe
section
variable {c : Cfg} {X : Cx} {p : Prm} {Wx : WX} {x : Str} {pos pp : Pos}
theorem COk.gl (h : COk c X p Wx) (g : isGl c x = true) : Gl X x ∧ okNm x = true := by
  unfold isGl at g
  rw [Bool.and_eq_true] at g
  refine ⟨?_, g.2⟩
  show X.env.scope.names.lookup x = some .globalImplicit
  rw [h.sc]
  exact of_decide_eq_true g.1
theorem COk.slot (h : COk c X p Wx) {i : Nat} (e : slotOf c x = some i) : PE X (.Name x pos) (tVar i) := by
  have key : ∀ k : NameKind, c.sc.names.lookup x = some k → (k = .local ∨ k = .cell ∨ k = .free) → (if okNm x = true then ixIn x c.N else none) = some i → PE X (.Name x pos) (tVar i) := by
    intro k hk ho e
    split at e
    · rename_i hn
      refine pe_var (by rw [h.N]; exact ixIn_get e) ?_ (okNm_d hn).1 (okNm_d hn).2.1
      unfold Vis
      rw [h.sc, hk]
      rcases ho with rfl | rfl | rfl
      · exact .inl rfl
      · exact .inr (.inl rfl)
      · exact .inr (.inr rfl)
    · cases e
  unfold slotOf at e
  split at e
  · rename_i hk; exact key _ hk (.inl rfl) e
  · rename_i hk; exact key _ hk (.inr (.inl rfl)) e
  · rename_i hk; exact key _ hk (.inr (.inr rfl)) e
  · cases e
theorem COk.stores (h : COk c X p Wx) {i : Nat} (e : slotSt c x = some i) : X.N[i]? = some x ∧ Loc X.env.scope x ∧ (X.fn x = true ∨ X.env.scope.names.lookup x = some .local) := by
  unfold slotSt at e
  split at e
  · rename_i hk
    exact ⟨by rw [h.N]; exact ixIn_get e, .inl (by rw [h.sc]; exact hk), .inr (by rw [h.sc]; exact hk)⟩
  · rename_i hk
    split at e
    · rename_i hc
      exact ⟨by rw [h.N]; exact ixIn_get e, .inr (by rw [h.sc]; exact hk), .inl (h.fn hc x)⟩
    · cases e
  · cases e
end

/-! ### operators -/
def binF : Operator → Option (Store → RV → RV → Option RV)
  | .Add => some addV | .Sub => some subV | .Mult => some mulV | .FloorDiv => some divV | .Mod => some modV | .Pow => some powV
  | .RShift => some shrV | .LShift => some shlV | .BitAnd => some andV
  | _ => none
theorem binF_ok {X : Cx} {p : Prm} (hK : p.K = X.K) {op : Operator} {fn : Store → RV → RV → Option RV} (h : binF op = some fn) : OpR X (binaryOp op) (r2 p fn) := by
  cases op <;> first
    | (cases h; done)
    | (injection h with h; subst h; first | exact op_addV hK | exact op_subV | exact op_mulV | exact op_divV | exact op_modV | exact op_powV | exact op_shrV | exact op_shlV | exact op_andV)
def cmpF : CmpOp → Option (Store → RV → RV → Option RV)
  | .Eq => some eqV | .NotEq => some neV | .Lt => some ltV | .LtE => some leV | .Gt => some gtV | .GtE => some geV | .Is => some isV | .IsNot => some isntV
  | _ => none
theorem cmpF_ok {X : Cx} {p : Prm} {op : CmpOp} {fn : Store → RV → RV → Option RV} (h : cmpF op = some fn) : OpR X (compareOp op) (r2 p fn) := by
  cases op <;> first
    | (cases h; done)
    | (injection h with h; subst h; first | exact op_eqV | exact op_neV | exact op_ltI | exact op_leI | exact op_gtI | exact op_geI | exact op_isV | exact op_isntV)
def augF : Operator → Option (Store → RV → RV → Option RV)
  | .Mult => some imulV
  | _ => none
theorem augF_ok {X : Cx} {p : Prm} {op : Operator} {fn : Store → RV → RV → Option RV} (h : augF op = some fn) : OpR X (inplaceOp op) (r2 p fn) := by
  cases op <;> first
    | (cases h; done)
    | (injection h with h; subst h; exact op_imulV)
def negV : Store → RV → Option RV := fun _ x => match x.d with
  | .int i => some (.val (.int (-i)))
  | _ => none
theorem un_negV {X : Cx} {p : Prm} : UnR X (unaryOp .USub) (r1 p negV) := by
  intro pins s σ H x v Q I rx ⟨W, st, Hs, u, z, S, R, e, q⟩
  unfold negV at e
  split at e
  · rename_i i ei
    injection e with e
    subst e
    exact un_neg pins s σ H x v Q I rx ⟨i, rvr_int R ei, q W H _ Fut.refl S rfl⟩
  · cases e
def bltF (x : Str) : Option (String × (Store → RV → Option RV)) :=
  if x = "len" then some ("len", lenV) else if x = "abs" then some ("abs", absV) else if x = "all" then some ("all", allV) else if x = "any" then some ("any", anyV) else none
def tyF (x : Str) : Option (String × (Store → RV → Option RV)) :=
  if x = "int" then some ("int", intV) else if x = "tuple" then some ("tuple", tupV) else none
def blt2F (x : Str) : Option (String × (Store → RV → RV → Option RV)) :=
  if x = "max" then some ("max", max2V) else if x = "min" then some ("min", min2V) else none
theorem bltF_ok {X : Cx} {p : Prm} (hK : p.K = X.K) (hc : X.calm = true) {x : Str} {id : String} {fn : Store → RV → Option RV} (h : bltF x = some (id, fn)) : CallR X (.builtin id) (rB1 p fn) ∧ bootBuiltins x = some (.builtin id) := by
  unfold bltF at h
  split at h
  · rename_i e; injection h with h; injection h with h1 h2; subst h1 h2 e; exact ⟨len_ok hK, by decide +kernel⟩
  · split at h
    · rename_i e; injection h with h; injection h with h1 h2; subst h1 h2 e; exact ⟨abs_ok, by decide +kernel⟩
    · split at h
      · rename_i e; injection h with h; injection h with h1 h2; subst h1 h2 e; exact ⟨all_ok hK hc, by decide +kernel⟩
      · split at h
        · rename_i e; injection h with h; injection h with h1 h2; subst h1 h2 e; exact ⟨any_ok hK hc, by decide +kernel⟩
        · cases h
theorem tyF_ok {X : Cx} {p : Prm} (hK : p.K = X.K) {x : Str} {id : String} {fn : Store → RV → Option RV} (h : tyF x = some (id, fn)) : CallR X (.type id) (rB1 p fn) ∧ bootBuiltins x = some (.type id) := by
  unfold tyF at h
  split at h
  · rename_i e; injection h with h; injection h with h1 h2; subst h1 h2 e; exact ⟨int_ok, by decide +kernel⟩
  · split at h
    · rename_i e; injection h with h; injection h with h1 h2; subst h1 h2 e; exact ⟨tup_ok hK, by decide +kernel⟩
    · cases h
theorem blt2F_ok {X : Cx} {p : Prm} (hc : X.calm = true) {x : Str} {id : String} {fn : Store → RV → RV → Option RV} (h : blt2F x = some (id, fn)) : CallR X (.builtin id) (rB2 p fn) ∧ bootBuiltins x = some (.builtin id) := by
  unfold blt2F at h
  split at h
  · rename_i e; injection h with h; injection h with h1 h2; subst h1 h2 e; exact ⟨max2_ok hc, by decide +kernel⟩
  · split at h
    · rename_i e; injection h with h; injection h with h1 h2; subst h1 h2 e; exact ⟨min2_ok hc, by decide +kernel⟩
    · cases h
def tyOf (x : Str) : Option Ty :=
  if x = "int" then some .int else if x = "bool" then some .bl else if x = "str" then some .str else if x = "tuple" then some .tup else if x = "list" then some .lst else if x = "dict" then some .dct else none
theorem tyOf_ok {x : Str} {T : Ty} (h : tyOf x = some T) : T ≠ .non ∧ bootBuiltins x = some (.type T.name) := by
  unfold tyOf at h
  repeat (split at h; (rename_i e; injection h with h; subst h e; exact ⟨by decide, by decide +kernel⟩))
  cases h

/-! ### expressions -/
def denC : Const → ESem
  | .int i => eC (.int i)
  | .bool b => eC (.bl b)
  | .none => eC .non
  | .str s => eC (.str s)
  | _ => eStuck
def denAndL : List ESem → ESem
  | [] => eStuck
  | [a] => a
  | a :: as => eAndS a (denAndL as)
def denOrL : List ESem → ESem
  | [] => eStuck
  | [a] => a
  | a :: as => eOrS a (denOrL as)
def denAndT : List TSem → TSem
  | [] => tStuck
  | [a] => a
  | a :: as => tAndS a (denAndT as)
def denOrT : List TSem → TSem
  | [] => tStuck
  | [a] => a
  | a :: as => tOrS a (denOrT as)
def isSlice : Expr → Bool
  | .Slice _ _ _ _ => true
  | _ => false
theorem plainIx_of {b : Expr} (h : isSlice b = false) : PlainIx b := by
  intro o i
  cases b <;> first
    | rfl
    | cases h
def denCmp (f : Expr → ESem) (a : Expr) (ops : List CmpOp) (bs : List Expr) : ESem := match ops, bs with
  | [op], [b] => match cmpF op with
    | some fn => if behindInMarks op b = false then eOp2 fn (f a) (f b) else eStuck
    | none => eStuck
  | [op, op'], [b, b'] => match cmpF op, cmpF op' with
    | some fn, some gn => if lastMarks [op, op'] [b, b'] = false then eChain fn gn (f a) (f b) (f b') else eStuck
    | _, _ => eStuck
  | _, _ => eStuck
def denName (c : Cfg) (x : Str) : ESem := match slotOf c x with
  | some i => eVar i
  | none => if isGl c x = true then (match lookK c.consts x with
    | some d => eC d
    | none => eStuck) else eStuck
def kwNames : List Keyword → Option (List Str)
  | [] => some []
  | ⟨some n, _, _⟩ :: ks => (kwNames ks).map (n :: ·)
  | _ => none
def denCallF (c : Cfg) (f : Expr → ESem) (x : Str) (args : List Expr) (kws : List Keyword) : ESem :=
  match kws, args with
  | [], [] => match lookC c.calls x 0 [] with
    | some F => eCall F aNil
    | none => eStuck
  | [], a :: as => match lookC c.calls x (as.length + 1) [] with
    | some F => eCall F (argsS (f a :: as.map f))
    | none => eStuck
  | k :: ks, [] => match kwNames (k :: ks) with
    | some ns => match lookC c.calls x 0 ns with
      | some F => eCall F (argsS ((k :: ks).map fun q => f (kwE q)))
      | none => eStuck
    | none => eStuck
  | k :: ks, a :: as => match kwNames (k :: ks) with
    | some ns => match lookC c.calls x (as.length + 1) ns with
      | some F => eCall F (aApp (argsS (f a :: as.map f)) (argsS ((k :: ks).map fun q => f (kwE q))))
      | none => eStuck
    | none => eStuck
def denBlt (c : Cfg) (f : Expr → ESem) (x : Str) (args : List Expr) : ESem := match args with
  | [a] => match bltF x with
    | some (_, fn) => eOp1 fn (f a)
    | none => match tyF x with
      | some (_, fn) => eOp1 fn (f a)
      | none => eStuck
  | [a, b] => match b with
    | .Name n _ => if x = "isinstance" then (if isGl c n = true ∧ n ∈ c.blt then (match tyOf n with
        | some T => eOp1 (isiV T) (f a)
        | none => eStuck) else eStuck) else (match blt2F x with
      | some (_, fn) => eOp2 fn (f a) (f b)
      | none => eStuck)
    | _ => match blt2F x with
      | some (_, fn) => eOp2 fn (f a) (f b)
      | none => eStuck
  | _ => eStuck
def denCall (c : Cfg) (f : Expr → ESem) (fn : Expr) (args : List Expr) (kws : List Keyword) : ESem := match fn with
  | .Name x _ => if isGl c x = true ∧ args.all notStar = true then (if x ∈ c.blt then (match kws with
      | [] => denBlt c f x args
      | _ => eStuck) else denCallF c f x args kws) else eStuck
  | _ => eStuck
/-- what a for walks; a comprehension's may be a list that a slot owns -/
def denI (c : Cfg) (f : Expr → ESem) (e : Expr) : Option ISem := match e with
  | .Call (.Name x _) args [] _ => if x = "range" ∧ isGl c x = true ∧ x ∈ c.blt ∧ args.all notStar = true then (match args with
      | [a] => some (iRange1 (f a))
      | [a, b] => some (iRange2 (f a) (f b))
      | _ => none) else none
  | _ => none
def isSet : Expr → Bool
  | .Set _ _ _ => true
  | _ => false
theorem noSet {e : Expr} (h : isSet e = false) (env : Env) (x : Value) : foldedSetIterable e env x = pure x := by
  cases e <;> first
    | rfl
    | cases h
/-- a target of names, with its slots -/
def denG1 (c : Cfg) : Expr → Option (TgSem × List Nat)
  | .Name x _ => match slotSt c x with
    | some i => some (gVar i, [i])
    | none => none
  | _ => none
def denGs (g : Expr → Option (TgSem × List Nat)) : List Expr → Option (List TgSem × List Nat)
  | [] => some ([], [])
  | t :: ts => match g t with
    | some (a, us) => match denGs g ts with
      | some (as, vs) => some (a :: as, us ++ vs)
      | none => none
    | none => none
def denG : Nat → Cfg → Expr → Option (TgSem × List Nat)
  | 0, c, e => denG1 c e
  | n + 1, c, e => match e with
    | .Name x _ => denG1 c (.Name x ⟨0, 0, 0, 0⟩)
    | .Tuple ts _ _ => if ts.all notStar = true then (match denGs (denG n c) ts with
      | some (gs, us) => some (gTupS gs, us)
      | none => none) else none
    | _ => none
def ownOf (c : Cfg) (scope : Scope) : List (Str × Nat) := scope.names.filterMap fun (y, k) => match k with
  | .local => (ixIn y c.N).map fun i => (y, i)
  | .cell => (ixIn y c.N).map fun i => (y, i)
  | _ => none
def Cfg.blk (c : Cfg) (scope : Scope) : Cfg := { c with sc := relS scope c.sc, cel := false }
def denComp (c : Cfg) (f : Cfg → Expr → ESem) (t : Cfg → Expr → TSem) (elt tg it : Expr) (ifs : List Expr) (scope : Scope) : ESem :=
  if blkC c.N c.sc scope (ownOf c scope) = true ∧ isSet it = false then (match denG 4 (c.blk scope) tg with
    | some (g, us) => if us.all (fun j => ((ownOf c scope).map (·.2)).contains j) = true then (
        let i := match denI c (f c) it with
          | some i => i
          | none => iExpU (f c it)
        match ifs with
        | [] => eComp ((ownOf c scope).map (·.2)) i g tTrue (f (c.blk scope) elt)
        | [q] => eComp ((ownOf c scope).map (·.2)) i g (t (c.blk scope) q) (f (c.blk scope) elt)
        | _ => eStuck) else eStuck
    | none => eStuck) else eStuck
def denO (f : Expr → ESem) : Option Expr → Rho → Store → Option (Option Int × Store)
  | none => oNone
  | some e => oSome (f e)
mutual
def denE : Nat → Cfg → Expr → ESem
  | 0, _, _ => eStuck
  | n + 1, c, e => match e with
    | .Name x _ => denName c x
    | .Constant k _ _ => denC k
    | .BinOp a op b _ => match binF op with
      | some fn => eOp2 fn (denE n c a) (denE n c b)
      | none => eStuck
    | .UnaryOp .Not a _ => eTest (tNotS (tVal (denE n c a)))
    | .UnaryOp .USub a _ => eOp1 negV (denE n c a)
    | .BoolOp .And vs _ => denAndL (vs.map (denE n c))
    | .BoolOp .Or vs _ => denOrL (vs.map (denE n c))
    | .Compare a ops bs _ => denCmp (denE n c) a ops bs
    | .IfExp t a b _ => eIf (denT n c t) (denE n c a) (denE n c b)
    | .Tuple es _ _ => if es.all notStar = true then eTup (argsS (es.map (denE n c))) else eStuck
    | .List es _ => if es.all notStar = true then eLst (argsS (es.map (denE n c))) else eStuck
    | .Subscript a b _ => match b with
      | .Slice lo hi none _ => eSl (denE n c a) (denO (denE n c) lo) (denO (denE n c) hi)
      | b => if isSlice b = false then eOp2 ixV (denE n c a) (denE n c b) else eStuck
    | .Call fn args kws _ => denCall c (denE n c) fn args kws
    | .ListComp elt gens scope _ => match gens with
      | [⟨tg, it, ifs, 0⟩] => denComp c (denE n) (denT n) elt tg it ifs scope
      | _ => eStuck
    | _ => eStuck
def denT : Nat → Cfg → Expr → TSem
  | 0, _, _ => tStuck
  | n + 1, c, e => match e with
    | .UnaryOp .Not a _ => tNotS (denT n c a)
    | .BoolOp .And vs _ => denAndT (vs.map (denT n c))
    | .BoolOp .Or vs _ => denOrT (vs.map (denT n c))
    | .Compare a ops bs _ => tBool (denCmp (denE n c) a ops bs)
    | .IfExp _ _ _ _ => tStuck
    | e => tVal (denE n c e)
end
end Tz

set_option Elab.async false
set_option linter.all false
set_option maxRecDepth 100000
set_option maxHeartbeats 4000000
/-! Ts9: the reading is right. -/
namespace Tz
open PySem L2 PyProof.Rows
section
variable {c : Cfg} {X : Cx} {p : Prm} {Wx : WX} {x : Str} {pos pp : Pos} {f : Expr → ESem}
theorem denC_ok {k : Const} {j : Nat} : PE X (.Constant k j pos) (tE p Wx (denC k)) := by
  cases k with
  | int i => exact pe_const pe_int fun _ _ => rfl
  | bool b => exact pe_const pe_bl fun _ _ => rfl
  | none => exact pe_const pe_non fun _ _ => rfl
  | str s => exact pe_const pe_str fun _ _ => rfl
  | _ => exact pe_stuck
theorem denName_ok (h : COk c X p Wx) : PE X (.Name x pos) (tE p Wx (denName c x)) := by
  unfold denName
  split
  · rename_i i e
    exact pe_slot (h.slot e)
  · split
    · rename_i g
      split
      · rename_i d e
        obtain ⟨v, u, h1, h2, h3⟩ := h.consts x d (lookK_mem e)
        obtain ⟨g1, g2⟩ := h.gl g
        exact pe_const (pe_glob g1 h1 h2 (okNm_d g2).1) h3
      · exact pe_stuck
    · exact pe_stuck
theorem denCmp_ok (h : ∀ e, PE X e (tE p Wx (f e))) {a : Expr} {ops : List CmpOp} {bs : List Expr} : PE X (.Compare a ops bs pos) (tE p Wx (denCmp f a ops bs)) := by
  unfold denCmp
  split
  · split
    · rename_i op b _ fn e
      split
      · rename_i hm
        exact pe_cmp2 (cmpF_ok e) (h _) (h _) hm
      · exact pe_stuck
    · exact pe_stuck
  · split
    · split
      · rename_i hm
        rename_i e1 e2
        exact pe_chain3 (cmpF_ok e1) (cmpF_ok e2) (h _) (h _) (h _) hm
      · exact pe_stuck
    · exact pe_stuck
  · exact pe_stuck
theorem tbool_stuck {e : Expr} : PT X e (tT p Wx (tBool eStuck)) := ⟨fun _ _ _ _ _ _ ⟨_, _, _, _, _, _, z⟩ => z.elim⟩
theorem denCmpT_ok (h : ∀ e, PE X e (tE p Wx (f e))) {a : Expr} {ops : List CmpOp} {bs : List Expr} : PT X (.Compare a ops bs pos) (tT p Wx (tBool (denCmp f a ops bs))) := by
  unfold denCmp
  split
  · split
    · rename_i op b _ fn e
      split
      · rename_i hm
        exact pt_cmp2 (cmpF_ok e) (h _) (h _) hm
      · exact tbool_stuck
    · exact tbool_stuck
  · split
    · split
      · rename_i hm
        rename_i e1 e2
        exact pt_chain3 (cmpF_ok e1) (cmpF_ok e2) (h _) (h _) (h _) hm
      · exact tbool_stuck
    · exact tbool_stuck
  · exact tbool_stuck
theorem denAndL_ok (h : ∀ e, PE X e (tE p Wx (f e))) : ∀ vs : List Expr, PE X (.BoolOp .And vs pos) (tE p Wx (denAndL (vs.map f)))
  | [] => pe_stuck
  | [a] => pe_one (h a)
  | a :: b :: r => pe_andS (h a) (denAndL_ok h (b :: r))
theorem denOrL_ok (h : ∀ e, PE X e (tE p Wx (f e))) : ∀ vs : List Expr, PE X (.BoolOp .Or vs pos) (tE p Wx (denOrL (vs.map f)))
  | [] => pe_stuck
  | [a] => pe_one (h a)
  | a :: b :: r => pe_orS (h a) (denOrL_ok h (b :: r))
theorem pw_stuck {e : Expr} : PW X e (tT p Wx tStuck) := ⟨fun _ _ _ _ _ _ _ ⟨_, _, _, _, _, _, z⟩ => z.elim⟩
theorem denAndT_ok {t : Expr → TSem} (h : ∀ e, PT X e (tT p Wx (t e))) : ∀ vs : List Expr, PW X (.BoolOp .And vs pos) (tT p Wx (denAndT (vs.map t)))
  | [] => pw_stuck
  | [a] => pw_and1S (h a)
  | a :: b :: r => pw_andS (h a) (denAndT_ok h (b :: r))
theorem denOrT_ok {t : Expr → TSem} (h : ∀ e, PT X e (tT p Wx (t e))) : ∀ vs : List Expr, PW X (.BoolOp .Or vs pos) (tT p Wx (denOrT (vs.map t)))
  | [] => pw_stuck
  | [a] => pw_or1S (h a)
  | a :: b :: r => pw_orS (h a) (denOrT_ok h (b :: r))
theorem args_ok (h : ∀ e, PE X e (tE p Wx (f e))) : ∀ es : List Expr, es.all notStar = true → PA X es (tA p Wx (argsS (es.map f)))
  | [], _ => pa_nilS
  | e :: es, hs => by
    have h1 := hs
    rw [List.all_cons, Bool.and_eq_true] at h1
    exact pa_consS (h e) (args_ok h es h1.2) (starEach_cons h1.1)
theorem kws_ok (h : ∀ e, PE X e (tE p Wx (f e))) : ∀ ks : List Keyword, PK X ks (tA p Wx (argsS (ks.map fun q => f (kwE q))))
  | [] => pk_nilS
  | k :: ks => pk_consS (h (kwE k)) (kws_ok h ks)
theorem kwNames_ok : ∀ {ks : List Keyword} {ns : List Str}, kwNames ks = some ns → ks.map kwName = ns.map some
  | [], ns, h => by
    injection h with h
    subst h
    rfl
  | ⟨some n, e, q⟩ :: ks, ns, h => by
    have h : (kwNames ks).map (n :: ·) = some ns := h
    cases z : kwNames ks with
    | none => rw [z] at h; cases h
    | some ms =>
      rw [z] at h
      injection h with h
      subst h
      rw [List.map_cons, List.map_cons, kwNames_ok z]
      rfl
  | ⟨none, e, q⟩ :: ks, ns, h => by cases h
theorem denCallF_ok (hc : COk c X p Wx) (h : ∀ e, PE X e (tE p Wx (f e))) (hg : isGl c x = true) {args : List Expr} {kws : List Keyword} (hs : args.all notStar = true) : PE X (.Call (.Name x pp) args kws pos) (tE p Wx (denCallF c f x args kws)) := by
  obtain ⟨g1, g2⟩ := hc.gl hg
  have gd := (okNm_d g2).1
  have look : ∀ {n : Nat} {ks : List Str} {F : FSem}, lookC c.calls x n ks = some F → CallOk X p x n ks F := by
    intro n ks F e
    obtain ⟨k, hr, cf⟩ := hc.calls x n ks F (lookC_mem e)
    exact cf X rfl rfl rfl rfl rfl hr
  unfold denCallF
  split
  · split
    · rename_i F e
      exact pe_callS0 (look e) hc.tk g1 gd
    · exact pe_stuck
  · split
    · rename_i a as F e
      exact pe_callS1 (look e) hc.tk g1 gd (by rw [List.length_map]) (args_ok h _ hs) hs
    · exact pe_stuck
  · split
    · rename_i ns en
      split
      · rename_i F e
        have hn := kwNames_ok en
        have hl := congrArg List.length hn
        rw [List.length_map, List.length_map] at hl
        exact pe_callS3 (look e) hc.tk g1 gd hn (by rw [List.length_map]; exact hl) (kws_ok h _)
      · exact pe_stuck
    · exact pe_stuck
  · split
    · rename_i ns en
      split
      · rename_i F e
        have hn := kwNames_ok en
        have hl := congrArg List.length hn
        rw [List.length_map, List.length_map] at hl
        exact pe_callS2 (look e) hc.tk g1 gd (by rw [List.length_map]) hn (by rw [List.length_map]; exact hl) (args_ok h _ hs) (kws_ok h _) hs
      · exact pe_stuck
    · exact pe_stuck
theorem denBlt_ok (hc : COk c X p Wx) (h : ∀ e, PE X e (tE p Wx (f e))) (hg : isGl c x = true) (hb : x ∈ c.blt) {args : List Expr} (hs : args.all notStar = true) : PE X (.Call (.Name x pp) args [] pos) (tE p Wx (denBlt c f x args)) := by
  obtain ⟨g1, g2⟩ := hc.gl hg
  have gd := okNm_d g2
  have hm := hc.blt x hb
  have two : ∀ {a b : Expr}, [a, b].all notStar = true → PE X (.Call (.Name x pp) [a, b] [] pos) (tE p Wx (match blt2F x with
      | some (_, fn) => eOp2 fn (f a) (f b)
      | none => eStuck)) := by
    intro a b hs
    have hs' := hs
    rw [List.all_cons, List.all_cons, Bool.and_eq_true, Bool.and_eq_true] at hs'
    split
    · rename_i id fn e
      obtain ⟨k1, k2⟩ := blt2F_ok (p := p) hc.calm e
      exact pe_blt2 k1 g1 hm k2 (h _) (h _) hs'.1 hs'.2.1 gd.2.2 gd.1
    · exact pe_stuck
  unfold denBlt
  split
  · rename_i a
    have hs' := hs
    rw [List.all_cons, Bool.and_eq_true] at hs'
    split
    · rename_i id fn e
      obtain ⟨k1, k2⟩ := bltF_ok hc.hK hc.calm e
      exact pe_blt1 k1 g1 hm k2 (h _) hs'.1 gd.2.2 gd.1
    · split
      · rename_i id fn e
        obtain ⟨k1, k2⟩ := tyF_ok hc.hK e
        exact pe_ty1 k1 g1 hm k2 (h _) hs'.1 gd.2.2 gd.1
      · exact pe_stuck
  · rename_i a b
    have hs' := hs
    rw [List.all_cons, Bool.and_eq_true] at hs'
    split
    · rename_i n pn
      split
      · rename_i ex
        subst ex
        split
        · rename_i hn
          obtain ⟨n1, n2⟩ := hc.gl hn.1
          have nd := okNm_d n2
          split
          · rename_i T eT
            obtain ⟨k1, k2⟩ := tyOf_ok eT
            exact pe_isi hc.hK k1 g1 hm n1 (hc.blt n hn.2) k2 nd.2.2 nd.1 (h _) hs'.1
          · exact pe_stuck
        · exact pe_stuck
      · exact two hs
    · exact two hs
  · exact pe_stuck
theorem denCall_ok (hc : COk c X p Wx) (h : ∀ e, PE X e (tE p Wx (f e))) {fn : Expr} {args : List Expr} {kws : List Keyword} : PE X (.Call fn args kws pos) (tE p Wx (denCall c f fn args kws)) := by
  unfold denCall
  split
  · rename_i x pp
    split
    · rename_i hg
      split
      · rename_i hb
        split
        · exact denBlt_ok hc h hg.1 hb hg.2
        · exact pe_stuck
      · exact denCallF_ok hc h hg.1 hg.2
    · exact pe_stuck
  · exact pe_stuck
theorem denI_ok (hc : COk c X p Wx) (h : ∀ e, PE X e (tE p Wx (f e))) {tg e : Expr} {i : ISem} (hi : denI c f e = some i) : PI X tg e (tI p i) := by
  unfold denI at hi
  split at hi
  · rename_i x pp args pos
    split at hi
    · rename_i hx
      obtain ⟨e1, hg, hb, hs⟩ := hx
      subst e1
      obtain ⟨g1, g2⟩ := hc.gl hg
      have hm := hc.blt _ hb
      split at hi
      · injection hi with hi
        subst hi
        rw [List.all_cons, Bool.and_eq_true] at hs
        exact pi_range1S g1 hm (h _) hs.1
      · injection hi with hi
        subst hi
        rw [List.all_cons, List.all_cons, Bool.and_eq_true, Bool.and_eq_true] at hs
        exact pi_range2S g1 hm (h _) (h _) hs.1 hs.2.1
      · cases hi
    · cases hi
  · cases hi
theorem denG1_ok (hc : COk c X p Wx) {e : Expr} {g : TgSem} {us : List Nat} (h : denG1 c e = some (g, us)) : PG X e (tG p g us) := by
  unfold denG1 at h
  split at h
  · rename_i x q
    split at h
    · rename_i i e
      injection h with h
      injection h with h1 h2
      subst h1 h2
      obtain ⟨k1, k2, k3⟩ := hc.stores e
      exact pg_var (pg_name (by rw [hc.N]; exact hc.nd) k1 k2 k3)
    · cases h
  · cases h
theorem assignEach_cons {e : Expr} {es : List Expr} {env : Env} (h : notStar e = true) : assignEach (e :: es) env = (false, assign e env) :: assignEach es env := by
  cases e <;> first
    | rfl
    | cases h
theorem assignEach_len {env : Env} : ∀ {es : List Expr}, es.all notStar = true → (assignEach es env).length = es.length ∧ (assignEach es env).findIdx? (·.1) = none
  | [], _ => ⟨rfl, rfl⟩
  | e :: es, h => by
    rw [List.all_cons, Bool.and_eq_true] at h
    obtain ⟨h1, h2⟩ := assignEach_len (env := env) h.2
    rw [assignEach_cons h.1]
    refine ⟨by rw [List.length_cons, List.length_cons, h1], ?_⟩
    rw [List.findIdx?_cons, h2]
    rfl
theorem denGs_ok {g : Expr → Option (TgSem × List Nat)} (hg : ∀ {e gs us}, g e = some (gs, us) → PG X e (tG p gs us)) : ∀ {ts : List Expr} {gs : List TgSem} {us : List Nat}, denGs g ts = some (gs, us) → ts.all notStar = true → PGs X ts (tGs p gs us) ∧ gs.length = ts.length
  | [], gs, us, h, _ => by
    injection h with h
    injection h with h1 h2
    subst h1 h2
    exact ⟨pgs_nilS, rfl⟩
  | t :: ts, gs, us, h, hs => by
    unfold denGs at h
    rw [List.all_cons, Bool.and_eq_true] at hs
    split at h
    · rename_i a vs e1
      split at h
      · rename_i as ws e2
        injection h with h
        injection h with h1 h2
        subst h1 h2
        obtain ⟨k1, k2⟩ := denGs_ok hg e2 hs.2
        exact ⟨pgs_consS (hg e1) k1 (by rw [assignEach_cons hs.1]; rfl), by rw [List.length_cons, List.length_cons, k2]⟩
      · cases h
    · cases h
theorem denG_ok (hc : COk c X p Wx) : ∀ (n : Nat) {e : Expr} {g : TgSem} {us : List Nat}, denG n c e = some (g, us) → PG X e (tG p g us)
  | 0, e, g, us, h => denG1_ok hc h
  | n + 1, e, g, us, h => by
    unfold denG at h
    split at h
    · rename_i x q
      unfold denG1 at h
      exact denG1_ok (e := .Name x q) hc (by unfold denG1; exact h)
    · rename_i ts k q
      split at h
      · rename_i hs
        split at h
        · rename_i gs vs e1
          injection h with h
          injection h with h1 h2
          subst h1 h2
          obtain ⟨k1, k2⟩ := denGs_ok (fun h => denG_ok hc n h) e1 hs
          obtain ⟨l1, l2⟩ := assignEach_len (env := X.env) hs
          exact pg_tupS hc.hK hc.calm k1 k2 l1 l2
        · cases h
      · cases h
    · cases h
/-- the block of a comprehension -/
theorem COk.blk (h : COk c X p Wx) {scope : Scope} (hk : scope.kind = .function) (s : Shared) (H : Hp) (C : Addr) (cl : List (Str × Addr)) (fp : List Addr) : COk (c.blk scope) (X.blk s H scope (compEnvC scope cl C X.env) fp) p (fun _ _ _ _ => False) where
  hK := h.hK
  N := h.N
  sc := by
    show relS scope X.env.scope = relS scope c.sc
    rw [h.sc]
  nd := h.nd
  calm := h.calm
  tk := takes0
  kind := hk
  calls := h.calls
  consts := h.consts
  blt := h.blt
  fn := fun z => by cases z
  own := fun z => by cases z
theorem denO_ok (h : ∀ e, PE X e (tE p Wx (f e))) : ∀ o : Option Expr, PO X o (tO p (denO f o))
  | none => po_noneS
  | some e => po_someS (h e)
theorem pt_true {e : List Expr} (he : e = []) : PTs X e (tT p Wx tTrue) := by
  subst he
  exact ⟨fun pins s σ H Q I ⟨W0, H0, W, r, st, G, q⟩ => pts_nil.run pins s σ H Q I (q W H Fut.refl G.ok)⟩
theorem denComp_ok (hc : COk c X p Wx) {f : Cfg → Expr → ESem} {t : Cfg → Expr → TSem} (hf : ∀ {c : Cfg} {X : Cx} {Wx : WX}, COk c X p Wx → ∀ e, PE X e (tE p Wx (f c e))) (ht : ∀ {c : Cfg} {X : Cx} {Wx : WX}, COk c X p Wx → ∀ e, PT X e (tT p Wx (t c e)))
    {elt tg it : Expr} {ifs : List Expr} {scope : Scope} : PE X (.ListComp elt [⟨tg, it, ifs, 0⟩] scope pos) (tE p Wx (denComp c f t elt tg it ifs scope)) := by
  unfold denComp
  split
  · rename_i hb
    obtain ⟨hb, hset⟩ := hb
    have ok := blkOk_by hb
    have okX : BlkOk X.N X.env.scope scope (ownOf c scope) := by rw [hc.N, hc.sc]; exact ok
    have nd : X.N.Nodup := by rw [hc.N]; exact hc.nd
    split
    · rename_i g us eg
      split
      · rename_i hu
        have hu' : ∀ j, j ∈ us → j ∈ (ownOf c scope).map (·.2) := fun j hj => by
          have := List.all_eq_true.mp hu j hj
          simpa using this
        have hi : PI X tg it (tIU p (match denI c (f c) it with
          | some i => i
          | none => iExpU (f c it))) := by
          split
          · rename_i i ei
            exact pi_u (denI_ok hc (hf hc) ei)
          · exact pi_expU hc.hK (hf hc it)
        have hg := fun (s : Shared) (H : Hp) (C : Addr) (cl : List (Str × Addr)) (fp : List Addr) => denG_ok (hc.blk ok.kind s H C cl fp) 4 eg
        dsimp only
        split
        · have he := fun (s : Shared) (H : Hp) (C : Addr) (cl : List (Str × Addr)) (fp : List Addr) => hf (hc.blk ok.kind s H C cl fp) elt
          have htt := fun (s : Shared) (H : Hp) (C : Addr) (cl : List (Str × Addr)) (fp : List Addr) => pt_true (X := X.blk s H scope (compEnvC scope cl C X.env) fp) (p := p) (Wx := fun _ _ _ _ => False) (e := []) rfl
          exact (pe_lc hc.calm nd hi okX hg htt he (noSet hset X.env)).weak (pe_compS hc.calm nd hi okX hg hu' htt he (noSet hset X.env))
        · rename_i q
          have he := fun (s : Shared) (H : Hp) (C : Addr) (cl : List (Str × Addr)) (fp : List Addr) => hf (hc.blk ok.kind s H C cl fp) elt
          have htt := fun (s : Shared) (H : Hp) (C : Addr) (cl : List (Str × Addr)) (fp : List Addr) => pts_one (ht (hc.blk ok.kind s H C cl fp) q)
          exact (pe_lc hc.calm nd hi okX hg htt he (noSet hset X.env)).weak (pe_compS hc.calm nd hi okX hg hu' htt he (noSet hset X.env))
        · exact pe_stuck
      · exact pe_stuck
    · exact pe_stuck
  · exact pe_stuck
end
theorem isTrue_val {X : Cx} {e : Expr} (h : match e with
    | .UnaryOp .Not _ _ => False
    | .BoolOp _ _ _ => False
    | .IfExp _ _ _ _ => False
    | .Compare _ _ _ _ => False
    | _ => True) : ∀ whole, isTrue e X.env whole = (do let v ← whole; standAt e.pos; holding [v] (truthy v)) := by
  intro whole
  cases e with
  | UnaryOp op a q => cases op <;> first
      | rfl
      | exact h.elim
  | BoolOp _ _ _ => exact h.elim
  | IfExp _ _ _ _ => exact h.elim
  | Compare _ _ _ _ => exact h.elim
  | _ => rfl
theorem den_ok {p : Prm} : ∀ n : Nat, (∀ {c : Cfg} {X : Cx} {Wx : WX}, COk c X p Wx → ∀ e, PE X e (tE p Wx (denE n c e))) ∧ (∀ {c : Cfg} {X : Cx} {Wx : WX}, COk c X p Wx → ∀ e, PT X e (tT p Wx (denT n c e))) := by
  intro n
  induction n with
  | zero =>
    refine ⟨fun {c X Wx} hc e => ?_, fun {c X Wx} hc e => ?_⟩
    · unfold denE
      exact pe_stuck
    · unfold denT
      exact pt_stuck
  | succ n ih =>
    obtain ⟨ihE, ihT⟩ := ih
    refine ⟨fun {c X Wx} hc e => ?_, fun {c X Wx} hc e => ?_⟩
    · unfold denE
      split
      · exact denName_ok hc
      · exact denC_ok
      · split
        · rename_i fn e
          exact pe_bin (binF_ok hc.hK e) (ihE hc _) (ihE hc _)
        · exact pe_stuck
      · exact pe_notS hc.hK (ihE hc _)
      · exact pe_un1 un_negV (ihE hc _)
      · exact denAndL_ok (ihE hc) _
      · exact denOrL_ok (ihE hc) _
      · exact denCmp_ok (ihE hc)
      · exact pe_ifS (ihT hc _) (ihE hc _) (ihE hc _)
      · split
        · rename_i hs
          exact pe_tupS (args_ok (ihE hc) _ hs)
        · exact pe_stuck
      · split
        · rename_i hs
          exact pe_lstS (args_ok (ihE hc) _ hs)
        · exact pe_stuck
      · split
        · exact pe_slS hc.hK (ihE hc _) (denO_ok (ihE hc) _) (denO_ok (ihE hc) _)
        · split
          · rename_i hs
            exact pe_ix2 (ix_ok hc.hK) (ihE hc _) (ihE hc _) (plainIx_of hs)
          · exact pe_stuck
      · exact denCall_ok hc (ihE hc)
      · split
        · exact denComp_ok hc ihE ihT
        · exact pe_stuck
      · exact pe_stuck
    · unfold denT
      split
      · exact pt_notS (ihT hc _)
      · exact (denAndT_ok (ihT hc) _).pt
      · exact (denOrT_ok (ihT hc) _).pt
      · exact denCmpT_ok (ihE hc)
      · exact pt_stuck
      · rename_i h1 h2 h3 h4 h5
        refine pt_valS hc.hK (ihE hc _) (isTrue_val ?_)
        cases e with
        | UnaryOp op a q => cases op <;> first
            | trivial
            | exact (h1 _ _ rfl).elim
        | BoolOp op vs q => cases op <;> first
            | exact (h2 _ _ rfl).elim
            | exact (h3 _ _ rfl).elim
        | IfExp _ _ _ _ => exact (h5 _ _ _ _ rfl).elim
        | Compare _ _ _ _ => exact (h4 _ _ _ _ rfl).elim
        | _ => trivial
end Tz

set_option Elab.async false
set_option linter.all false
set_option maxRecDepth 100000
set_option maxHeartbeats 4000000
/-! Ts10: statements read, and a def's promise. -/
namespace Tz
open PySem L2 PyProof.Rows

def isComp : Expr → Bool
  | .ListComp _ _ _ _ => true
  | .SetComp _ _ _ _ => true
  | .DictComp _ _ _ _ _ => true
  | _ => false
theorem sw_no {e : Expr} {t : Option Expr} {l : Nat} {env : Env} (h : isComp e = false) : swapsWith e t l env = pure false := by
  cases e <;> first
    | rfl
    | cases h
theorem sw_sole {e t : Expr} {l : Nat} {env : Env} (h : isComp e = false) : swapsWithSole [t] e l env = pure false := sw_no (t := some t) h
theorem assign_sub {o i : Expr} {q : Pos} {env : Env} (h : isSlice i = false) : ∀ v, assign (.Subscript o i q) env v = (do
      let ov ← holding [v] (eval o env)
      let iv ← holding [v, ov] (eval i env)
      standAt q
      holding [v, ov, iv] (setItem ov iv v)
      release [v, ov, iv] []) := by
  intro v
  cases i <;> first
    | rfl
    | cases h
/-- is y = [..] a statement of its own form? -/
def swB (c : Cfg) (scope : Scope) (y : Str) (py cp : Pos) : Bool :=
  decide (c.sc.names.lookup y = some .local) && (py.line == cp.line) && !(scope.names.any fun (n, k) => n == y && (k == .local || k == .cell))
/-- a, b = x, y: the names, where they are stored from the right; none where the model says nothing -/
def swapC (c : Cfg) (ts vs : List Expr) : Option (Option (List Str)) :=
  let l := (ts.head?.map (·.pos.line)).getD 0
  let ns := ts.filterMap fun
    | .Name y q => if c.sc.names.lookup y == some .local && q.line == l then some y else none
    | _ => none
  if !(ts.length == 2 || ts.length == 3) || vs.length != ts.length then some none
  else if (vs.any fun | .Starred .. => true | _ => false) = true then some none
  else if ns.length != ts.length || ns.eraseDups.length != ns.length then some none
  else if vs.all (foldedForSure 8) = true then some none
  else if vs.all (constantsAlone 8) = true then none
  else some (some ns)
theorem swapC_ok {c : Cfg} {X : Cx} {p : Prm} {Wx : WX} (hc : COk c X p Wx) {ts vs : List Expr} {k k2 : Nat} {q q2 : Pos} {o : Option (List Str)} (h : swapC c ts vs = some o) : swappedStores [.Tuple ts k q] (.Tuple vs k2 q2) X.env = pure o := by
  have hk : X.env.blockKind = .function := by
    unfold Env.blockKind
    rw [hc.sc, hc.kind]
    rfl
  have hl : ∀ y, X.env.kindOf y = c.sc.names.lookup y := fun y => by
    show X.env.scope.names.lookup y = _
    rw [hc.sc]
  unfold swapC at h
  unfold swappedStores
  simp only [hk, hl]
  simp only at h
  by_cases c1 : (!(ts.length == 2 || ts.length == 3) || vs.length != ts.length) = true
  · rw [if_pos c1] at h
    injection h with h
    subst h
    have : (!(ts.length == 2 || ts.length == 3) || vs.length != ts.length || ScopeKind.function != ScopeKind.function) = true := by rw [c1]; rfl
    exact if_pos this
  · rw [if_neg c1] at h
    have : ¬ (!(ts.length == 2 || ts.length == 3) || vs.length != ts.length || ScopeKind.function != ScopeKind.function) = true := by
      intro z
      rw [Bool.or_eq_true] at z
      rcases z with z | z
      · exact c1 z
      · exact absurd z (by decide)
    refine (if_neg this).trans ?_
    by_cases c2 : (vs.any fun | .Starred .. => true | _ => false) = true
    · rw [if_pos c2] at h
      injection h with h
      subst h
      exact if_pos c2
    · rw [if_neg c2] at h
      refine (if_neg c2).trans ?_
      split at h
      · rename_i c3
        injection h with h
        subst h
        exact if_pos c3
      · rename_i c3
        refine (if_neg c3).trans ?_
        split at h
        · rename_i c4
          injection h with h
          subst h
          exact if_pos c4
        · rename_i c4
          refine (if_neg c4).trans ?_
          split at h
          · cases h
          · rename_i c5
            refine (if_neg c5).trans ?_
            injection h with h
            subst h
            rfl
theorem swap_other {ts : List Expr} {k : Nat} {q : Pos} {e : Expr} {env : Env} (h : match e with | .Tuple _ _ _ => False | _ => True) : swappedStores [.Tuple ts k q] e env = pure none := by
  cases e <;> first
    | rfl
    | exact h.elim

/-! ### the lists that a statement hands on are still from there on -/
def consumers : List Str := ["len", "tuple", "all", "any", "sum", "sorted", "min", "max", "list", "isinstance", "range"]
def nnF (f : Expr → List Str) : Expr → List Str
  | .Name _ _ => []
  | e => f e
def valNames : Nat → Expr → List Str
  | 0, _ => []
  | n + 1, e => match e with
    | .Name x _ => [x]
    | .BinOp a op b _ => match op with
      | .Add => nnF (valNames n) a ++ nnF (valNames n) b
      | _ => []
    | .BoolOp _ vs _ => vs.flatMap (nnF (valNames n))
    | .UnaryOp _ a _ => nnF (valNames n) a
    | .Compare a _ bs _ => nnF (valNames n) a ++ bs.flatMap (nnF (valNames n))
    | .IfExp t a b _ => nnF (valNames n) t ++ valNames n a ++ valNames n b
    | .Tuple es _ _ => es.flatMap (valNames n)
    | .List es _ => es.flatMap (valNames n)
    | .Subscript a b _ => nnF (valNames n) a ++ nnF (valNames n) b
    | .Call f args kws _ => (match f with
      | .Name x _ => if x ∈ consumers then args.flatMap (nnF (valNames n)) else args.flatMap (valNames n)
      | .Attribute o _ _ => nnF (valNames n) o ++ args.flatMap (valNames n)
      | _ => args.flatMap (valNames n)) ++ kws.flatMap fun k => valNames n (kwE k)
    | .ListComp elt gens _ _ => valNames n elt ++ gens.flatMap fun g => nnF (valNames n) g.iter ++ g.ifs.flatMap (nnF (valNames n))
    | .Attribute o _ _ => nnF (valNames n) o
    | _ => []
/-- own: the names that may own a list -/
def frz (c : Cfg) (own : List Str) (ns : List Str) (a : SSem) : SSem := (((ns.filter fun x => own.contains x).eraseDups).filterMap (slotOf c)).foldr (fun i a => sSeq (sFreeze i) a) a
theorem frz_ok {c : Cfg} {X : Cx} {p : Prm} {Wx : WX} {own ns : List Str} {a : SSem} {s : Stmt} (h : PS X s (tS p Wx a)) : PS X s (tS p Wx (frz c own ns a)) := by
  unfold frz
  generalize (((ns.filter fun x => own.contains x).eraseDups).filterMap (slotOf c)) = is
  induction is with
  | nil => exact h
  | cons i is ih => exact ps_freeze ih
/-! ### statements -/
def FU : Nat := 40
def isNm : Expr → Option Str
  | .Name x _ => some x
  | _ => none
def isTup : Expr → Bool
  | .Tuple _ _ _ => true
  | _ => false
def denAsg (c : Cfg) (tg e : Expr) : SSem := match tg with
  | .Name y py => match slotSt c y with
    | some i => match e with
      | .ListComp elt gens scope cp => if swB c scope y py cp = true then (match gens with
          | [⟨ctg, it, ifs, 0⟩] => sAsg (denComp c (denE FU) (denT FU) elt ctg it ifs scope) (gVar i)
          | _ => sStuck) else sStuck
      | .SetComp _ _ _ _ => sStuck
      | .DictComp _ _ _ _ _ => sStuck
      | e => sAsg (denE FU c e) (gVar i)
    | none => sStuck
  | .Tuple ts _ _ => if ts.all notStar = true then (match denG 4 c tg with
    | some (g, _) => match e with
      | .Tuple vs _ _ => match swapC c ts vs with
        | some none => sAsg (denE FU c e) g
        | some (some ns) => match ts, vs, ns with
          | [.Name x _, .Name y _], [a, b], [x', y'] => if x = x' ∧ y = y' ∧ x ≠ y ∧ c.sc.names.lookup x = some .local ∧ c.sc.names.lookup y = some .local ∧ [a, b].all notStar = true then (match ixIn x c.N, ixIn y c.N with
              | some i, some j => sPar2 i j (denE FU c a) (denE FU c b)
              | _, _ => sStuck) else sStuck
          | _, _, _ => sStuck
        | none => sStuck
      | e => if isComp e = false then sAsg (denE FU c e) g else sStuck
    | none => sStuck) else sStuck
  | .Subscript o i _ => if isComp e = false ∧ isSlice i = false then (match o with
    | .Name x _ => match slotOf c x with
      | some j => sSetIx j (denE FU c i) (denE FU c e)
      | none => sStuck
    | _ => sStuck) else sStuck
  | _ => sStuck
section
variable {c : Cfg} {X : Cx} {p : Prm} {Wx : WX} {pos : Pos}
theorem denAsg_ok (hc : COk c X p Wx) {tg e : Expr} : PS X (.Assign [tg] e pos) (tS p Wx (denAsg c tg e)) := by
  have hE := (den_ok (p := p) FU).1 hc
  have nd : X.N.Nodup := by rw [hc.N]; exact hc.nd
  have plain : ∀ {y : Str} {py : Pos} {i : Nat} {e : Expr}, slotSt c y = some i → isComp e = false → PS X (.Assign [.Name y py] e pos) (tS p Wx (sAsg (denE FU c e) (gVar i))) := by
    intro y py i e hs hn
    obtain ⟨k1, k2, k3⟩ := hc.stores hs
    exact ps_setS (fun te he => ps_set nd k1 k2 he (sw_no hn) k3) (hE e)
  unfold denAsg
  split
  · rename_i y py
    split
    · rename_i i hs
      split
      · rename_i elt gens scope cp
        split
        · rename_i hsw
          split
          · rename_i ctg it ifs
            unfold swB at hsw
            simp only [Bool.and_eq_true, Bool.not_eq_true'] at hsw
            obtain ⟨⟨h1, h2⟩, h3⟩ := hsw
            have h1 := of_decide_eq_true h1
            obtain ⟨k1, k2, k3⟩ := hc.stores hs
            have hl : X.env.scope.names.lookup y = some .local := by rw [hc.sc]; exact h1
            have hsw2 : swapsWith (.ListComp elt [⟨ctg, it, ifs, 0⟩] scope cp) (some (.Name y py)) pos.line X.env = pure true := sw_true (by rw [hc.sc]; exact hc.kind) hl h2 h3
            -- the same parts as a comprehension's value
            by_cases hb : blkC c.N c.sc scope (ownOf c scope) = true ∧ isSet it = false
            · unfold denComp
              rw [if_pos hb]
              obtain ⟨hb, hset⟩ := hb
              have ok := blkOk_by hb
              have okX : BlkOk X.N X.env.scope scope (ownOf c scope) := by rw [hc.N, hc.sc]; exact ok
              split
              · rename_i g us eg
                split
                · rename_i hu
                  have hu' : ∀ j, j ∈ us → j ∈ (ownOf c scope).map (·.2) := fun j hj => by
                    have := List.all_eq_true.mp hu j hj
                    simpa using this
                  have hf := @(den_ok (p := p) FU).1
                  have ht := @(den_ok (p := p) FU).2
                  have hi : PI X ctg it (tIU p (match denI c (denE FU c) it with
                    | some i => i
                    | none => iExpU (denE FU c it))) := by
                    split
                    · rename_i i ei
                      exact pi_u (denI_ok hc hE ei)
                    · exact pi_expU hc.hK (hE it)
                  have hg := fun (s : Shared) (H : Hp) (C : Addr) (cl : List (Str × Addr)) (fp : List Addr) => denG_ok (hc.blk ok.kind s H C cl fp) 4 eg
                  have fin : ∀ {ts : TSem}, (∀ (s : Shared) (H : Hp) (C : Addr) (cl : List (Str × Addr)) (fp : List Addr), PTs (X.blk s H scope (compEnvC scope cl C X.env) fp) ifs (tT p (fun _ _ _ _ => False) ts)) →
                      PS X (.Assign [.Name y py] (.ListComp elt [⟨ctg, it, ifs, 0⟩] scope cp) pos) (tS p Wx (sAsg (eComp ((ownOf c scope).map (·.2)) (match denI c (denE FU c) it with
                    | some i => i
                    | none => iExpU (denE FU c it)) g ts (denE FU (c.blk scope) elt)) (gVar i))) := by
                    intro ts htt
                    have he := fun (s : Shared) (H : Hp) (C : Addr) (cl : List (Str × Addr)) (fp : List Addr) => hf (hc.blk ok.kind s H C cl fp) elt
                    refine (ps_setLc hc.calm nd k1 hl hsw2 hi okX hg htt he (noSet hset X.env)).weak fun D σ H w => ?_
                    have w2 := asg_weak (us := [i]) w
                    obtain ⟨W0, H0, W, r, st, G, q⟩ := w2
                    refine pe_compS (Wx := Wx) hc.calm nd hi okX hg hu' htt he (noSet hset X.env) σ H _ ⟨W0, H0, W, r, st, G, ?_⟩
                    generalize (eComp ((ownOf c scope).map (·.2)) (match denI c (denE FU c) it with
                      | some i => i
                      | none => iExpU (denE FU c it)) g ts (denE FU (c.blk scope) elt)) r st = z at q ⊢
                    cases z with
                    | none => exact q
                    | some y =>
                      cases y with
                      | ok v st1 => exact fun W1 H1 x f1 S1 R1 => gvar_run (q W1 H1 x f1 S1 R1)
                      | exc e st1 => exact q
                  dsimp only
                  split
                  · exact fin fun s H C cl fp => pt_true (X := X.blk s H scope (compEnvC scope cl C X.env) fp) (p := p) (Wx := fun _ _ _ _ => False) (e := []) rfl
                  · rename_i q
                    exact fin fun s H C cl fp => pts_one (ht (hc.blk ok.kind s H C cl fp) q)
                  · exact ⟨fun _ _ _ _ _ _ ⟨_, _, _, _, _, _, z⟩ => z.elim⟩
                · exact ⟨fun _ _ _ _ _ _ ⟨_, _, _, _, _, _, z⟩ => z.elim⟩
              · exact ⟨fun _ _ _ _ _ _ ⟨_, _, _, _, _, _, z⟩ => z.elim⟩
            · unfold denComp
              rw [if_neg hb]
              exact ⟨fun _ _ _ _ _ _ ⟨_, _, _, _, _, _, z⟩ => z.elim⟩
          · exact ps_stuck
        · exact ps_stuck
      · exact ps_stuck
      · exact ps_stuck
      · rename_i h1 h2 h3
        refine plain hs ?_
        cases e <;> first
          | rfl
          | exact (h1 _ _ _ _ rfl).elim
          | exact (h2 _ _ _ _ rfl).elim
          | exact (h3 _ _ _ _ _ rfl).elim
    · exact ps_stuck
  · rename_i ts k q
    split
    · rename_i hstar
      split
      · rename_i g us eg
        have hg := denG_ok hc 4 eg
        have h1 : (assignEach [Expr.Tuple ts k q] X.env).map (·.2) = [assign (Expr.Tuple ts k q) X.env] := rfl
        split
        · rename_i vs k2 q2
          split
          · rename_i hsw
            exact ps_asgS (hE _) hg (sw_sole rfl) (swapC_ok hc hsw) h1
          · rename_i ns hsw
            split
            · rename_i x px y py a b x' y'
              split
              · rename_i hx
                obtain ⟨e1, e2, hne, hx, hy, hs⟩ := hx
                subst e1 e2
                split
                · rename_i i j hi hj
                  have gi := ixIn_get hi
                  have gj := ixIn_get hj
                  have hij : i ≠ j := by
                    intro z
                    subst z
                    rw [gi] at gj
                    injection gj with gj
                    exact hne gj
                  have hs' := hs
                  rw [List.all_cons, List.all_cons, Bool.and_eq_true, Bool.and_eq_true] at hs'
                  refine (ps_par hc.calm nd (by rw [hc.N]; exact gi) (by rw [hc.N]; exact gj) hij (by rw [hc.sc]; exact hx) (by rw [hc.sc]; exact hy) (pa_cons (hE a) (pa_cons (hE b) pa_nil (starEach_cons hs'.2.1)) (starEach_cons hs'.1)) (swapC_ok hc hsw) (sw_sole rfl)).weak fun D σ H w => ?_
                  exact par_weak w
                · exact ps_stuck
              · exact ps_stuck
            · exact ps_stuck
          · exact ps_stuck
        · split
          · rename_i h1' hn
            refine ps_asgS (hE _) hg (sw_sole hn) (swap_other ?_) h1
            cases e <;> first
              | trivial
              | exact (h1' _ _ _ rfl).elim
          · exact ps_stuck
      · exact ps_stuck
    · exact ps_stuck
  · rename_i o i q
    split
    · rename_i hn
      split
      · rename_i x px
        split
        · rename_i j hj
          exact ps_setIx (hE e) (hc.slot hj) (hE i) fun te ti h1 h2 => ps_asg h1 (pg_sub (hc.slot hj) h2 set_list (assign_sub hn.2)) (sw_sole hn.1) rfl rfl
        · exact ps_stuck
      · exact ps_stuck
    · exact ps_stuck
  · exact ps_stuck
end
/-! ### a list handed out as a thing of the store -/
def sRetB (a : ESem) : SSem := fun r st => match a r st with
  | some (.ok (.fresh (.lst xs)) st1) => some (.rt (.val (.ref st1.length)) (st1 ++ [.lst xs]))
  | some (.exc x st1) => some (.exc x r st1)
  | _ => none
def Wd.ext (W : Wd) (a : Addr) : Wd := { W with n := W.n + 1, mu := fun i => if i = W.n then a else W.mu i }
section
variable {X : Cx} {p : Prm} {Wx : WX} {pos : Pos} {f : ESem} {e : Expr}
theorem ext_old {W : Wd} {a : Addr} {i : Nat} (h : i < W.n) : (W.ext a).mu i = W.mu i := if_neg (Nat.ne_of_lt h)
theorem ext_new {W : Wd} {a : Addr} : (W.ext a).mu W.n = a := if_pos rfl
theorem Fw.ext {W : Wd} {H : Hp} {a : Addr} : Fw W H (W.ext a) H := ⟨fun _ h => h, fun _ h => ext_old h, Nat.le_succ _, fun _ _ _ h => h, fun _ _ h => h, fun _ _ _ h => h⟩
theorem SOk.ext {W : Wd} {H : Hp} {st : Store} {a : Addr} {xs : D} (S : SOk p W H st) (h1 : RepC p W H xs a) (h2 : ¬ W.F a) (h3 : ∀ i, i < W.n → W.mu i ≠ a) : SOk p (W.ext a) H (st ++ [xs]) where
  len := by
    rw [List.length_append, S.len]
    rfl
  at_ := fun n d e => by
    have tr : ∀ {d b}, RepC p W H d b → RepC p (W.ext a) H d b := fun {d b} z => by
      exact z.moved Fw.ext fun _ h => h
    by_cases hl : n < st.length
    · rw [List.getElem?_append_left hl] at e
      rw [ext_old (by rw [← S.len]; exact hl)]
      exact tr (S.at_ n d e)
    · have hn := (List.getElem?_eq_some_iff.mp e).1
      rw [List.length_append, List.length_singleton] at hn
      have en : n = st.length := by omega
      subst en
      rw [List.getElem?_append_right (Nat.le_refl _), Nat.sub_self] at e
      injection e with e
      subst e
      rw [S.len, ext_new]
      exact tr h1
  nf := fun n hn => by
    by_cases hl : n < W.n
    · rw [ext_old hl]
      exact S.nf n hl
    · have en : n = W.n := by
        have : n < W.n + 1 := hn
        omega
      rw [en, ext_new]
      exact h2
  inj := fun m n hm hn e => by
    have hm : m < W.n + 1 := hm
    have hn : n < W.n + 1 := hn
    by_cases km : m < W.n
    · by_cases kn : n < W.n
      · rw [ext_old km, ext_old kn] at e
        exact S.inj m n km kn e
      · have en : n = W.n := by omega
        rw [en, ext_new, ext_old km] at e
        exact absurd e (h3 m km)
    · have em : m = W.n := by omega
      by_cases kn : n < W.n
      · rw [em, ext_new, ext_old kn] at e
        exact absurd e.symm (h3 n kn)
      · omega
  fok := S.fok
theorem ps_retB (he : PE X e (tE p Wx f)) : PS X (.Return (some e) pos) (tS p Wx (sRetB f)) := by
  refine (ps_ret he).weak fun D σ H ⟨W0, H0, W, r, st, G, q⟩ => ?_
  unfold sRetB at q
  refine tE_bind G (fun v st1 e1 W1 H1 x f1 S1 R1 G1 => ?_) (fun e st1 e1 W1 H1 c d f1 S1 R1 => ?_) (fun z => ?_)
  · simp only [e1] at q
    cases v with
    | val d => exact q.elim
    | peek d => exact q.elim
    | fresh d =>
      cases d with
      | lst xs =>
        obtain ⟨a, rfl, h1, h2, h3, h4⟩ := R1
        have g := G.fut.trans f1
        have h0 : H0 a = none := G.fut.none a h4
        refine q (W1.ext a) H1 _ ⟨g.fsub, fun i hi => (ext_old (Nat.lt_of_lt_of_le hi g.le)).trans (g.mu i hi), g.keep, g.nf, fun i k1 k2 => ?_, Nat.le_succ_of_le g.le, g.tr⟩ (S1.ext h1 h2 h3) ⟨?_, ?_⟩
        · by_cases hl : i < W1.n
          · rw [ext_old hl]
            exact g.dom i k1 hl
          · have ei : i = W1.n := by
              have : i < W1.n + 1 := k2
              omega
            rw [ei, ext_new]
            exact h0
        · show st1.length < W1.n + 1
          rw [S1.len]
          exact Nat.lt_succ_self _
        · rw [S1.len, ext_new]
      | _ => exact q.elim
  · simp only [e1] at q
    exact q W1 σ H1 c d (f1.fw G.ok) (G.to f1 S1) R1
  · simp only [z] at q
    exact q
end
def isDoc : Expr → Bool
  | .Constant (.str _) _ _ => true
  | _ => false
mutual
noncomputable def denS : Nat → Cfg → List Str → Stmt → SSem
  | 0, _, _, _ => sStuck
  | n + 1, c, own, s => match s with
    | .Pass _ => sNext
    | .Break _ => sBreak
    | .Continue _ => sCont
    | .Return o _ => match o with
      | none => sRetN
      | some e => if c.box = true then sRetB (denE FU c e) else match isNm e with
        | some x => match slotOf c x with
          | some i => sRetV i
          | none => sRet (denE FU c e)
        | none => frz c own (valNames 12 e) (sRet (denE FU c e))
    | .Expr e _ => if isDoc e = true then sNext else if isComp e = false then frz c own (valNames 12 e) (sDrop (denE FU c e)) else sStuck
    | .Assign [tg] e _ => frz c own (match tg, e with
      | .Tuple _ _ _, .Tuple vs _ _ => vs.flatMap (valNames 12)
      | .Name _ _, .Name x _ => [x]
      | _, e => valNames 12 e) (denAsg c tg e)
    | .AugAssign (.Name x _) op e _ => match augF op, slotSt c x with
      | some fn, some i => frz c own (valNames 12 e) (sAug fn i (denE FU c e))
      | _, _ => sStuck
    | .If t a b _ => frz c own (valNames 12 t) (sIf (denT FU c t) (denSs n c own a) (denSs n c own b))
    | .While t b orelse _ => match orelse with
      | [] => if c.cel = true then whileS (denT FU c t) (denSs n c own b) else sStuck
      | _ => sStuck
    | .For tg it b orelse _ => match orelse with
      | [] => if c.cel = true ∧ isSet it = false then (match denG 4 c tg with
        | some (g, _) => frz c own (valNames 12 it ++ (match isNm it with | some x => [x] | none => [])) (sFor (match denI c (denE FU c) it with
          | some i => i
          | none => iExp (denE FU c it)) g (denSs n c own b))
        | none => sStuck) else sStuck
      | _ => sStuck
    | _ => sStuck
noncomputable def denSs : Nat → Cfg → List Str → List Stmt → SSem
  | 0, _, _, _ => sStuck
  | _ + 1, _, _, [] => sNext
  | n + 1, c, own, [s] => denS n c own s
  | n + 1, c, own, s :: ss => sSeq (denS n c own s) (denSs n c own ss)
end
theorem denS_ok {c : Cfg} {X : Cx} {p : Prm} {Wx : WX} {own : List Str} (hc : COk c X p Wx) : ∀ n : Nat, (∀ s, PS X s (tS p Wx (denS n c own s))) ∧ (∀ ss, PSs X ss (tS p Wx (denSs n c own ss))) := by
  have hE := (den_ok (p := p) FU).1 hc
  have hT := (den_ok (p := p) FU).2 hc
  intro n
  induction n with
  | zero =>
    refine ⟨fun s => ?_, fun ss => ?_⟩
    · unfold denS; exact ps_stuck
    · unfold denSs; exact pss_stuck
  | succ n ih =>
    obtain ⟨ih1, ih2⟩ := ih
    refine ⟨fun s => ?_, fun ss => ?_⟩
    · unfold denS
      split
      · exact ps_passS
      · exact ps_breakS
      · exact ps_contS
      · split
        · exact ps_retNS
        · rename_i e
          split
          · exact ps_retB (hE _)
          split
          · rename_i x ex
            have he : ∃ q, e = .Name x q := by
              cases e <;> first
                | (cases ex; done)
                | (injection ex with ex; subst ex; exact ⟨_, rfl⟩)
            obtain ⟨q, rfl⟩ := he
            split
            · rename_i i hi
              exact ps_retVS (hc.slot hi)
            · exact ps_retS (hE _)
          · exact frz_ok (ps_retS (hE _))
      · rename_i e q
        split
        · rename_i hd
          cases e with
          | Constant k j q2 =>
            cases k with
            | str z => exact ps_doc.weak fun D σ H ⟨W0, H0, W, r, st, G, q⟩ => q W σ H Fw.refl G
            | _ => cases hd
          | _ => cases hd
        · split
          · rename_i hn
            exact frz_ok (ps_exprS (hE _) (sw_no hn))
          · exact ps_stuck
      · exact frz_ok (denAsg_ok hc)
      · rename_i x q op e q2
        split
        · rename_i fn i h1 h2
          obtain ⟨k1, k2, k3⟩ := hc.stores h2
          exact frz_ok (ps_augS1 (augF_ok h1) (hE e) fun te ti he ho => ps_aug (by rw [hc.N]; exact hc.nd) k1 k2 he ho k3)
        · exact ps_stuck
      · exact frz_ok (ps_ifS (hT _) (ih2 _) (ih2 _))
      · split
        · split
          · rename_i hcl
            exact ps_whileS (hc.own hcl) (hT _) (ih2 _)
          · exact ps_stuck
        · exact ps_stuck
      · rename_i tg it b orelse q
        split
        · split
          · rename_i hcl
            split
            · rename_i g us eg
              refine frz_ok (ps_forS (hc.own hcl.1) hc.calm ?_ (denG_ok hc 4 eg) (ih2 _) (noSet hcl.2 X.env))
              split
              · rename_i i ei
                exact denI_ok hc hE ei
              · exact pi_exp hc.hK (hE it)
            · exact ps_stuck
          · exact ps_stuck
        · exact ps_stuck
      · exact ps_stuck
    · unfold denSs
      split
      · exact pss_stuck
      · exact pss_nilS
      · rename_i h; cases h; exact pss_oneS (ih1 _)
      · rename_i h; cases h; exact pss_consS (ih1 _) (ih2 _)
end Tz

set_option Elab.async false
set_option linter.all false
set_option maxRecDepth 100000
set_option maxHeartbeats 4000000
/-! Ts11: a def keeps what its combinators tell; calls; the law. -/
namespace Tz
open PySem L2 PyProof.Rows

def spN (p : Prm) (n : Nat) (F : FSem) : Sp := fun vs H Q E => vs.length = n ∧ spF p F vs H Q E
/-- what is known of a def's calls, consts, built-ins, on these grounds, with room k -/
structure GOk (P : Program) (w : World) (K : PySem.W.Frag) (mg : Str → Option Value) (base : Heap) (k : Nat) (p : Prm) (c : Cfg) : Prop where
  hK : p.K = K
  nd : c.N.Nodup
  kind : c.sc.kind = .function
  calls : ∀ x n ks F, ((x, n, ks), F) ∈ c.calls → CallF P w K mg base k p x n ks F
  consts : ∀ x d, (x, d) ∈ c.consts → ∃ v u, mg x = some u ∧ RelV v u ∧ ∀ W H, Rep p W H d v
  blt : ∀ x, x ∈ c.blt → mg x = none
theorem RepL.start {p : Prm} {W : Wd} {H : Hp} {st : Store} {n : Nat} {N : List Str} : ∀ {ds : List D} {vs : List V}, SOk p W H st → RepL p W H ds vs → n = N.length → ds.length ≤ n → Good p W H W (L2.start N vs) H (slots0 n ds) st := by
  intro ds vs S R hn hl
  have hlen := R.length
  have getv : ∀ (i : Nat) d, (slots0 n ds)[i]? = some (.val d) → ds[i]? = some d := by
    intro i d h
    unfold slots0 at h
    by_cases hi : i < ds.length
    · rw [List.getElem?_append_left (by simpa using hi), List.getElem?_map] at h
      cases q : ds[i]? with
      | none => rw [q] at h; cases h
      | some e =>
        rw [q] at h
        injection h with h
        injection h with h
        rw [h]
    · rw [List.getElem?_append_right (by simpa using hi), List.getElem?_replicate] at h
      split at h <;> cases h
  have noown : ∀ (i : Nat) d, (slots0 n ds)[i]? ≠ some (.own d) := by
    intro i d h
    unfold slots0 at h
    by_cases hi : i < ds.length
    · rw [List.getElem?_append_left (by simpa using hi), List.getElem?_map] at h
      cases q : ds[i]? with
      | none => rw [q] at h; cases h
      | some e =>
        rw [q] at h
        injection h with h
        cases h
    · rw [List.getElem?_append_right (by simpa using hi), List.getElem?_replicate] at h
      split at h <;> cases h
  refine ⟨Fut.refl, S, ?_, fun i d h => ?_, fun i d h => absurd h (noown i d), fun i j d e a h => absurd h (noown i d)⟩
  · unfold L2.start slots0
    rw [List.length_append, List.length_append, List.length_map, List.length_map, List.length_replicate, List.length_replicate]
    omega
  · obtain ⟨v, h1, h2⟩ := R.get (getv i d h)
    refine ⟨v, ?_, h2⟩
    unfold L2.start
    have hi := (List.getElem?_eq_some_iff.mp h1).1
    rw [List.getElem?_append_left (by simpa using hi), List.getElem?_map, h1]
    rfl
section
variable {P : Program} {w : World} {K : PySem.W.Frag} {mg : Str → Option Value} {base : Heap} {k : Nat} {p : Prm}
theorem def_ok {f : Addr} {name qual : Str} {params : Arguments} {body : List Stmt} {scope : Scope} {dV kV doc pm cdv ct oc : Value} {an od : Option Addr} {osl : Array (Option Value)} {N ps own : List Str} {c : Cfg} {n m : Nat}
    (lk : K.lookup f = some ⟨oc, od, .func (PySem.W.fnOf name qual params body scope dV kV doc pm an cdv ct), osl⟩) (hcd : PySem.W.codeIn K cdv qual = true) (S : FnScope N ps scope) (hN : c.N = N) (hs : c.sc = scope) (hcel : c.cel = true) (hm : m = N.length)
    (g : GOk P w K mg base k p c) (hp : ps.length ≤ N.length) :
    FnOk P w K mg base (L2.CX P w) (k + 1) f (PySem.W.fnOf name qual params body scope dV kV doc pm an cdv ct) ps (spN p ps.length (fnS m (denSs n c own body))) := by
  refine fn_of lk hcd S (fun vs H Q E h => h.1) fun A outer s H vs Q E hr hsp => ?_
  obtain ⟨hl, W, st, ds, S0, R, q⟩ := hsp
  have hc : COk c (cxOf (L2.CX P w) P w K mg base N qual scope f cdv A outer s H E) p (fun cls d _ H => E cls d H) :=
    { hK := g.hK, N := hN.symm, sc := hs.symm, nd := g.nd, calm := rfl, tk := takes_of rfl rfl rfl rfl, kind := g.kind,
      calls := fun x n ks F h => ⟨k, hr, g.calls x n ks F h⟩, consts := g.consts, blt := g.blt, fn := fun _ _ => rfl, own := fun _ => passes_of rfl }
  refine ⟨_, (denS_ok (own := own) hc n).2 body, ?_⟩
  refine ⟨W, H, W, slots0 m ds, st, RepL.start S0 R hm (by rw [← R.length, hl, hm]; exact hp), ?_⟩
  unfold fnS at q
  cases z : denSs n c own body (slots0 m ds) st with
  | none => simp only [z] at q; exact q
  | some o =>
    simp only [z] at q
    cases o with
    | nx r st1 => exact fun W' σ' H' fw G => q W' H' .non G.fut G.ok rfl
    | bk r st1 => exact False.elim q
    | ct r st1 => exact False.elim q
    | rt v st1 =>
      cases v with
      | val d => exact q
      | fresh d => exact q
      | peek d => exact False.elim q
    | exc e r st1 => exact fun W' σ' H' c d fw G R => q W' H' c d G.fut G.ok R
/-- how written arguments come to the parameters: gD puts the values in the parameters' order, defaults among them -/
structure BindP (p : Prm) (K : PySem.W.Frag) (fd : FuncData) (ps : List Str) (np : Nat) (ks : List Str) (gD : List D → List D) : Prop where
  ex : ∃ (g : List Value → List Value → List Value) (gV : List V → List V → List V), (∀ (s : Shared) (us ws : List Value), K.In s.heap → us.length = np → ws.length = ks.length → BindsTo s fd ⟨us, ks.zip ws⟩ (ps.zip (g us ws))) ∧
    (∀ (vs zs : List V) (us ws : List Value), Vals vs us → Vals zs ws → vs.length = np → zs.length = ks.length → Vals (gV vs zs) (g us ws)) ∧
    (∀ (W : Wd) (H : Hp) (ds : List D) (vs zs : List V), RepL p W H ds (vs ++ zs) → vs.length = np → zs.length = ks.length → RepL p W H (gD ds) (gV vs zs) ∧ (gV vs zs).length = ps.length)
theorem callF_of {f : Addr} {fd : FuncData} {ps : List Str} {F : FSem} {x : Str} {np : Nat} {ks : List Str} {gD : List D → List D} (G : FnOk P w K mg base (L2.CX P w) k f fd ps (spN p ps.length F)) (hm : mg x = some (.ref f)) (hk : PySem.W.keepIn K (.ref f) = true)
    (b : BindP p K fd ps np ks gD) : CallF P w K mg base k p x np ks (fun ds st => F (gD ds) st) := by
  intro X e1 e2 e3 e4 e5 hr
  subst e1 e2 e3 e4 e5
  obtain ⟨g, gV, b1, b2, b3⟩ := b.ex
  refine ⟨_, hm, hk, fun E pins σ H s Q us ws vs zs hx I r rz l1 l2 h => ?_⟩
  obtain ⟨W, st, ds, S, R, q⟩ := h
  obtain ⟨R2, l3⟩ := b3 W H ds vs zs R l1 l2
  refine wpAny_call (codeAny_mono (G.run X.A X.stack s H ⟨us, ks.zip ws⟩ (g us ws) (gV vs zs) Q (E σ) hr I.env0 (b1 s us ws I.kIn (r.length.symm.trans l1) (rz.length.symm.trans l2)) (b2 vs zs us ws r rz l1 l2) ⟨l3, W, st, gD ds, S, R2, q⟩) fun r s' hq => ?_)
  cases r with
  | error e => exact hx pins H s e s' I hq
  | ok fl =>
    cases fl with
    | ret u => exact I.after hq
    | next => exact False.elim hq
    | brk => exact False.elim hq
    | cont => exact False.elim hq
theorem repL_nil_of {W : Wd} {H : Hp} {vs : List V} (h : RepL p W H [] vs) : vs = [] := h
/-- all parameters are written, by place -/
theorem bind_all {fd : FuncData} {ps : List Str} (h : ∀ us : List Value, us.length = ps.length → bindArgs fd ⟨us, []⟩ = pure (ps.zip us)) : BindP p K fd ps ps.length [] id := by
  refine ⟨fun us _ => us, fun vs _ => vs, fun s us ws _ h1 h2 => .of_eq ?_, fun vs zs us ws r _ _ _ => r, fun W H ds vs zs R l1 l2 => ?_⟩
  · show bindArgs fd ⟨us, []⟩ = _
    exact h us h1
  · have : zs = [] := List.eq_nil_of_length_eq_zero l2
    subst this
    rw [List.append_nil] at R
    exact ⟨R, l1⟩
/-- one keyword alone -/
theorem bind_kw1 {fd : FuncData} {a : Str} (h : ∀ u : Value, bindArgs fd ⟨[], [(a, u)]⟩ = pure [(a, u)]) : BindP p K fd [a] 0 [a] id := by
  refine ⟨fun _ ws => ws, fun _ zs => zs, fun s us ws _ h1 h2 => ?_, fun vs zs us ws _ r _ _ => r, fun W H ds vs zs R l1 l2 => ?_⟩
  · match us, ws, h1, h2 with
    | [], [u], _, _ => exact .of_eq (h u)
  · have : vs = [] := List.eq_nil_of_length_eq_zero l1
    subst this
    exact ⟨R, l2⟩
end
/-- the script, as a tree -/
def scriptD (ns : List Int) : D := .rol (ns.map .int)
theorem repL_ints {p : Prm} {W : Wd} {H : Hp} : ∀ ns : List Int, RepL p W H (ns.map .int) (ns.map V.int)
  | [] => rfl
  | n :: ns => ⟨.int n, ns.map V.int, rfl, rfl, repL_ints ns⟩
/-- the law's own promise, where its run tells True -/
theorem law_sp {p : Prm} {K : PySem.W.Frag} {F : FSem} (hK : p.K = K) (H : Hp) (a : Addr) (ns : List Int) (hF : ∃ st, F [scriptD ns] [] = some (.ret (.val (.bl true)) st)) (hS : SqL K H a (ns.map V.int)) :
    spN p 1 F [.ref a] H (fun v _ => v = .bl true) fun _ _ _ => False := by
  obtain ⟨st, e⟩ := hF
  have mk : ∃ W : Wd, SOk p W H [] ∧ Rep p W H (scriptD ns) (.ref a) := by
    rcases hS with h | h
    · refine ⟨⟨fun b => b = a, 0, fun _ => 0⟩, ⟨rfl, fun n d e => by simp at e, fun n hn => absurd hn (Nat.not_lt_zero n), fun m n hm => absurd hm (Nat.not_lt_zero m), fun b hb => ?_⟩, a, ns.map V.int, rfl, .inl ⟨rfl, hK ▸ .inl h⟩, repL_ints ns⟩
      subst hb
      rcases h with h | ⟨o, h⟩
      · exact some_ne h
      · exact some_ne h
    · exact ⟨⟨fun b => False, 0, fun _ => 0⟩, ⟨rfl, fun n d e => by simp at e, fun n hn => absurd hn (Nat.not_lt_zero n), fun m n hm => absurd hm (Nat.not_lt_zero m), fun b hb => hb.elim⟩, a, ns.map V.int, rfl, .inr fun H0 => hK ▸ .inr h, repL_ints ns⟩
  obtain ⟨W, S, R⟩ := mk
  refine ⟨rfl, W, [], [scriptD ns], S, ⟨_, [], rfl, R, rfl⟩, ?_⟩
  rw [e]
  exact fun W' H' x _ _ h => h
end Tz

set_option Elab.async false
set_option linter.all false
set_option maxRecDepth 100000
set_option maxHeartbeats 4000000
/-! Ts12: small words for the table of a law's defs, and the end with the script's bits. -/
namespace Tz
open PySem L2 PyProof.Rows

theorem CallF.mono {P : Program} {w : World} {K : PySem.W.Frag} {mg : Str → Option Value} {base : Heap} {j k : Nat} {p : Prm} {x : Str} {np : Nat} {ks : List Str} {F : FSem} (h : CallF P w K mg base j p x np ks F) (hl : j ≤ k) : CallF P w K mg base k p x np ks F := fun X e1 e2 e3 e4 e5 hr => h X e1 e2 e3 e4 e5 (hr.mono hl)
section
variable {P : Program} {w : World} {K : PySem.W.Frag} {mg : Str → Option Value} {base : Heap} {k : Nat} {p : Prm}
def AllC (P : Program) (w : World) (K : PySem.W.Frag) (mg : Str → Option Value) (base : Heap) (k : Nat) (p : Prm) (l : List ((Str × Nat × List Str) × FSem)) : Prop :=
  ∀ x n ks F, ((x, n, ks), F) ∈ l → CallF P w K mg base k p x n ks F
theorem allC_nil : AllC P w K mg base k p [] := fun _ _ _ _ h => by cases h
theorem allC_cons {x : Str} {n : Nat} {ks : List Str} {F : FSem} {l : List ((Str × Nat × List Str) × FSem)} (h : CallF P w K mg base k p x n ks F) (t : AllC P w K mg base k p l) : AllC P w K mg base k p (((x, n, ks), F) :: l) := by
  intro x' n' ks' F' hm
  rcases List.mem_cons.mp hm with e | e
  · cases e; exact h
  · exact t _ _ _ _ e
def AllN (mg : Str → Option Value) (l : List Str) : Prop := ∀ x, x ∈ l → mg x = none
theorem allN_nil : AllN mg [] := fun _ h => by cases h
theorem allN_cons {x : Str} {l : List Str} (h : mg x = none) (t : AllN mg l) : AllN mg (x :: l) := by
  intro x' hm
  rcases List.mem_cons.mp hm with e | e
  · cases e; exact h
  · exact t _ e
end
abbrev pK (K : PySem.W.Frag) : Prm := ⟨K, fun _ => 0, fun _ => 0, fun _ => none⟩
theorem noexc {P : Program} {w : World} {o : List Env} {H : Hp} {s : Shared} {e : Value} {s' : Shared} (z : L2.CX P w o H s (fun _ _ _ => False) e s') : False := by
  obtain ⟨_, _, _, _, _, _, _, _, _, _, _, _, h⟩ := z
  exact h
end Tz

set_option Elab.async false
set_option linter.all false
set_option maxRecDepth 100000
set_option maxHeartbeats 4000000
/-! Tw: the combinators applied, as rules of reckoning; sizes; loops by an invariant. -/
namespace Tz
open PySem L2
section
variable {r : Rho} {st : Store}
theorem x_eC {d : D} : eC d r st = some (.ok (.val d) st) := rfl
theorem x_eVar {i : Nat} : eVar i r st = match r[i]? with
  | some (.val d) => some (.ok (.val d) st)
  | some (.own d) => some (.ok (.peek d) st)
  | _ => none := rfl
theorem x_eOp1 {f : Store → RV → Option RV} {a : ESem} : eOp1 f a r st = match a r st with
  | some (.ok x st1) => match f st1 x with
    | some z => some (.ok z st1)
    | none => none
  | some (.exc x st1) => some (.exc x st1)
  | none => none := rfl
theorem x_eOp2 {f : Store → RV → RV → Option RV} {a b : ESem} : eOp2 f a b r st = match a r st with
  | some (.ok x st1) => match b r st1 with
    | some (.ok y st2) => match f st2 x y with
      | some z => some (.ok z st2)
      | none => none
    | some (.exc x st2) => some (.exc x st2)
    | none => none
  | some (.exc x st1) => some (.exc x st1)
  | none => none := rfl
theorem x_aNil : aNil r st = some (.ok [] st) := rfl
theorem x_argsN : argsS [] r st = some (.ok [] st) := rfl
theorem x_argsC {a : ESem} {t : List ESem} : argsS (a :: t) r st = match a r st with
  | some (.ok x st1) => match x.toVal with
    | some d => match argsS t r st1 with
      | some (.ok ds st2) => some (.ok (d :: ds) st2)
      | some (.exc x st2) => some (.exc x st2)
      | none => none
    | none => none
  | some (.exc x st1) => some (.exc x st1)
  | none => none := rfl
theorem x_aApp {a b : ASem} : aApp a b r st = match a r st with
  | some (.ok ds st1) => match b r st1 with
    | some (.ok es st2) => some (.ok (ds ++ es) st2)
    | some (.exc x st2) => some (.exc x st2)
    | none => none
  | some (.exc x st1) => some (.exc x st1)
  | none => none := rfl
theorem x_eTup {t : ASem} : eTup t r st = match t r st with
  | some (.ok ds st1) => if ds.length ≤ lim then some (.ok (.val (.tup ds)) st1) else none
  | some (.exc x st1) => some (.exc x st1)
  | none => none := rfl
theorem x_eLst {t : ASem} : eLst t r st = match t r st with
  | some (.ok ds st1) => if ds.length ≤ lim then some (.ok (.fresh (.lst ds)) st1) else none
  | some (.exc x st1) => some (.exc x st1)
  | none => none := rfl
theorem x_eCall {F : FSem} {t : ASem} : eCall F t r st = match t r st with
  | some (.ok ds st1) => match F ds st1 with
    | some (.ret v st2) => some (.ok v st2)
    | some (.exc x st2) => some (.exc x st2)
    | none => none
  | some (.exc x st1) => some (.exc x st1)
  | none => none := rfl
theorem x_tVal {a : ESem} : tVal a r st = match a r st with
  | some (.ok x st1) => match truth st1 x with
    | some b => some (.ok b st1)
    | none => none
  | some (.exc x st1) => some (.exc x st1)
  | none => none := rfl
theorem x_tBool {a : ESem} : tBool a r st = match a r st with
  | some (.ok (.val (.bl b)) st1) => some (.ok b st1)
  | some (.exc x st1) => some (.exc x st1)
  | _ => none := rfl
theorem x_tNotS {a : TSem} : tNotS a r st = match a r st with
  | some (.ok b st1) => some (.ok (!b) st1)
  | some (.exc x st1) => some (.exc x st1)
  | none => none := rfl
theorem x_tAndS {a b : TSem} : tAndS a b r st = match a r st with
  | some (.ok true st1) => b r st1
  | some (.ok false st1) => some (.ok false st1)
  | some (.exc x st1) => some (.exc x st1)
  | none => none := rfl
theorem x_tOrS {a b : TSem} : tOrS a b r st = match a r st with
  | some (.ok false st1) => b r st1
  | some (.ok true st1) => some (.ok true st1)
  | some (.exc x st1) => some (.exc x st1)
  | none => none := rfl
theorem x_tTrue : tTrue r st = some (.ok true st) := rfl
theorem x_eAndS {a b : ESem} : eAndS a b r st = match a r st with
  | some (.ok (.val (.bl true)) st1) => b r st1
  | some (.ok (.val (.bl false)) st1) => some (.ok (.val (.bl false)) st1)
  | some (.exc x st1) => some (.exc x st1)
  | _ => none := rfl
theorem x_eOrS {a b : ESem} : eOrS a b r st = match a r st with
  | some (.ok (.val (.bl false)) st1) => b r st1
  | some (.ok (.val (.bl true)) st1) => some (.ok (.val (.bl true)) st1)
  | some (.exc x st1) => some (.exc x st1)
  | _ => none := rfl
theorem x_eTest {a : TSem} : eTest a r st = match a r st with
  | some (.ok b st1) => some (.ok (.val (.bl b)) st1)
  | some (.exc x st1) => some (.exc x st1)
  | none => none := rfl
theorem x_eIf {t : TSem} {a b : ESem} : eIf t a b r st = match t r st with
  | some (.ok true st1) => a r st1
  | some (.ok false st1) => b r st1
  | some (.exc x st1) => some (.exc x st1)
  | none => none := rfl
theorem x_eChain {f g : Store → RV → RV → Option RV} {a b c : ESem} : eChain f g a b c r st = match a r st with
  | some (.ok x st1) => match b r st1 with
    | some (.ok y st2) => match f st2 x y with
      | some (.val (.bl true)) => match c r st2 with
        | some (.ok z st3) => match g st3 y z with
          | some v => some (.ok v st3)
          | none => none
        | some (.exc x st3) => some (.exc x st3)
        | none => none
      | some (.val (.bl false)) => some (.ok (.val (.bl false)) st2)
      | _ => none
    | some (.exc x st2) => some (.exc x st2)
    | none => none
  | some (.exc x st1) => some (.exc x st1)
  | none => none := rfl
theorem x_oNone : oNone r st = some (none, st) := rfl
theorem x_oSome {a : ESem} : oSome a r st = match a r st with
  | some (.ok (.val (.int i)) st1) => some (some i, st1)
  | _ => none := rfl
theorem x_eSl {a : ESem} {lo hi : Rho → Store → Option (Option Int × Store)} : eSl a lo hi r st = match a r st with
  | some (.ok x st1) => match lo r st1 with
    | some (l, st2) => match hi r st2 with
      | some (h, st3) => match slV st3 x l h with
        | some z => some (.ok z st3)
        | none => none
      | none => none
    | none => none
  | some (.exc x st1) => some (.exc x st1)
  | none => none := rfl
theorem x_iExp {a : ESem} : iExp a r st = match a r st with
  | some (.ok v st1) => match itemsOf v with
    | some xs => some (xs, st1)
    | none => none
  | _ => none := rfl
theorem x_iExpU {a : ESem} : iExpU a r st = match a r st with
  | some (.ok v st1) => match itemsU v with
    | some xs => some (xs, st1)
    | none => none
  | _ => none := rfl
def rngD (j : Int) (st1 : Store) : Option (List D × Store) := if -(2 ^ 62) ≤ j ∧ j < 2 ^ 62 then some ((List.range j.toNat).map fun i : Nat => D.int (0 + i), st1) else none
theorem x_iRange1 {a : ESem} : iRange1 a r st = match a r st with
  | some (.ok (.val (.int j)) st1) => rngD j st1
  | _ => none := rfl
theorem v_rngD {j : Int} (h1 : -4611686018427387904 ≤ j) (h2 : j < 4611686018427387904) : rngD j st = some ((List.range j.toNat).map fun i : Nat => D.int (0 + i), st) := by
  unfold rngD
  rw [if_pos]
  omega
theorem x_iRange2 {a b : ESem} : iRange2 a b r st = match a r st with
  | some (.ok (.val (.int i)) st1) => match b r st1 with
    | some (.ok (.val (.int j)) st2) => if (-(2 ^ 62) ≤ i ∧ i < 2 ^ 62) ∧ (-(2 ^ 62) ≤ j ∧ j < 2 ^ 62) then some ((List.range (j - i).toNat).map fun k : Nat => D.int (i + k), st2) else none
    | _ => none
  | _ => none := rfl
theorem x_eComp {ws : List Nat} {it : ISem} {g : TgSem} {t : TSem} {e : ESem} : eComp ws it g t e r st = match it r st with
  | some (xs, st1) => match compL g t e (wipeR r ws) [] xs st1 with
    | some (ys, st2) => some (.ok (.fresh (.lst ys)) st2)
    | none => none
  | none => none := rfl
theorem x_gVarV {i : Nat} {d : D} : gVar i (.val d) r st = some (r.set i (.val d), st) := rfl
theorem x_gVarF {i : Nat} {d : D} : gVar i (.fresh d) r st = some (r.set i (.own d), st) := rfl
theorem x_gTup {gs : List TgSem} {ds : List D} : gTupS gs (.val (.tup ds)) r st = if ds.length = gs.length then gList gs ds r st else none := rfl
theorem x_gListN : gList [] [] r st = some (r, st) := rfl
theorem x_gListC {g : TgSem} {gs : List TgSem} {d : D} {ds : List D} : gList (g :: gs) (d :: ds) r st = match g (.val d) r st with
  | some (r1, st1) => gList gs ds r1 st1
  | none => none := rfl
theorem x_sNext : sNext r st = some (.nx r st) := rfl
theorem x_sBreak : sBreak r st = some (.bk r st) := rfl
theorem x_sCont : sCont r st = some (.ct r st) := rfl
theorem x_sSeq {a b : SSem} : sSeq a b r st = match a r st with
  | some (.nx r1 st1) => b r1 st1
  | o => o := rfl
theorem x_sDrop {a : ESem} : sDrop a r st = match a r st with
  | some (.ok _ st1) => some (.nx r st1)
  | some (.exc x st1) => some (.exc x r st1)
  | none => none := rfl
theorem x_sRet {a : ESem} : sRet a r st = match a r st with
  | some (.ok (.val d) st1) => some (.rt (.val d) st1)
  | some (.ok (.fresh d) st1) => some (.rt (.fresh d) st1)
  | some (.exc x st1) => some (.exc x r st1)
  | _ => none := rfl
theorem x_sRetB {a : ESem} : sRetB a r st = match a r st with
  | some (.ok (.fresh (.lst xs)) st1) => some (.rt (.val (.ref st1.length)) (st1 ++ [.lst xs]))
  | some (.exc x st1) => some (.exc x r st1)
  | _ => none := rfl
theorem x_sRetV {i : Nat} : sRetV i r st = match r[i]? with
  | some (.val d) => some (.rt (.val d) st)
  | some (.own d) => some (.rt (.fresh d) st)
  | _ => none := rfl
theorem x_sRetN : sRetN r st = some (.rt (.val .non) st) := rfl
theorem x_sAsg {a : ESem} {g : TgSem} : sAsg a g r st = match a r st with
  | some (.ok v st1) => match g v r st1 with
    | some (r2, st2) => some (.nx r2 st2)
    | none => none
  | some (.exc x st1) => some (.exc x r st1)
  | none => none := rfl
theorem x_sPar2 {i j : Nat} {a b : ESem} : sPar2 i j a b r st = match a r st with
  | some (.ok v st1) => match b r st1 with
    | some (.ok w st2) => match gVar i v r st2 with
      | some (r1, st3) => match gVar j w r1 st3 with
        | some (r2, st4) => some (.nx r2 st4)
        | none => none
      | none => none
    | some (.exc x st2) => some (.exc x r st2)
    | none => none
  | some (.exc x st1) => some (.exc x r st1)
  | none => none := rfl
theorem x_sAug {f : Store → RV → RV → Option RV} {i : Nat} {a : ESem} : sAug f i a r st = match r[i]? with
  | some (.val x) => match a r st with
    | some (.ok y st1) => match f st1 (.val x) y with
      | some z => match gVar i z r st1 with
        | some (r2, st2) => some (.nx r2 st2)
        | none => none
      | none => none
    | some (.exc x st1) => some (.exc x r st1)
    | none => none
  | _ => none := rfl
theorem x_sIf {t : TSem} {a b : SSem} : sIf t a b r st = match t r st with
  | some (.ok true st1) => a r st1
  | some (.ok false st1) => b r st1
  | some (.exc x st1) => some (.exc x r st1)
  | none => none := rfl
theorem x_sFreeze {i : Nat} : sFreeze i r st = match r[i]? with
  | some (.own d) => some (.nx (r.set i (.val d)) st)
  | _ => some (.nx r st) := rfl
theorem x_sFor {it : ISem} {g : TgSem} {b : SSem} : sFor it g b r st = match it r st with
  | some (xs, st1) => forS g b xs r st1
  | none => none := rfl
theorem x_forN {g : TgSem} {b : SSem} : forS g b [] r st = some (.nx r st) := rfl
theorem x_forC {g : TgSem} {b : SSem} {x : D} {xs : List D} : forS g b (x :: xs) r st = match g (.val x) r st with
  | some (r1, st1) => match b r1 st1 with
    | some (.nx r2 st2) => forS g b xs r2 st2
    | some (.ct r2 st2) => forS g b xs r2 st2
    | some (.bk r2 st2) => some (.nx r2 st2)
    | some (.rt v st2) => some (.rt v st2)
    | some (.exc x r2 st2) => some (.exc x r2 st2)
    | none => none
  | none => none := rfl
theorem x_fnS {n : Nat} {b : SSem} {ds : List D} : fnS n b ds st = match b (slots0 n ds) st with
  | some (.nx _ st1) => some (.ret (.val .non) st1)
  | some (.rt (.val d) st1) => some (.ret (.val d) st1)
  | some (.rt (.fresh d) st1) => some (.ret (.fresh d) st1)
  | some (.exc x _ st1) => some (.exc x st1)
  | _ => none := rfl
theorem x_slots0 {n : Nat} {ds : List D} : slots0 n ds = ds.map .val ++ List.replicate (n - ds.length) .no := rfl
theorem x_sSetIx {j : Nat} {ie e : ESem} : sSetIx j ie e r st = match e r st with
  | some (.ok v st1) => match v.toVal with
    | some d => match r[j]? with
      | some (.own (.lst xs)) => match ie r st1 with
        | some (.ok (.val (.int k)) st2) => match L2.ixN xs.length k with
          | some m => some (.nx (r.set j (.own (.lst (xs.set m d)))) st2)
          | none => none
        | some (.exc x st2) => some (.exc x r st2)
        | _ => none
      | some (.val (.ref n)) => match ie r st1 with
        | some (.ok (.val (.int k)) st2) => match st2[n]? with
          | some (.lst xs) => match L2.ixN xs.length k with
            | some m => some (.nx r (st2.set n (.lst (xs.set m d))))
            | none => none
          | _ => none
        | some (.exc x st2) => some (.exc x r st2)
        | _ => none
      | _ => none
    | none => none
  | some (.exc x st1) => some (.exc x r st1)
  | none => none := rfl

/-! values -/
variable {i j : Int}
theorem v_addI : addV st (.val (.int i)) (.val (.int j)) = some (.val (.int (i + j))) := rfl
theorem v_subI : subV st (.val (.int i)) (.val (.int j)) = some (.val (.int (i - j))) := rfl
theorem v_mulI (h : mulOk i j = true) : mulV st (.val (.int i)) (.val (.int j)) = some (.val (.int (i * j))) := by
  unfold mulV i2
  dsimp only [RV.d]
  rw [if_pos h]
theorem v_imulI (h1 : -(2 ^ 64) < j) (h2 : j < 2 ^ 64) : imulV st (.val (.int i)) (.val (.int j)) = some (.val (.int (i * j))) := by
  unfold imulV i2
  dsimp only [RV.d]
  rw [if_pos]
  simp only [Bool.and_eq_true, decide_eq_true_eq]
  exact ⟨h1, h2⟩
theorem v_divI (h : divOk i j = true) : divV st (.val (.int i)) (.val (.int j)) = some (.val (.int (i / j))) := by
  unfold divV i2
  dsimp only [RV.d]
  rw [if_pos h]
theorem v_modI (h : 0 < j) : modV st (.val (.int i)) (.val (.int j)) = some (.val (.int (i % j))) := by
  unfold modV i2
  dsimp only [RV.d]
  rw [if_pos (show modOk i j = true from decide_eq_true h)]
theorem v_powI (h : powOk i j = true) : powV st (.val (.int i)) (.val (.int j)) = some (.val (.int (i ^ j.toNat))) := by
  unfold powV i2
  dsimp only [RV.d]
  rw [if_pos h]
theorem v_ltI : ltV st (.val (.int i)) (.val (.int j)) = some (.val (.bl (decide (i < j)))) := rfl
theorem v_leI : leV st (.val (.int i)) (.val (.int j)) = some (.val (.bl (decide (i ≤ j)))) := rfl
theorem v_gtI : gtV st (.val (.int i)) (.val (.int j)) = some (.val (.bl (decide (j < i)))) := rfl
theorem v_geI : geV st (.val (.int i)) (.val (.int j)) = some (.val (.bl (decide (j ≤ i)))) := rfl
theorem v_max : max2V st (.val (.int i)) (.val (.int j)) = some (.val (.int (max i j))) := by
  have : max i j = (if j > i then j else i) := by split <;> omega
  rw [this]
  rfl
theorem v_min : min2V st (.val (.int i)) (.val (.int j)) = some (.val (.int (min i j))) := by
  have : min i j = (if j < i then j else i) := by split <;> omega
  rw [this]
  rfl
theorem v_abs : absV st (.val (.int i)) = some (.val (.int i.natAbs)) := rfl
theorem v_intI : intV st (.val (.int i)) = some (.val (.int i)) := rfl
theorem v_intB {b : Bool} : intV st (.val (.bl b)) = some (.val (.int (if b = true then 1 else 0))) := rfl
theorem v_neg : negV st (.val (.int i)) = some (.val (.int (-i))) := rfl
theorem v_eqI : eqV st (.val (.int i)) (.val (.int j)) = some (.val (.bl (decide (i = j)))) := rfl
theorem v_neI : neV st (.val (.int i)) (.val (.int j)) = some (.val (.bl (!decide (i = j)))) := rfl
theorem v_ixT {xs : List D} : ixV st (.val (.tup xs)) (.val (.int i)) = (L2.atI xs i).map .val := rfl
theorem v_ixF {xs : List D} : ixV st (.fresh (.lst xs)) (.val (.int i)) = (L2.atI xs i).map .val := rfl
theorem v_ixP {xs : List D} : ixV st (.peek (.lst xs)) (.val (.int i)) = (L2.atI xs i).map .val := rfl
theorem v_ixL {xs : List D} : ixV st (.val (.lst xs)) (.val (.int i)) = (L2.atI xs i).map .val := rfl
theorem v_ixO {xs : List D} : ixV st (.val (.rol xs)) (.val (.int i)) = (L2.atI xs i).map .val := rfl
theorem v_ixR {n : Nat} : ixV st (.val (.ref n)) (.val (.int i)) = match asL st (.val (.ref n)) with
  | some xs => (L2.atI xs i).map .val
  | none => none := rfl
theorem v_asR {n : Nat} : asL st (.val (.ref n)) = match st[n]? with
  | some (.lst xs) => some xs
  | _ => none := rfl
theorem v_lenT {xs : List D} : lenV st (.val (.tup xs)) = some (.val (.int xs.length)) := rfl
theorem v_lenO {xs : List D} : lenV st (.val (.rol xs)) = some (.val (.int xs.length)) := rfl
theorem v_lenL {xs : List D} : lenV st (.val (.lst xs)) = some (.val (.int xs.length)) := rfl
theorem v_lenP {xs : List D} : lenV st (.peek (.lst xs)) = some (.val (.int xs.length)) := rfl
theorem v_allF {xs : List D} : allV st (.fresh (.lst xs)) = match bools xs with
  | some bs => some (.val (.bl (bs.all id)))
  | none => none := rfl
theorem v_anyF {xs : List D} : anyV st (.fresh (.lst xs)) = match bools xs with
  | some bs => some (.val (.bl (bs.any id)))
  | none => none := rfl
theorem v_tupF {xs : List D} : tupV st (.fresh (.lst xs)) = some (.val (.tup xs)) := rfl
theorem v_addLPF {a b : List D} : addV st (.peek (.lst a)) (.fresh (.lst b)) = if a.length + b.length ≤ lim then some (.fresh (.lst (a ++ b))) else none := rfl
theorem v_addLFF {a b : List D} : addV st (.fresh (.lst a)) (.fresh (.lst b)) = if a.length + b.length ≤ lim then some (.fresh (.lst (a ++ b))) else none := rfl
theorem v_slO {xs : List D} {lo hi : Option Int} : slV st (.val (.rol xs)) lo hi = some (.fresh (.lst (cutD xs lo hi))) := rfl
theorem v_isiT {T : Ty} {xs : List D} : isiV T st (.val (.tup xs)) = some (.val (.bl (tyIs .tup T))) := rfl
theorem v_isiI {T : Ty} : isiV T st (.val (.int i)) = some (.val (.bl (tyIs .int T))) := rfl
theorem v_itF {xs : List D} : itemsOf (.fresh (.lst xs)) = some xs := rfl
theorem v_itO {xs : List D} : itemsOf (.val (.rol xs)) = some xs := rfl
theorem v_itUT {xs : List D} : itemsU (.val (.tup xs)) = some xs := rfl
theorem v_itT {xs : List D} : itemsOf (.val (.tup xs)) = some xs := rfl
theorem v_trB {b : Bool} : truth st (.val (.bl b)) = some b := rfl
theorem v_trI : truth st (.val (.int i)) = some (i != 0) := rfl
theorem v_toV {d : D} : RV.toVal (.val d) = some d := rfl
theorem v_toF {d : D} : RV.toVal (.fresh d) = some d := rfl
theorem v_b1 : tyIs .tup .tup = true := rfl
theorem v_b2 : tyIs .int .int = true := rfl
theorem v_b3 : tyIs .int .bl = false := rfl
theorem v_boolsN : bools [] = some [] := rfl
theorem v_boolsC {b : Bool} {xs : List D} : bools (.bl b :: xs) = match bools xs with
  | some bs => some (b :: bs)
  | none => none := rfl
end
theorem at_0 {α : Type} {a : α} {l : List α} : L2.atI (a :: l) 0 = some a := by
  show (L2.ixN (l.length + 1) 0).bind _ = _
  unfold L2.ixN
  rw [if_pos (by decide), if_pos (by omega)]
  rfl
theorem at_1 {α : Type} {a b : α} {l : List α} : L2.atI (a :: b :: l) 1 = some b := by
  show (L2.ixN (l.length + 1 + 1) 1).bind _ = _
  unfold L2.ixN
  rw [if_pos (by decide), if_pos (by omega)]
  rfl
theorem at_2 {α : Type} {a b c : α} {l : List α} : L2.atI (a :: b :: c :: l) 2 = some c := by
  show (L2.ixN (l.length + 1 + 1 + 1) 2).bind _ = _
  unfold L2.ixN
  rw [if_pos (by decide), if_pos (by omega)]
  rfl
theorem at_3 {α : Type} {a b c d : α} {l : List α} : L2.atI (a :: b :: c :: d :: l) 3 = some d := by
  show (L2.ixN (l.length + 1 + 1 + 1 + 1) 3).bind _ = _
  unfold L2.ixN
  rw [if_pos (by decide), if_pos (by omega)]
  rfl
theorem at_nat {α : Type} {l : List α} {i : Nat} {a : α} (h : l[i]? = some a) : L2.atI l (i : Int) = some a := by
  have hl := (List.getElem?_eq_some_iff.mp h).1
  unfold L2.atI L2.ixN
  rw [if_pos (by omega), if_pos (by omega)]
  exact h
theorem lim_eq : lim = 16000000 := rfl
theorem z_map {α β : Type} {f : α → β} {x : α} : (some x).map f = some (f x) := rfl
theorem z_get0 {α : Type} {a : α} {l : List α} : (a :: l)[0]? = some a := rfl
theorem z_getS {α : Type} {a : α} {l : List α} {i : Nat} : (a :: l)[i + 1]? = l[i]? := rfl
theorem z_set0 {α : Type} {a b : α} {l : List α} : (a :: l).set 0 b = b :: l := rfl
theorem z_setS {α : Type} {a b : α} {l : List α} {i : Nat} : (a :: l).set (i + 1) b = a :: l.set i b := rfl
theorem z_mapC {α β : Type} {f : α → β} {a : α} {l : List α} : (a :: l).map f = f a :: l.map f := rfl
theorem z_mapN {α β : Type} {f : α → β} : ([] : List α).map f = [] := rfl
theorem z_lenC {α : Type} {a : α} {l : List α} : (a :: l).length = l.length + 1 := rfl
theorem z_lenN {α : Type} : ([] : List α).length = 0 := rfl
theorem z_appC {α : Type} {a : α} {l m : List α} : (a :: l) ++ m = a :: (l ++ m) := rfl
theorem z_appN {α : Type} {m : List α} : ([] : List α) ++ m = m := rfl
theorem z_rep0 {α : Type} {a : α} : List.replicate 0 a = [] := rfl
theorem z_repS {α : Type} {a : α} {n : Nat} : List.replicate (n + 1) a = a :: List.replicate n a := rfl
theorem z_at {α : Type} {l p : List α} {a : α} : (l ++ a :: p)[l.length]? = some a := by simp
theorem z_setAt {α : Type} {l p : List α} {a b : α} : (l ++ a :: p).set l.length b = l ++ b :: p := by simp
/-! sizes -/
def Bd (k : Nat) (i : Int) : Prop := i.natAbs < 2 ^ k
theorem Bd.mono {a b : Nat} {i : Int} (h : Bd a i) (hl : a ≤ b) : Bd b i := Nat.lt_of_lt_of_le h (Nat.pow_le_pow_right (by decide) hl)
theorem Bd.mul {a b : Nat} {i j : Int} (h1 : Bd a i) (h2 : Bd b j) : Bd (a + b) (i * j) := by
  unfold Bd at *
  rw [Int.natAbs_mul, Nat.pow_add]
  exact Nat.mul_lt_mul'' h1 h2
theorem Bd.add {a : Nat} {i j : Int} (h1 : Bd a i) (h2 : Bd a j) : Bd (a + 1) (i + j) := by
  unfold Bd at *
  have := Int.natAbs_add_le i j
  rw [Nat.pow_succ]
  omega
theorem Bd.sub {a : Nat} {i j : Int} (h1 : Bd a i) (h2 : Bd a j) : Bd (a + 1) (i - j) := by
  unfold Bd at *
  have : (i - j).natAbs ≤ i.natAbs + j.natAbs := by omega
  rw [Nat.pow_succ]
  omega
theorem Bd.neg {a : Nat} {i : Int} (h1 : Bd a i) : Bd a (-i) := by
  unfold Bd at *
  rw [Int.natAbs_neg]
  exact h1
theorem Bd.abs {a : Nat} {i : Int} (h1 : Bd a i) : Bd a (i.natAbs : Int) := by
  unfold Bd at *
  omega
theorem Bd.of_le {a : Nat} {i j : Int} (h : Bd a j) (h0 : 0 ≤ i) (h1 : i ≤ j) : Bd a i := by
  unfold Bd at *
  omega
theorem Bd.ediv {a : Nat} {i j : Int} (h : Bd a i) (h0 : 0 ≤ i) (hj : 0 ≤ j) : Bd a (i / j) :=
  h.of_le (Int.ediv_nonneg h0 hj) (Int.ediv_le_self _ h0)
theorem Bd.emod {a : Nat} {i j : Int} (h : Bd a j) (hj : 0 < j) : Bd a (i % j) :=
  h.of_le (Int.emod_nonneg _ (by omega)) (Int.le_of_lt (Int.emod_lt_of_pos _ hj))
theorem bd_log {k : Nat} {i : Int} (h : Bd k i) : i.natAbs.log2 ≤ k := by
  unfold Bd at h
  by_cases h0 : i.natAbs = 0
  · rw [h0]; exact Nat.zero_le _
  · exact Nat.le_of_lt ((Nat.log2_lt h0).mpr h)
theorem mulOk_of {a b : Nat} {i j : Int} (h1 : Bd a i) (h2 : Bd b j) (hl : a + b < 1000000 := by decide) : mulOk i j = true :=
  decide_eq_true (Nat.lt_of_le_of_lt (Nat.add_le_add (bd_log h1) (bd_log h2)) hl)
theorem divOk_of {b : Nat} {i j : Int} (h0 : 0 < j) (h2 : Bd b j) (hl : b < 9000 := by decide) : divOk i j = true := by
  unfold divOk
  rw [Bool.and_eq_true]
  exact ⟨decide_eq_true h0, decide_eq_true (Nat.lt_of_le_of_lt (bd_log h2) hl)⟩
theorem bd_lit {k : Nat} {i : Int} (h : decide (i.natAbs < 2 ^ k) = true) : Bd k i := (of_decide_eq_true h : i.natAbs < 2 ^ k)
/-! loops by an invariant -/
theorem forS_inv {g : TgSem} {b : SSem} (I : Nat → Rho → Store → Prop) : ∀ (xs : List D) (n : Nat) (r : Rho) (st : Store), I n r st →
    (∀ i x r st, xs[i]? = some x → I (n + i) r st → ∃ r1 st1 r2 st2, g (.val x) r st = some (r1, st1) ∧ (b r1 st1 = some (.nx r2 st2) ∨ b r1 st1 = some (.ct r2 st2)) ∧ I (n + i + 1) r2 st2) →
    ∃ r2 st2, forS g b xs r st = some (.nx r2 st2) ∧ I (n + xs.length) r2 st2
  | [], n, r, st, h0, _ => ⟨r, st, rfl, h0⟩
  | x :: xs, n, r, st, h0, hs => by
    obtain ⟨r1, st1, r2, st2, e1, e2, h2⟩ := hs 0 x r st rfl h0
    obtain ⟨r3, st3, e3, h3⟩ := forS_inv I xs (n + 1) r2 st2 h2 fun i y r st hi hI => by
      have := hs (i + 1) y r st hi (by rw [Nat.add_comm i 1, ← Nat.add_assoc]; exact hI)
      rw [Nat.add_comm i 1, ← Nat.add_assoc] at this
      exact this
    refine ⟨r3, st3, ?_, by rw [List.length_cons, Nat.add_comm xs.length 1, ← Nat.add_assoc]; exact h3⟩
    rw [x_forC, e1]
    rcases e2 with e2 | e2 <;> (simp only [e2]; exact e3)
/-- a loop whose rounds are alike -/
theorem forS_all {g : TgSem} {b : SSem} (I : Rho → Store → Prop) (xs : List D) (r : Rho) (st : Store) (h0 : I r st)
    (hs : ∀ x r st, x ∈ xs → I r st → ∃ r1 st1 r2 st2, g (.val x) r st = some (r1, st1) ∧ (b r1 st1 = some (.nx r2 st2) ∨ b r1 st1 = some (.ct r2 st2)) ∧ I r2 st2) :
    ∃ r2 st2, forS g b xs r st = some (.nx r2 st2) ∧ I r2 st2 :=
  forS_inv (fun _ => I) xs 0 r st h0 fun i x r st hi h => hs x r st (List.mem_of_getElem? hi) h
theorem Bd.addM {a b : Nat} {i j : Int} (h1 : Bd a i) (h2 : Bd b j) : Bd (max a b + 1) (i + j) := Bd.add (h1.mono (Nat.le_max_left a b)) (h2.mono (Nat.le_max_right a b))
theorem Bd.subM {a b : Nat} {i j : Int} (h1 : Bd a i) (h2 : Bd b j) : Bd (max a b + 1) (i - j) := Bd.sub (h1.mono (Nat.le_max_left a b)) (h2.mono (Nat.le_max_right a b))
theorem Bd.l64 {i : Int} (h : decide (i.natAbs < 18446744073709551616) = true) : Bd 64 i := (of_decide_eq_true h : i.natAbs < 18446744073709551616)
theorem Bd.l300 {i : Int} (h : decide (i.natAbs < 2 ^ 300) = true) : Bd 300 i := (of_decide_eq_true h : i.natAbs < 2 ^ 300)
theorem mulOk_bd {a b : Nat} {i j : Int} (h1 : Bd a i) (h2 : Bd b j) (hl : decide (a + b < 1000000) = true) : mulOk i j = true := mulOk_of h1 h2 (of_decide_eq_true hl)
theorem divOk_bd {b : Nat} {i j : Int} (h0 : 0 < j) (h2 : Bd b j) (hl : decide (b < 9000) = true) : divOk i j = true := divOk_of h0 h2 (of_decide_eq_true hl)
theorem bd_rng {i m : Int} (h0 : 0 ≤ i) (h1 : i < m) (hm : decide (m < 18446744073709551616) = true) : Bd 64 i := by
  have := of_decide_eq_true hm
  unfold Bd
  show i.natAbs < 18446744073709551616
  omega
theorem powOk_bd {i j : Int} (h : (decide (0 ≤ j) && decide (j ≤ 1000000) && decide (i.natAbs < 2 ^ 64)) = true) : powOk i j = true := h
/-- a fraction, as a tree -/
def frD (q : Rat) : D := .tup [.int q.num, .int (q.den : Int)]
/-- its size -/
def Rb (k : Nat) (q : Rat) : Prop := Bd k q.num ∧ Bd k (q.den : Int)
theorem Rb.mono {a b : Nat} {q : Rat} (h : Rb a q) (hl : a ≤ b) : Rb b q := ⟨h.1.mono hl, h.2.mono hl⟩
theorem v_fr0 {q : Rat} {st : Store} : ixV st (.val (frD q)) (.val (.int 0)) = some (.val (.int q.num)) := rfl
theorem v_fr1 {q : Rat} {st : Store} : ixV st (.val (frD q)) (.val (.int 1)) = some (.val (.int (q.den : Int))) := rfl
theorem v_frT {q : Rat} {st : Store} {T : Ty} : isiV T st (.val (frD q)) = some (.val (.bl (tyIs .tup T))) := rfl
theorem v_frL {q : Rat} {st : Store} : lenV st (.val (frD q)) = some (.val (.int 2)) := rfl
theorem x_frG {g h : TgSem} {q : Rat} {r : Rho} {st : Store} : gTupS [g, h] (.val (frD q)) r st = gList [g, h] [.int q.num, .int (q.den : Int)] r st := rfl
theorem z_ixN0 {n : Nat} : L2.ixN (n + 1) 0 = some 0 := by
  unfold L2.ixN
  rw [if_pos (by decide), if_pos (by omega)]
  rfl
theorem z_ixN1 {n : Nat} : L2.ixN (n + 2) 1 = some 1 := by
  unfold L2.ixN
  rw [if_pos (by decide), if_pos (by omega)]
  rfl
theorem z_ixN2 {n : Nat} : L2.ixN (n + 3) 2 = some 2 := by
  unfold L2.ixN
  rw [if_pos (by decide), if_pos (by omega)]
  rfl
theorem z_ixN3 {n : Nat} : L2.ixN (n + 4) 3 = some 3 := by
  unfold L2.ixN
  rw [if_pos (by decide), if_pos (by omega)]
  rfl
theorem z_ixN4 {n : Nat} : L2.ixN (n + 5) 4 = some 4 := by
  unfold L2.ixN
  rw [if_pos (by decide), if_pos (by omega)]
  rfl
theorem z_ixN5 {n : Nat} : L2.ixN (n + 6) 5 = some 5 := by
  unfold L2.ixN
  rw [if_pos (by decide), if_pos (by omega)]
  rfl
theorem z_ixN6 {n : Nat} : L2.ixN (n + 7) 6 = some 6 := by
  unfold L2.ixN
  rw [if_pos (by decide), if_pos (by omega)]
  rfl
theorem z_ixN7 {n : Nat} : L2.ixN (n + 8) 7 = some 7 := by
  unfold L2.ixN
  rw [if_pos (by decide), if_pos (by omega)]
  rfl
theorem at_4 {α : Type} {a b c d e : α} {l : List α} : L2.atI (a :: b :: c :: d :: e :: l) 4 = some e := by
  show (L2.ixN (l.length + 1 + 1 + 1 + 1 + 1) 4).bind _ = _
  unfold L2.ixN
  rw [if_pos (by decide), if_pos (by omega)]
  rfl
/-! ### statements by what holds behind them -/
def SW (b : SSem) (r : Rho) (st : Store) (Q : SR → Prop) : Prop := ∃ o, b r st = some o ∧ Q o
section
variable {a b c : SSem} {r r1 : Rho} {st st1 : Store} {Q : SR → Prop} {t : TSem} {it : ISem} {g : TgSem} {xs : List D}
theorem sw_eq {o : SR} (h : a r st = some o) (q : Q o) : SW a r st Q := ⟨o, h, q⟩
theorem sw_step (h : a r st = some (.nx r1 st1)) (q : SW b r1 st1 Q) : SW (sSeq a b) r st Q := by
  obtain ⟨o, e, q⟩ := q
  exact ⟨o, by rw [x_sSeq, h]; exact e, q⟩
theorem sw_seq (h : SW a r st fun o => match o with
    | .nx r1 st1 => SW b r1 st1 Q
    | o => Q o) : SW (sSeq a b) r st Q := by
  obtain ⟨o, e, q⟩ := h
  cases o with
  | nx r1 st1 =>
    obtain ⟨o, e2, q⟩ := q
    exact ⟨o, by rw [x_sSeq, e]; exact e2, q⟩
  | _ => exact ⟨_, by rw [x_sSeq, e], q⟩
theorem sw_ret {o : SR} (h : a r st = some o) (hn : ∀ r1 st1, o ≠ .nx r1 st1) (q : Q o) : SW (sSeq a b) r st Q := by
  refine ⟨o, ?_, q⟩
  rw [x_sSeq, h]
  cases o with
  | nx r1 st1 => exact absurd rfl (hn r1 st1)
  | _ => rfl
theorem sw_ifT (h : t r st = some (.ok true st1)) (q : SW a r st1 Q) : SW (sIf t a b) r st Q := by
  obtain ⟨o, e, q⟩ := q
  exact ⟨o, by rw [x_sIf, h]; exact e, q⟩
theorem sw_ifF (h : t r st = some (.ok false st1)) (q : SW b r st1 Q) : SW (sIf t a b) r st Q := by
  obtain ⟨o, e, q⟩ := q
  exact ⟨o, by rw [x_sIf, h]; exact e, q⟩
/-- a for: I n holds ahead of turn n -/
theorem sw_forN (I : Nat → Rho → Store → Prop) (h : it r st = some (xs, st1)) (h0 : I 0 r st1)
    (hs : ∀ n x r st, xs[n]? = some x → I n r st → ∃ r1 st1, g (.val x) r st = some (r1, st1) ∧ SW b r1 st1 fun o => match o with
      | .nx r2 st2 => I (n + 1) r2 st2
      | .ct r2 st2 => I (n + 1) r2 st2
      | .bk r2 st2 => Q (.nx r2 st2)
      | o => Q o)
    (hq : ∀ r2 st2, I xs.length r2 st2 → Q (.nx r2 st2)) : SW (sFor it g b) r st Q := by
  have key : ∀ (ys zs : List D) (r : Rho) (st : Store), xs = zs ++ ys → I zs.length r st → SW (forS g b ys) r st Q := by
    intro ys
    induction ys with
    | nil =>
      intro zs r st hy hI
      rw [List.append_nil] at hy
      exact ⟨_, rfl, hq _ _ (hy ▸ hI)⟩
    | cons y ys ih =>
      intro zs r st hy hI
      obtain ⟨r1, st1, e1, o, e2, q⟩ := hs zs.length y r st (by rw [hy]; simp) hI
      have hy' : xs = (zs ++ [y]) ++ ys := by rw [hy]; simp
      have hl : (zs ++ [y]).length = zs.length + 1 := by simp
      cases o with
      | nx r2 st2 =>
        obtain ⟨o, e3, q3⟩ := ih (zs ++ [y]) r2 st2 hy' (by rw [hl]; exact q)
        exact ⟨o, by rw [x_forC, e1]; simp only [e2]; exact e3, q3⟩
      | ct r2 st2 =>
        obtain ⟨o, e3, q3⟩ := ih (zs ++ [y]) r2 st2 hy' (by rw [hl]; exact q)
        exact ⟨o, by rw [x_forC, e1]; simp only [e2]; exact e3, q3⟩
      | bk r2 st2 => exact ⟨_, by rw [x_forC, e1]; simp only [e2], q⟩
      | rt v st2 => exact ⟨_, by rw [x_forC, e1]; simp only [e2], q⟩
      | exc e r2 st2 => exact ⟨_, by rw [x_forC, e1]; simp only [e2], q⟩
  obtain ⟨o, e, q⟩ := key xs [] r st1 rfl h0
  exact ⟨o, by rw [x_sFor, h]; exact e, q⟩
/-- a for whose turns are alike -/
theorem sw_for (I : Rho → Store → Prop) (h : it r st = some (xs, st1)) (h0 : I r st1)
    (hs : ∀ x r st, x ∈ xs → I r st → ∃ r1 st1, g (.val x) r st = some (r1, st1) ∧ SW b r1 st1 fun o => match o with
      | .nx r2 st2 => I r2 st2
      | .ct r2 st2 => I r2 st2
      | .bk r2 st2 => Q (.nx r2 st2)
      | o => Q o)
    (hq : ∀ r2 st2, I r2 st2 → Q (.nx r2 st2)) : SW (sFor it g b) r st Q := by
  have key : ∀ (ys : List D) (r : Rho) (st : Store), (∀ y ∈ ys, y ∈ xs) → I r st → SW (forS g b ys) r st Q := by
    intro ys
    induction ys with
    | nil => exact fun r st _ hI => ⟨_, rfl, hq _ _ hI⟩
    | cons y ys ih =>
      intro r st hy hI
      obtain ⟨r1, st1, e1, o, e2, q⟩ := hs y r st (hy y List.mem_cons_self) hI
      have hy' : ∀ z ∈ ys, z ∈ xs := fun z hz => hy z (List.mem_cons_of_mem _ hz)
      cases o with
      | nx r2 st2 =>
        obtain ⟨o, e3, q3⟩ := ih r2 st2 hy' q
        exact ⟨o, by rw [x_forC, e1]; simp only [e2]; exact e3, q3⟩
      | ct r2 st2 =>
        obtain ⟨o, e3, q3⟩ := ih r2 st2 hy' q
        exact ⟨o, by rw [x_forC, e1]; simp only [e2]; exact e3, q3⟩
      | bk r2 st2 => exact ⟨_, by rw [x_forC, e1]; simp only [e2], q⟩
      | rt v st2 => exact ⟨_, by rw [x_forC, e1]; simp only [e2], q⟩
      | exc e r2 st2 => exact ⟨_, by rw [x_forC, e1]; simp only [e2], q⟩
  obtain ⟨o, e, q⟩ := key xs r st1 (fun _ h => h) h0
  exact ⟨o, by rw [x_sFor, h]; exact e, q⟩
end
/-- a def by its body -/
theorem fn_sw {n : Nat} {b : SSem} {ds : List D} {st : Store} {P : RV → Store → Prop} (h : SW b (slots0 n ds) st fun o => match o with
    | .nx _ st1 => P (.val .non) st1
    | .rt (.val d) st1 => P (.val d) st1
    | .rt (.fresh d) st1 => P (.fresh d) st1
    | _ => False) : ∃ v st1, fnS n b ds st = some (.ret v st1) ∧ P v st1 := by
  obtain ⟨o, e, q⟩ := h
  rw [x_fnS, e]
  cases o with
  | nx r st1 => exact ⟨_, _, rfl, q⟩
  | rt v st1 =>
    cases v with
    | val d => exact ⟨_, _, rfl, q⟩
    | fresh d => exact ⟨_, _, rfl, q⟩
    | peek d => exact q.elim
  | _ => exact q.elim
end Tz

local macro_rules | `(tactic| decreasing_trivial) => `(tactic| (repeat' (first | with_reducible assumption | apply Tz.Bd.mul | apply Tz.Bd.addM | apply Tz.Bd.subM | apply Tz.Bd.neg | apply Tz.Bd.abs | (apply Tz.Bd.l64; decide +kernel) | (apply Tz.Bd.l300; decide +kernel))))
local macro_rules | `(tactic| rwa [$rs,*]) => do
  let ts : Lean.TSyntaxArray `term := rs.getElems.map fun r => ⟨r.raw[1]⟩
  `(tactic| simp (disch := (first | with_reducible assumption | (with_reducible show Tz.mulOk _ _ = true; refine Tz.mulOk_bd (by decreasing_trivial) (by decreasing_trivial) (by decide +kernel)) | (with_reducible show Tz.divOk _ _ = true; refine Tz.divOk_bd (by first | assumption | omega) (by decreasing_trivial) (by decide +kernel)) | (with_reducible show Tz.powOk _ _ = true; refine Tz.powOk_bd (by decide +kernel)) | ((fail_if_success (intro _)); omega) | fail)) only [Tz.x_eC, Tz.x_eVar, Tz.x_eOp1, Tz.x_eOp2, Tz.x_aNil, Tz.x_argsN, Tz.x_argsC, Tz.x_aApp, Tz.x_eTup, Tz.x_eLst, Tz.x_eCall, Tz.x_tVal, Tz.x_tBool, Tz.x_tNotS, Tz.x_tAndS, Tz.x_tOrS, Tz.x_tTrue, Tz.x_eAndS, Tz.x_eOrS, Tz.x_eTest, Tz.x_eIf, Tz.x_eChain, Tz.x_oNone, Tz.x_oSome, Tz.x_eSl, Tz.x_iExp, Tz.x_iExpU, Tz.x_iRange1, Tz.v_rngD, Tz.x_iRange2, Tz.x_eComp, Tz.x_gVarV, Tz.x_gVarF, Tz.x_gTup, Tz.x_gListN, Tz.x_gListC, Tz.x_sNext, Tz.x_sBreak, Tz.x_sCont, Tz.x_sSeq, Tz.x_sDrop, Tz.x_sRet, Tz.x_sRetB, Tz.x_sRetV, Tz.x_sRetN, Tz.x_sAsg, Tz.x_sPar2, Tz.x_sAug, Tz.x_sIf, Tz.x_sFreeze, Tz.x_sFor, Tz.x_forN, Tz.x_forC, Tz.x_fnS, Tz.x_slots0, Tz.x_sSetIx, Tz.v_addI, Tz.v_subI, Tz.v_mulI, Tz.v_divI, Tz.v_modI, Tz.v_powI, Tz.v_ltI, Tz.v_leI, Tz.v_gtI, Tz.v_geI, Tz.v_max, Tz.v_min, Tz.v_abs, Tz.v_intI, Tz.v_intB, Tz.v_neg, Tz.v_eqI, Tz.v_neI, Tz.v_ixT, Tz.v_ixF, Tz.v_ixP, Tz.v_ixL, Tz.v_ixO, Tz.v_ixR, Tz.v_asR, Tz.v_lenT, Tz.v_lenO, Tz.v_lenL, Tz.v_lenP, Tz.v_allF, Tz.v_anyF, Tz.v_tupF, Tz.v_addLPF, Tz.v_addLFF, Tz.v_slO, Tz.v_isiT, Tz.v_isiI, Tz.v_itF, Tz.v_itO, Tz.v_itUT, Tz.v_itT, Tz.v_trB, Tz.v_trI, Tz.v_toV, Tz.v_toF, Tz.v_b1, Tz.v_b2, Tz.v_b3, Tz.v_boolsN, Tz.v_boolsC, Tz.at_0, Tz.at_1, Tz.at_2, Tz.at_3, Tz.z_map, Tz.z_get0, Tz.z_getS, Tz.z_set0, Tz.z_setS, Tz.z_mapC, Tz.z_mapN, Tz.z_lenC, Tz.z_lenN, Tz.z_appC, Tz.z_appN, Tz.z_rep0, Tz.z_repS, Tz.z_at, Tz.z_setAt, Tz.v_fr0, Tz.v_fr1, Tz.v_frT, Tz.v_frL, Tz.x_frG, Tz.z_ixN0, Tz.z_ixN1, Tz.z_ixN2, Tz.z_ixN3, Tz.z_ixN4, Tz.z_ixN5, Tz.z_ixN6, Tz.z_ixN7, Tz.at_4, Tz.lim_eq, ite_true, ite_false, Bool.not_true, Bool.not_false, Bool.true_and, Bool.false_and, decide_true, decide_false, Option.some.injEq, if_true, if_false, reduceIte, Nat.zero_add, Nat.sub_self, Bool.false_eq_true, Nat.add_zero, Nat.le_refl, Nat.reduceAdd, Nat.reduceSub, Nat.reduceLeDiff, Nat.reduceEqDiff, Nat.reduceLT, Int.reduceAdd, Int.reduceSub, Int.reduceMul, Int.reduceNeg, Int.reduceLT, Int.reduceLE, Int.reduceEq, Int.reducePow, Int.reduceToNat, Int.cast_ofNat_Int, List.all_cons, List.all_nil, id_eq, $[$ts:term],*])

set_option Elab.async false
set_option linter.all false
set_option maxRecDepth 100000
set_option maxHeartbeats 4000000
/-! Lb: defs that many laws reach, as combinators. -/
namespace Tz
open PySem L2 PyProof.Rows
noncomputable def G_law_purse : FSem := fnS 1
  (sRetB (eLst (argsS [(eOp2 addV (eOp2 mulV (eOp2 modV (eVar 0) (eC (.int 999999937))) (eC (.int 7001))) (eC (.int 3301))), (eOp2 ixV (eLst (argsS [(eC (.int 0)), (eVar 0)])) (eOp1 intV (eOp2 geV (eVar 0) (eOp2 powV (eC (.int 10)) (eC (.int 18)))))), (eC (.int 0))])))
noncomputable def G_law_cell : FSem := fnS 4
  (sSeq (sIf (tBool (eOp2 ltV (eVar 1) (eOp1 lenV (eVar 0)))) (sRet (eOp2 ixV (eVar 0) (eVar 1))) sNext) (sSeq (sAsg (eOp2 modV (eOp2 mulV (eC (.int 60013)) (eOp2 addV (eOp2 addV (eOp2 mulV (eVar 1) (eVar 1)) (eOp2 mulV (eC (.int 7)) (eVar 1))) (eC (.int 3)))) (eC (.int 999999937))) (gVar 2)) (sSeq (sFor (iExp (eSl (eVar 0) oNone (oSome (eC (.int 4))))) (gVar 3) (sAsg (eOp2 modV (eOp2 addV (eOp2 mulV (eVar 2) (eC (.int 30103))) (eVar 3)) (eC (.int 999999937))) (gVar 2))) (sRetV 2))))
noncomputable def G_law_pick : FSem := fnS 4
  (sSeq (sSetIx 0 (eC (.int 2)) (eOp2 addV (eOp2 ixV (eVar 0) (eC (.int 2))) (eC (.int 1)))) (sSeq (sAsg (eOp2 modV (eOp2 ixV (eVar 0) (eC (.int 0))) (eC (.int 999999937))) (gVar 2)) (sSeq (sSetIx 0 (eC (.int 0)) (eOp2 addV (eOp2 mulV (eVar 2) (eOp2 addV (eOp2 modV (eVar 2) (eC (.int 50021))) (eC (.int 20011)))) (eOp2 mulV (eC (.int 90001)) (eOp2 ixV (eVar 0) (eC (.int 2)))))) (sSeq (sIf (tBool (eOp2 gtV (eOp2 ixV (eVar 0) (eC (.int 1))) (eC (.int 0)))) (sSeq (sAsg (eOp2 modV (eOp2 ixV (eVar 0) (eC (.int 1))) (eVar 1)) (gVar 3)) (sSeq (sSetIx 0 (eC (.int 1)) (eOp2 divV (eOp2 ixV (eVar 0) (eC (.int 1))) (eVar 1))) (sRetV 3))) sNext) (sRet (eOp2 modV (eOp2 divV (eOp2 modV (eOp2 ixV (eVar 0) (eC (.int 0))) (eC (.int 999999937))) (eC (.int 16))) (eVar 1)))))))
noncomputable def G_law_low : FSem := fnS 4
  (sSeq (sIf (tBool (eOp2 ltV (eVar 1) (eC (.int 0)))) (sPar2 0 1 (eOp2 subV (eC (.int 0)) (eVar 0)) (eOp2 subV (eC (.int 0)) (eVar 1))) sNext) (sSeq (sPar2 2 3 (eOp1 absV (eVar 0)) (eVar 1)) (sSeq (whileS (tBool (eOp2 gtV (eVar 3) (eC (.int 0)))) (sPar2 2 3 (eVar 3) (eOp2 modV (eVar 2) (eVar 3)))) (sRet (eTup (argsS [(eOp2 divV (eVar 0) (eVar 2)), (eOp2 divV (eVar 1) (eVar 2))]))))))
noncomputable def G_is_whole : FSem := fnS 1
  (sRet (eAndS (eOp1 (isiV .int) (eVar 0)) (eTest (tNotS (tVal (eOp1 (isiV .bl) (eVar 0)))))))
noncomputable def G_share_of : FSem := fnS 2
  (sSeq (whileS (tBool (eOp2 gtV (eVar 1) (eC (.int 0)))) (sPar2 0 1 (eVar 1) (eOp2 modV (eVar 0) (eVar 1)))) (sRetV 0))
noncomputable def G_is_fraction : FSem := fnS 2
  (sSeq (sIf (tOrS (tNotS (tVal (eOp1 (isiV .tup) (eVar 0)))) (tOrS (tBool (eOp2 neV (eOp1 lenV (eVar 0)) (eC (.int 2)))) (tNotS (tVal (eOp1 allV (eComp [1] (iExpU (eVar 0)) (gVar 1) tTrue (eCall G_is_whole (argsS [(eVar 1)])))))))) (sRet (eC (.bl false))) sNext) (sRet (eAndS (eOp2 gtV (eOp2 ixV (eVar 0) (eC (.int 1))) (eC (.int 0))) (eOp2 eqV (eCall G_share_of (argsS [(eOp1 absV (eOp2 ixV (eVar 0) (eC (.int 0)))), (eOp2 ixV (eVar 0) (eC (.int 1)))])) (eC (.int 1))))))
noncomputable def G_check_number : FSem := fnS 2
  (sIf (tNotS (tVal (eCall G_is_fraction (argsS [(eVar 0)])))) sStuck sNext)
noncomputable def G_halves_up : FSem := fnS 1
  (sRet (eOp2 divV (eOp2 addV (eOp2 mulV (eC (.int 2)) (eOp2 ixV (eVar 0) (eC (.int 0)))) (eOp2 ixV (eVar 0) (eC (.int 1)))) (eOp2 mulV (eC (.int 2)) (eOp2 ixV (eVar 0) (eC (.int 1))))))
noncomputable def G_nearest_whole : FSem := fnS 1
  (sSeq (sDrop (eCall G_check_number (argsS [(eVar 0), (eC (.int 0))]))) (sRet (eCall G_halves_up (argsS [(eVar 0)]))))
noncomputable def G_from_zero : FSem := fnS 1
  (sRet (eAndS (eCall G_is_fraction (argsS [(eVar 0)])) (eOp2 geV (eOp2 ixV (eVar 0) (eC (.int 0))) (eC (.int 0)))))
noncomputable def G_root_above : FSem := fnS 4
  (sSeq (sIf (tNotS (tVal (eCall G_from_zero (argsS [(eVar 0)])))) sStuck sNext) (sSeq (sAsg (eTup (argsS [(eC (.int 0)), (eC (.int 1))])) (gTupS [(gVar 1), (gVar 2)])) (sSeq (whileS (tBool (eOp2 ltV (eOp2 mulV (eOp2 mulV (eVar 2) (eVar 2)) (eOp2 ixV (eVar 0) (eC (.int 1)))) (eOp2 ixV (eVar 0) (eC (.int 0))))) (sAug imulV 2 (eC (.int 2)))) (sSeq (whileS (tBool (eOp2 ltV (eVar 1) (eVar 2))) (sSeq (sAsg (eOp2 divV (eOp2 addV (eVar 1) (eVar 2)) (eC (.int 2))) (gVar 3)) (sIf (tBool (eOp2 ltV (eOp2 mulV (eOp2 mulV (eVar 3) (eVar 3)) (eOp2 ixV (eVar 0) (eC (.int 1)))) (eOp2 ixV (eVar 0) (eC (.int 0))))) (sAsg (eOp2 addV (eVar 3) (eC (.int 1))) (gVar 1)) (sAsg (eVar 3) (gVar 2))))) (sRetV 1)))))
end Tz

set_option Elab.async false
set_option linter.all false
set_option maxRecDepth 100000
set_option maxHeartbeats 400000
/-! Lc: what the shared defs tell. -/
namespace Tz
open PySem L2 PyProof.Rows
theorem emod_nat {x y : Nat} : ((x : Int) % (y : Int)) = ((x % y : Nat) : Int) := rfl
theorem whole_int {i : Int} {st : Store} : G_is_whole [.int i] st = some (.ret (.val (.bl true)) st) := by
  unfold G_is_whole
  rwa []
theorem share_loop : ∀ (n x y : Nat) (st : Store), y ≤ n → whileS (tBool (eOp2 gtV (eVar 1) (eC (.int 0)))) (sPar2 0 1 (eVar 1) (eOp2 modV (eVar 0) (eVar 1))) [.val (.int x), .val (.int y)] st = some (.nx [.val (.int (Nat.gcd x y)), .val (.int 0)] st) := by
  intro n
  induction n with
  | zero =>
    intro x y st h
    have : y = 0 := by omega
    subst this
    rw [Nat.gcd_zero_right]
    exact whileS_false (by rwa [])
  | succ n ih =>
    intro x y st h
    by_cases hy : y = 0
    · subst hy
      rw [Nat.gcd_zero_right]
      exact whileS_false (by rwa [])
    · have hp : (0 : Int) < (y : Int) := by omega
      rw [whileS_true (st1 := st) (r2 := [.val (.int y), .val (.int (x % y : Nat))]) (st2 := st) (by rwa [decide_eq_true hp]) (by rwa [emod_nat])]
      have hl := Nat.mod_lt x (Nat.pos_of_ne_zero hy)
      rw [ih y (x % y) st (by omega), Nat.gcd_comm x y, Nat.gcd_rec y x, Nat.gcd_comm]
theorem share_ok {x y : Nat} {st : Store} : G_share_of [.int x, .int y] st = some (.ret (.val (.int (Nat.gcd x y))) st) := by
  unfold G_share_of
  rwa [share_loop y x y st (Nat.le_refl _)]
theorem low_loop : ∀ (n x y : Nat) (a b : D) (st : Store), y ≤ n → whileS (tBool (eOp2 gtV (eVar 3) (eC (.int 0)))) (sPar2 2 3 (eVar 3) (eOp2 modV (eVar 2) (eVar 3))) [.val a, .val b, .val (.int x), .val (.int y)] st = some (.nx [.val a, .val b, .val (.int (Nat.gcd x y)), .val (.int 0)] st) := by
  intro n
  induction n with
  | zero =>
    intro x y a b st h
    have : y = 0 := by omega
    subst this
    rw [Nat.gcd_zero_right]
    exact whileS_false (by rwa [])
  | succ n ih =>
    intro x y a b st h
    by_cases hy : y = 0
    · subst hy
      rw [Nat.gcd_zero_right]
      exact whileS_false (by rwa [])
    · have hp : (0 : Int) < (y : Int) := by omega
      rw [whileS_true (st1 := st) (r2 := [.val a, .val b, .val (.int y), .val (.int (x % y : Nat))]) (st2 := st) (by rwa [decide_eq_true hp]) (by rwa [emod_nat])]
      have hl := Nat.mod_lt x (Nat.pos_of_ne_zero hy)
      rw [ih y (x % y) a b st (by omega), Nat.gcd_comm x y, Nat.gcd_rec y x, Nat.gcd_comm]
/-- two ints brought low -/
theorem num_div {a : Int} {b : Nat} (hb : 0 < b) : (Rat.divInt a b).num = a / (Nat.gcd a.natAbs b : Nat) ∧ ((Rat.divInt a b).den : Int) = (b : Int) / (Nat.gcd a.natAbs b : Nat) := by
  rw [Rat.num_divInt, Rat.den_divInt, if_neg (by omega)]
  have e : (Int.gcd (b : Int) a) = Nat.gcd a.natAbs b := by rw [Int.gcd_comm]; rfl
  rw [e, Int.sign_eq_one_of_pos (by omega), Int.one_mul]
  exact ⟨rfl, rfl⟩
theorem low_pos {a : Int} {b : Nat} {st : Store} (hb : 0 < b) (ha : Bd 8000 a) (hb2 : Bd 8000 (b : Int)) : G_law_low [.int a, .int (b : Int)] st = some (.ret (.val (frD (Rat.divInt a b))) st) := by
  have hn : ¬ ((b : Int) < 0) := by omega
  have hg : 0 < Nat.gcd a.natAbs b := Nat.gcd_pos_of_pos_right _ hb
  have hg' : (0 : Int) < ((Nat.gcd a.natAbs b : Nat) : Int) := by omega
  have hgb : Bd 8000 ((Nat.gcd a.natAbs b : Nat) : Int) := hb2.of_le (by omega) (by have := Nat.gcd_le_right a.natAbs hb; omega)
  obtain ⟨e1, e2⟩ := num_div (a := a) hb
  unfold G_law_low
  rwa [decide_eq_false hn, low_loop b a.natAbs b (.int a) (.int b) st (Nat.le_refl _)]
  unfold frD
  rw [e1, e2]
theorem low_ok {a b : Int} {st : Store} (hb : b ≠ 0) (ha : Bd 8000 a) (hb2 : Bd 8000 b) : G_law_low [.int a, .int b] st = some (.ret (.val (frD (Rat.divInt a b))) st) := by
  by_cases h0 : 0 < b
  · obtain ⟨n, rfl⟩ : ∃ n : Nat, b = n := ⟨b.toNat, by omega⟩
    exact low_pos (by omega) ha hb2
  · obtain ⟨n, rfl⟩ : ∃ n : Nat, b = -(n : Int) := ⟨(-b).toNat, by omega⟩
    have hn : 0 < n := by omega
    have hneg : (-(n : Int)) < 0 := by omega
    have hb3 : Bd 8000 (n : Int) := by have := hb2.neg; rwa [Int.neg_neg] at this
    have hg' : (0 : Int) < ((Nat.gcd a.natAbs n : Nat) : Int) := by have := Nat.gcd_pos_of_pos_right a.natAbs hn; omega
    have hgb : Bd 8000 ((Nat.gcd a.natAbs n : Nat) : Int) := hb3.of_le (by omega) (by have := Nat.gcd_le_right a.natAbs hn; omega)
    obtain ⟨e1, e2⟩ := num_div (a := -a) hn
    have ea : (0 - a) = -a := by omega
    have eb : (0 - -(n : Int)) = (n : Int) := by omega
    have en : (-a).natAbs = a.natAbs := Int.natAbs_neg a
    unfold G_law_low
    rwa [decide_eq_true hneg, ea, eb, en, low_loop n a.natAbs n (.int (-a)) (.int n) st (Nat.le_refl _)]
    unfold frD
    rw [Rat.divInt_neg', e1, e2, en]
theorem rb_div {k : Nat} {a b : Int} (hb : 0 < b) (h1 : Bd k a) (h2 : Bd k b) : Rb k (Rat.divInt a b) := by
  obtain ⟨n, rfl⟩ : ∃ n : Nat, b = n := ⟨b.toNat, by omega⟩
  have hn : 0 < n := by omega
  obtain ⟨e1, e2⟩ := num_div (a := a) hn
  have hd : ((Nat.gcd a.natAbs n : Nat) : Int) ∣ a := Int.ofNat_dvd_left.mpr (Nat.gcd_dvd_left _ _)
  refine ⟨?_, ?_⟩
  · rw [e1]
    unfold Bd at *
    rw [Int.natAbs_ediv_of_dvd hd]
    exact Nat.lt_of_le_of_lt (Nat.div_le_self _ _) h1
  · rw [e2]
    exact h2.ediv (by omega) (by omega)
theorem frD_neg {q : Rat} : D.tup [.int (0 - q.num), .int (q.den : Int)] = frD (-q) := by
  unfold frD
  rw [Int.zero_sub]
  rfl
theorem Rb.neg {k : Nat} {q : Rat} (h : Rb k q) : Rb k (-q) := ⟨h.1.neg, h.2⟩
theorem frac_ok {q : Rat} {st : Store} : G_is_fraction [frD q] st = some (.ret (.val (.bl true)) st) := by
  have hd : (0 : Int) < (q.den : Int) := by have := q.den_pos; omega
  have hg : Nat.gcd q.num.natAbs q.den = 1 := q.reduced
  unfold G_is_fraction frD
  rwa [compL, wipeR, whole_int, share_ok, decide_eq_true hd, hg]
theorem frac0_ok {q : Rat} {st : Store} : G_from_zero [frD q] st = some (.ret (.val (.bl (decide (0 ≤ q)))) st) := by
  have e : decide ((0 : Int) ≤ q.num) = decide (0 ≤ q) := by rw [decide_eq_decide]; exact Rat.num_nonneg
  unfold G_from_zero
  rwa [frac_ok]
  rw [e]
theorem checkN_ok {q : Rat} {i : D} {st : Store} : G_check_number [frD q, i] st = some (.ret (.val .non) st) := by
  unfold G_check_number
  rwa [frac_ok]
theorem half_floor (q : Rat) : (q + 1 / 2 : Rat).floor = (2 * q.num + q.den) / (2 * q.den) := by
  have hd2 : (0 : Int) < 2 * (q.den : Int) := by have := q.den_pos; omega
  have ez : ((1 : Rat) / 2) = Rat.divInt 1 2 := by rw [Rat.divInt_eq_div]; rfl
  have e0 : q + 1 / 2 = Rat.divInt (2 * q.num + q.den) (2 * q.den) := by
    conv => lhs; rw [← Rat.num_divInt_den q, ez]
    rw [Rat.divInt_add_divInt _ _ (by omega) (by decide)]
    congr 1 <;> omega
  have f1 : (((2 * q.num + q.den) / (2 * q.den) : Int) : Rat) ≤ q + 1 / 2 := by
    rw [e0, Rat.divInt_eq_div, ← Rat.not_lt, Rat.div_lt_iff (Rat.intCast_pos.mpr hd2), ← Rat.intCast_mul, Rat.intCast_lt_intCast]
    have := Int.ediv_mul_le (2 * q.num + q.den) (b := 2 * q.den) (by omega)
    omega
  have f2 : q + 1 / 2 < ((((2 * q.num + q.den) / (2 * q.den) + 1 : Int)) : Rat) := by
    rw [e0, Rat.divInt_eq_div, Rat.div_lt_iff (Rat.intCast_pos.mpr hd2), ← Rat.intCast_mul, Rat.intCast_lt_intCast]
    exact Int.lt_ediv_add_one_mul_self _ hd2
  have g1 := Rat.le_floor_iff.mpr f1
  have g2 := Rat.floor_lt_iff.mpr f2
  omega
theorem half_bd {k : Nat} {q : Rat} (h : Rb k q) : Bd (k + 2) (q + 1 / 2 : Rat).floor := by
  rw [half_floor]
  have h1 := h.1
  have hd : (0 : Int) < q.den := by have := q.den_pos; omega
  have a1 := Int.ediv_mul_le (2 * q.num + q.den) (b := 2 * q.den) (by omega)
  have a2 := Int.lt_ediv_add_one_mul_self (2 * q.num + q.den) (b := 2 * q.den) (by omega)
  generalize (2 * q.num + q.den) / (2 * (q.den : Int)) = f at *
  have m1 : f * (2 * (q.den : Int)) = 2 * (f * q.den) := by rw [Int.mul_left_comm]
  have m2 : (f + 1) * (2 * (q.den : Int)) = 2 * (f * q.den) + 2 * q.den := by rw [Int.add_mul, Int.mul_left_comm, Int.one_mul]
  have key : f.natAbs ≤ q.num.natAbs + 1 := by
    by_cases hf : 0 ≤ f
    · have : f ≤ f * q.den := by
        have := Int.mul_le_mul_of_nonneg_left (show (1 : Int) ≤ q.den by omega) hf
        omega
      by_cases hf1 : 1 ≤ f
      · have : (f - 1) ≤ (f - 1) * q.den := by
          have := Int.mul_le_mul_of_nonneg_left (show (1 : Int) ≤ q.den by omega) (show 0 ≤ f - 1 by omega)
          omega
        have e : (f - 1) * q.den = f * q.den - q.den := by rw [Int.sub_mul, Int.one_mul]
        omega
      · omega
    · have : (-f - 1) ≤ (-f - 1) * q.den := by
        have := Int.mul_le_mul_of_nonneg_left (show (1 : Int) ≤ q.den by omega) (show 0 ≤ -f - 1 by omega)
        omega
      have e : (-f - 1) * q.den = -(f * q.den) - q.den := by rw [Int.sub_mul, Int.one_mul, Int.neg_mul]
      omega
  unfold Bd at *
  rw [Nat.pow_add]
  omega
theorem halves_ok {q : Rat} {st : Store} (h : Rb 8000 q) : G_halves_up [frD q] st = some (.ret (.val (.int ((q + 1 / 2 : Rat).floor))) st) := by
  have hd : (0 : Int) < (q.den : Int) := by have := q.den_pos; omega
  have hd2 : (0 : Int) < 2 * (q.den : Int) := by omega
  have h1 := h.1
  have h2 := h.2
  unfold G_halves_up
  rwa []
  rw [half_floor]
theorem nearest_ok {q : Rat} {st : Store} (h : Rb 8000 q) : G_nearest_whole [frD q] st = some (.ret (.val (.int ((q + 1 / 2 : Rat).floor))) st) := by
  unfold G_nearest_whole
  rwa [checkN_ok, halves_ok h]
/-- a purse of at most k picks -/
structure Pu (k : Nat) (d : D) : Prop where
  ex : ∃ a b c : Int, d = .lst [.int a, .int b, .int c] ∧ 0 ≤ b ∧ 0 ≤ c ∧ c ≤ k
theorem purse_ok {i : Int} {st : Store} : ∃ d, G_law_purse [.int i] st = some (.ret (.val (.ref st.length)) (st ++ [d])) ∧ Pu 0 d := by
  have h0 : 0 ≤ i % 999999937 := Int.emod_nonneg _ (by decide)
  have h1 : i % 999999937 < 999999937 := Int.emod_lt_of_pos _ (by decide)
  have hb : Bd 64 (i % 999999937) := bd_rng h0 h1 (by decide)
  by_cases hi : 10 ^ 18 ≤ i
  · have hi' : (1000000000000000000 : Int) ≤ i := hi
    refine ⟨.lst [.int (i % 999999937 * 7001 + 3301), .int i, .int 0], ?_, ⟨_, _, _, rfl, by omega, by omega, by omega⟩⟩
    unfold G_law_purse
    rwa [decide_eq_true hi']
  · have hi' : ¬ (1000000000000000000 : Int) ≤ i := hi
    refine ⟨.lst [.int (i % 999999937 * 7001 + 3301), .int 0, .int 0], ?_, ⟨_, _, _, rfl, by omega, by omega, by omega⟩⟩
    unfold G_law_purse
    rwa [decide_eq_false hi']
theorem pick_ok {k : Nat} {m : Int} {d : D} {pre post : Store} (h : Pu k d) (hk : k < 2 ^ 60) (hm : 0 < m) (hm2 : Bd 8000 m) :
    ∃ t d', G_law_pick [.ref pre.length, .int m] (pre ++ d :: post) = some (.ret (.val (.int t)) (pre ++ d' :: post)) ∧ 0 ≤ t ∧ t < m ∧ Pu (k + 1) d' := by
  obtain ⟨a, b, c, rfl, h1, h2, h3⟩ := h
  have g0 : 0 ≤ a % 999999937 := Int.emod_nonneg _ (by decide)
  have g1 : a % 999999937 < 999999937 := Int.emod_lt_of_pos _ (by decide)
  have gb : Bd 64 (a % 999999937) := bd_rng g0 g1 (by decide)
  have q0 : 0 ≤ a % 999999937 % 50021 := Int.emod_nonneg _ (by decide)
  have q1 : a % 999999937 % 50021 < 50021 := Int.emod_lt_of_pos _ (by decide)
  have qb : Bd 64 (a % 999999937 % 50021) := bd_rng q0 q1 (by decide)
  have cb : Bd 64 (c + 1) := by
    unfold Bd
    have : (2 : Nat) ^ 60 = 1152921504606846976 := by decide
    have : (2 : Nat) ^ 64 = 18446744073709551616 := by decide
    omega
  by_cases hb : 0 < b
  · refine ⟨b % m, .lst [.int (a % 999999937 * (a % 999999937 % 50021 + 20011) + 90001 * (c + 1)), .int (b / m), .int (c + 1)], ?_, Int.emod_nonneg _ (by omega), Int.emod_lt_of_pos _ hm, ⟨_, _, _, rfl, Int.ediv_nonneg h1 (by omega), by omega, by omega⟩⟩
    unfold G_law_pick
    rwa [decide_eq_true hb]
  · refine ⟨(a % 999999937 * (a % 999999937 % 50021 + 20011) + 90001 * (c + 1)) % 999999937 / 16 % m, .lst [.int (a % 999999937 * (a % 999999937 % 50021 + 20011) + 90001 * (c + 1)), .int b, .int (c + 1)], ?_, Int.emod_nonneg _ (by omega), Int.emod_lt_of_pos _ hm, ⟨_, _, _, rfl, h1, by omega, by omega⟩⟩
    unfold G_law_pick
    rwa [decide_eq_false hb]
theorem cut_mem {α : Type} {xs : List α} {lo hi : Option Int} {x : α} (h : x ∈ cutD xs lo hi) : x ∈ xs := List.mem_of_mem_drop (List.mem_of_mem_take h)
theorem cell_ok {ns : List Int} {k : Nat} {st : Store} (hk : k < 1000) : ∃ c : Int, G_law_cell [scriptD ns, .int (k : Int)] st = some (.ret (.val (.int c)) st) := by
  have kb : Bd 64 (k : Int) := bd_rng (m := 1000) (by omega) (by omega) (by decide)
  by_cases h : k < ns.length
  · refine ⟨ns[k], ?_⟩
    have e : L2.atI (ns.map D.int) (k : Int) = some (.int ns[k]) := at_nat (by simp [h])
    have h' : (k : Int) < ((ns.map D.int).length : Int) := by simp; exact h
    unfold G_law_cell scriptD
    rwa [decide_eq_true h', e]
  · have h' : ¬ (k : Int) < ((ns.map D.int).length : Int) := by simp; omega
    have s0 : 0 ≤ 60013 * ((k : Int) * k + 7 * k + 3) % 999999937 := Int.emod_nonneg _ (by decide)
    have s1 : 60013 * ((k : Int) * k + 7 * k + 3) % 999999937 < 999999937 := Int.emod_lt_of_pos _ (by decide)
    obtain ⟨r2, st2, e, s, sl, rfl, rfl, q0, q1⟩ := forS_all (g := gVar 3) (b := sAsg (eOp2 modV (eOp2 addV (eOp2 mulV (eVar 2) (eC (.int 30103))) (eVar 3)) (eC (.int 999999937))) (gVar 2))
      (fun r st' => ∃ (s : Int) (sl : Sl), r = [.val (scriptD ns), .val (.int k), .val (.int s), sl] ∧ st' = st ∧ 0 ≤ s ∧ s < 999999937)
      (cutD (ns.map D.int) none (some 4)) [.val (scriptD ns), .val (.int k), .val (.int (60013 * ((k : Int) * k + 7 * k + 3) % 999999937)), .no] st ⟨_, _, rfl, rfl, s0, s1⟩
      (by
        rintro x r st' hx ⟨s, sl, rfl, rfl, q0, q1⟩
        obtain ⟨n, _, rfl⟩ := List.mem_map.mp (cut_mem hx)
        have sb : Bd 64 s := bd_rng q0 q1 (by decide)
        refine ⟨[.val (scriptD ns), .val (.int k), .val (.int s), .val (.int n)], _, [.val (scriptD ns), .val (.int k), .val (.int ((s * 30103 + n) % 999999937)), .val (.int n)], _, rfl, .inl ?_, ⟨_, _, rfl, rfl, Int.emod_nonneg _ (by decide), Int.emod_lt_of_pos _ (by decide)⟩⟩
        rwa [])
    refine ⟨s, ?_⟩
    unfold scriptD at e
    unfold G_law_cell scriptD
    rwa [decide_eq_false h', e]
theorem Bd.nat {k : Nat} {n : Nat} (h : n < 2 ^ k) : Bd k (n : Int) := by unfold Bd; omega
theorem bd_dbl {k N m : Nat} (hN : N < 2 ^ k) (hm : m ≤ 2 * N + 1) : Bd (k + 2) (m : Int) := by
  apply Bd.nat
  rw [Nat.pow_add]
  omega
section
variable {q : Rat} {st : Store}
theorem root_loop1 (h : Rb 2000 q) (hq : 0 ≤ q) : ∀ (f m : Nat) (a : D) (sl : Sl), 1 ≤ m → q.num.natAbs < m * 2 ^ f → m ≤ 2 * q.num.natAbs + 1 →
    ∃ m' : Nat, whileS (tBool (eOp2 ltV (eOp2 mulV (eOp2 mulV (eVar 2) (eVar 2)) (eOp2 ixV (eVar 0) (eC (.int 1)))) (eOp2 ixV (eVar 0) (eC (.int 0))))) (sAug imulV 2 (eC (.int 2))) [.val (frD q), .val a, .val (.int (m : Int)), sl] st = some (.nx [.val (frD q), .val a, .val (.int (m' : Int)), sl] st) ∧
      1 ≤ m' ∧ m' ≤ 2 * q.num.natAbs + 1 ∧ q.num ≤ (m' : Int) * m' * q.den := by
  have h1 := h.1
  have h2 := h.2
  have hn : 0 ≤ q.num := Rat.num_nonneg.mpr hq
  have hd : 0 < q.den := q.den_pos
  intro f
  induction f with
  | zero =>
    intro m a sl hm hf hb
    have mb := bd_dbl h1 hb
    have c : q.num ≤ (m : Int) * m * q.den := by
      have e1 : m ≤ m * m := Nat.le_mul_of_pos_left m hm
      have e2 : m * m ≤ m * m * q.den := Nat.le_mul_of_pos_right (m * m) hd
      have : ((m * m * q.den : Nat) : Int) = (m : Int) * m * q.den := by rw [Int.natCast_mul, Int.natCast_mul]
      omega
    refine ⟨m, whileS_false ?_, hm, hb, c⟩
    have c' : ¬ (m : Int) * m * q.den < q.num := by omega
    rwa [decide_eq_false c']
  | succ f ih =>
    intro m a sl hm hf hb
    have mb := bd_dbl h1 hb
    by_cases c : q.num ≤ (m : Int) * m * q.den
    · refine ⟨m, whileS_false ?_, hm, hb, c⟩
      have c' : ¬ (m : Int) * m * q.den < q.num := by omega
      rwa [decide_eq_false c']
    · have c' : (m : Int) * m * q.den < q.num := by omega
      have hle : m * 2 ≤ 2 * q.num.natAbs + 1 := by
        have e1 : m ≤ m * m := Nat.le_mul_of_pos_left m hm
        have e2 : m * m ≤ m * m * q.den := Nat.le_mul_of_pos_right (m * m) hd
        have : ((m * m * q.den : Nat) : Int) = (m : Int) * m * q.den := by rw [Int.natCast_mul, Int.natCast_mul]
        omega
      obtain ⟨m', e, g⟩ := ih (m * 2) a sl (by omega) (by rw [Nat.mul_assoc, ← Nat.pow_succ']; exact hf) hle
      refine ⟨m', ?_, g⟩
      rw [whileS_true (st1 := st) (r2 := [.val (frD q), .val a, .val (.int ((m * 2 : Nat) : Int)), sl]) (st2 := st) (by rwa [decide_eq_true c']) (by
        have e2 : ((m * 2 : Nat) : Int) = (m : Int) * 2 := by omega
        rw [e2]
        rwa [v_imulI (i := (m : Int)) (j := 2) (by decide) (by decide)])]
      exact e
theorem root_loop2 (h : Rb 2000 q) (hq : 0 ≤ q) : ∀ (f lo hi : Nat) (sl : Sl), hi - lo ≤ f → lo ≤ hi → hi ≤ 2 * q.num.natAbs + 1 → q.num ≤ (hi : Int) * hi * q.den → (lo = 0 ∨ ((lo : Int) - 1) * ((lo : Int) - 1) * q.den < q.num) →
    ∃ (r : Nat) (sl' : Sl), whileS (tBool (eOp2 ltV (eVar 1) (eVar 2))) (sSeq (sAsg (eOp2 divV (eOp2 addV (eVar 1) (eVar 2)) (eC (.int 2))) (gVar 3)) (sIf (tBool (eOp2 ltV (eOp2 mulV (eOp2 mulV (eVar 3) (eVar 3)) (eOp2 ixV (eVar 0) (eC (.int 1)))) (eOp2 ixV (eVar 0) (eC (.int 0))))) (sAsg (eOp2 addV (eVar 3) (eC (.int 1))) (gVar 1)) (sAsg (eVar 3) (gVar 2))))
      [.val (frD q), .val (.int (lo : Int)), .val (.int (hi : Int)), sl] st = some (.nx [.val (frD q), .val (.int (r : Int)), .val (.int (r : Int)), sl'] st) ∧
      r ≤ 2 * q.num.natAbs + 1 ∧ q.num ≤ (r : Int) * r * q.den ∧ (r = 0 ∨ ((r : Int) - 1) * ((r : Int) - 1) * q.den < q.num) := by
  have h1 := h.1
  have h2 := h.2
  intro f
  induction f with
  | zero =>
    intro lo hi sl hf hl hb c1 c2
    have e : lo = hi := by omega
    subst e
    refine ⟨lo, sl, whileS_false ?_, hb, c1, c2⟩
    have c' : ¬ (lo : Int) < lo := by omega
    rwa [decide_eq_false c']
  | succ f ih =>
    intro lo hi sl hf hl hb c1 c2
    by_cases e : lo = hi
    · subst e
      refine ⟨lo, sl, whileS_false ?_, hb, c1, c2⟩
      have c' : ¬ (lo : Int) < lo := by omega
      rwa [decide_eq_false c']
    · have hlt : (lo : Int) < hi := by omega
      have em : ((lo : Int) + hi) / 2 = (((lo + hi) / 2 : Nat) : Int) := by omega
      have mb : Bd 2002 ((((lo + hi) / 2 : Nat)) : Int) := bd_dbl h1 (by omega)
      by_cases c : q.num ≤ (((lo + hi) / 2 : Nat) : Int) * (((lo + hi) / 2 : Nat) : Int) * q.den
      · have c' : ¬ (((lo + hi) / 2 : Nat) : Int) * (((lo + hi) / 2 : Nat) : Int) * q.den < q.num := by omega
        obtain ⟨r, sl', e2, g⟩ := ih lo ((lo + hi) / 2) (.val (.int (((lo + hi) / 2 : Nat) : Int))) (by omega) (by omega) (by omega) c c2
        refine ⟨r, sl', ?_, g⟩
        rw [whileS_true (st1 := st) (r2 := [.val (frD q), .val (.int (lo : Int)), .val (.int (((lo + hi) / 2 : Nat) : Int)), .val (.int (((lo + hi) / 2 : Nat) : Int))]) (st2 := st) (by rwa [decide_eq_true hlt]) (by rwa [em, decide_eq_false c'])]
        exact e2
      · have c' : (((lo + hi) / 2 : Nat) : Int) * (((lo + hi) / 2 : Nat) : Int) * q.den < q.num := by omega
        have e3 : ((((lo + hi) / 2 : Nat) : Int) + 1) = (((lo + hi) / 2 + 1 : Nat) : Int) := by omega
        obtain ⟨r, sl', e2, g⟩ := ih ((lo + hi) / 2 + 1) hi (.val (.int (((lo + hi) / 2 : Nat) : Int))) (by omega) (by omega) hb c1 (.inr (by
          have : (((lo + hi) / 2 + 1 : Nat) : Int) - 1 = (((lo + hi) / 2 : Nat) : Int) := by omega
          rw [this]
          exact c'))
        refine ⟨r, sl', ?_, g⟩
        rw [whileS_true (st1 := st) (r2 := [.val (frD q), .val (.int (((lo + hi) / 2 + 1 : Nat) : Int)), .val (.int (hi : Int)), .val (.int (((lo + hi) / 2 : Nat) : Int))]) (st2 := st) (by rwa [decide_eq_true hlt]) (by rwa [em, decide_eq_true c', e3])]
        exact e2
/-- the root told -/
theorem root_ok (h : Rb 2000 q) (hq : 0 ≤ q) : ∃ r : Nat, (∀ st, G_root_above [frD q] st = some (.ret (.val (.int (r : Int))) st)) ∧ Bd 2002 (r : Int) ∧ q.num ≤ (r : Int) * r * q.den ∧ (r = 0 ∨ ((r : Int) - 1) * ((r : Int) - 1) * q.den < q.num) := by
  have key : ∀ st : Store, ∃ r : Nat, G_root_above [frD q] st = some (.ret (.val (.int (r : Int))) st) ∧ Bd 2002 (r : Int) ∧ q.num ≤ (r : Int) * r * q.den ∧ (r = 0 ∨ ((r : Int) - 1) * ((r : Int) - 1) * q.den < q.num) := by
    intro st
    obtain ⟨m, e1, g1, g2, g3⟩ := root_loop1 (st := st) h hq 2000 1 (.int 0) .no (Nat.le_refl 1) (by
      rw [Nat.one_mul]
      exact h.1) (by omega)
    obtain ⟨r, sl', e2, g4, g5, g6⟩ := root_loop2 (st := st) h hq m 0 m .no (by omega) (by omega) g2 g3 (.inl rfl)
    refine ⟨r, ?_, bd_dbl h.1 g4, g5, g6⟩
    rw [show ((1 : Nat) : Int) = 1 from rfl] at e1
    rw [show ((0 : Nat) : Int) = 0 from rfl] at e2
    unfold G_root_above
    rwa [frac0_ok, decide_eq_true hq, e1, e2]
  obtain ⟨r, e, g1, g2, g3⟩ := key []
  refine ⟨r, fun st => ?_, g1, g2, g3⟩
  obtain ⟨r', e', g1', g2', g3'⟩ := key st
  have : r' = r := by
    have hd : (0 : Int) < q.den := by have := q.den_pos; omega
    have mono : ∀ a b : Nat, a < b → (a : Int) * a * q.den ≤ ((b : Int) - 1) * ((b : Int) - 1) * q.den := by
      intro a b hab
      have h1 : (a : Int) ≤ (b : Int) - 1 := by omega
      have h2 : (a : Int) * a ≤ ((b : Int) - 1) * ((b : Int) - 1) := Int.mul_le_mul h1 h1 (by omega) (by omega)
      exact Int.mul_le_mul_of_nonneg_right h2 (Int.le_of_lt hd)
    rcases Nat.lt_trichotomy r' r with z | z | z
    · have := mono r' r z
      rcases g3 with g3 | g3 <;> omega
    · exact z
    · have := mono r r' z
      rcases g3' with g3' | g3' <;> omega
  rw [e', this]
end
end Tz

set_option Elab.async false
set_option linter.all false
set_option maxRecDepth 100000
set_option maxHeartbeats 4000000
namespace Tz
open PySem L2 PyProof.Rows
def topS (i : Nat) : Stmt := (PySem.Challenge.pw_lightshares_k02_halves_and_roots.main.body).getD i (.Pass ⟨0, 0, 0, 0⟩)
noncomputable def G_law_number : FSem := fnS 2
  (sSeq (sAsg (eOp2 ixV (eLst (argsS [(eC (.int 1)), (eC (.int 1)), (eOp2 powV (eC (.int 10)) (eC (.int 9))), (eOp2 powV (eC (.int 10)) (eC (.int 20)))])) (eCall G_law_pick (argsS [(eVar 0), (eC (.int 4))]))) (gVar 1)) (sRet (eOp2 addV (eOp2 mulV (eCall G_law_pick (argsS [(eVar 0), (eOp2 ixV (eLst (argsS [(eC (.int 10)), (eOp2 powV (eC (.int 10)) (eC (.int 9)))])) (eCall G_law_pick (argsS [(eVar 0), (eC (.int 2))])))])) (eVar 1)) (eCall G_law_pick (argsS [(eVar 0), (eC (.int 3))])))))
noncomputable def G_law_near_right : FSem := fnS 4
  (sSeq (sAsg (eVar 0) (gTupS [(gVar 1), (gVar 2)])) (sSeq (sFor (iExp (eLst (argsS [(eCall G_nearest_whole (argsS [(eVar 0)])), (eCall G_nearest_whole (argsS [(eVar 0)]))]))) (gVar 3) (sIf (tOrS (tNotS (tVal (eCall G_is_whole (argsS [(eVar 3)])))) (tNotS (tBool (eChain leV ltV (eOp2 subV (eC (.int 0)) (eVar 2)) (eOp2 mulV (eC (.int 2)) (eOp2 subV (eVar 1) (eOp2 mulV (eVar 3) (eVar 2)))) (eVar 2))))) (sRet (eC (.bl false))) sNext)) (sRet (eC (.bl true)))))
noncomputable def G_law_root_right : FSem := fnS 4
  (sSeq (sAsg (eVar 0) (gTupS [(gVar 1), (gVar 2)])) (sSeq (sFor (iExp (eLst (argsS [(eCall G_root_above (argsS [(eVar 0)])), (eCall G_root_above (argsS [(eVar 0)])), (eCall G_root_above (argsS [(eVar 0)]))]))) (gVar 3) (sSeq (sIf (tOrS (tNotS (tVal (eCall G_is_whole (argsS [(eVar 3)])))) (tOrS (tBool (eOp2 ltV (eVar 3) (eC (.int 0)))) (tBool (eOp2 ltV (eOp2 mulV (eOp2 mulV (eVar 3) (eVar 3)) (eVar 2)) (eVar 1))))) (sRet (eC (.bl false))) sNext) (sIf (tAndS (tBool (eOp2 gtV (eVar 3) (eC (.int 0)))) (tBool (eOp2 geV (eOp2 mulV (eOp2 mulV (eOp2 subV (eVar 3) (eC (.int 1))) (eOp2 subV (eVar 3) (eC (.int 1)))) (eVar 2)) (eVar 1)))) (sRet (eC (.bl false))) sNext))) (sRet (eC (.bl true)))))
noncomputable def G_law : FSem := fnS 10
  (sSeq (sFor (iRange1 (eOp2 max2V (eC (.int 2)) (eOp2 min2V (eC (.int 6)) (eOp1 lenV (eVar 0))))) (gVar 1) (sSeq (sAsg (eCall G_law_purse (argsS [(eCall G_law_cell (argsS [(eVar 0), (eVar 1)]))])) (gVar 2)) (sSeq (sPar2 3 4 (eCall G_law_number (argsS [(eVar 2)])) (eCall G_law_number (argsS [(eVar 2)]))) (sSeq (sAsg (eOp2 addV (eC (.int 1)) (eCall G_law_number (argsS [(eVar 2)]))) (gVar 5)) (sSeq (sAsg (eOp2 addV (eC (.int 1)) (eCall G_law_pick (argsS [(eVar 2), (eC (.int 9))]))) (gVar 6)) (sSeq (sAsg (eLst (argsS [(eTup (argsS [(eVar 4), (eVar 5)])), (eTup (argsS [(eOp2 addV (eOp2 mulV (eC (.int 2)) (eVar 3)) (eC (.int 1))), (eC (.int 2))])), (eTup (argsS [(eOp2 addV (eOp2 mulV (eC (.int 4)) (eVar 3)) (eC (.int 1))), (eC (.int 4))])), (eTup (argsS [(eOp2 addV (eOp2 mulV (eC (.int 4)) (eVar 3)) (eC (.int 3))), (eC (.int 4))])), (eTup (argsS [(eVar 3), (eC (.int 1))])), (eTup (argsS [(eC (.int 0)), (eC (.int 1))]))])) (gVar 7)) (sSeq (sAsg (eOp2 addV (eVar 7) (eLst (argsS [(eTup (argsS [(eOp2 mulV (eVar 3) (eVar 3)), (eC (.int 1))])), (eTup (argsS [(eOp2 addV (eOp2 mulV (eVar 3) (eVar 3)) (eVar 6)), (eC (.int 1))])), (eTup (argsS [(eOp1 absV (eOp2 subV (eOp2 mulV (eVar 3) (eVar 3)) (eVar 6))), (eC (.int 1))]))]))) (gVar 7)) (sSeq (sAsg (eOp2 addV (eVar 7) (eLst (argsS [(eTup (argsS [(eOp2 mulV (eVar 4) (eVar 4)), (eOp2 mulV (eVar 5) (eVar 5))])), (eTup (argsS [(eOp2 addV (eOp2 mulV (eVar 4) (eVar 4)) (eC (.int 1))), (eOp2 mulV (eVar 5) (eVar 5))]))]))) (gVar 7)) (sSeq (sAsg (eOp2 addV (eVar 7) (eLst (argsS [(eTup (argsS [(eOp2 addV (eOp2 mulV (eOp2 mulV (eC (.int 2)) (eVar 3)) (eVar 5)) (eVar 5)), (eOp2 mulV (eC (.int 2)) (eVar 5))]))]))) (gVar 7)) (sSeq (sAsg (eOp2 addV (eVar 7) (eLst (argsS [(eTup (argsS [(eOp2 addV (eOp2 mulV (eOp2 addV (eOp2 mulV (eC (.int 2)) (eVar 3)) (eC (.int 1))) (eVar 5)) (eC (.int 1))), (eOp2 mulV (eC (.int 2)) (eVar 5))]))]))) (gVar 7)) (sSeq (sAsg (eOp2 addV (eVar 7) (eLst (argsS [(eTup (argsS [(eOp1 absV (eOp2 subV (eOp2 mulV (eOp2 addV (eOp2 mulV (eC (.int 2)) (eVar 3)) (eC (.int 1))) (eVar 5)) (eC (.int 1)))), (eOp2 mulV (eC (.int 2)) (eVar 5))]))]))) (gVar 7)) (sFor (iExp (eOp2 addV (eVar 7) (eLst (argsS [(eTup (argsS [(eCall G_law_pick (argsS [(eVar 2), (eC (.int 40))])), (eOp2 addV (eC (.int 1)) (eCall G_law_pick (argsS [(eVar 2), (eC (.int 12))])))]))])))) (gVar 8) (sSeq (sAsg (eCall G_law_low (argsS [(eOp2 ixV (eVar 8) (eC (.int 0))), (eOp2 ixV (eVar 8) (eC (.int 1)))])) (gVar 9)) (sIf (tOrS (tNotS (tVal (eCall G_law_near_right (argsS [(eVar 9)])))) (tOrS (tNotS (tVal (eCall G_law_near_right (argsS [(eTup (argsS [(eOp2 subV (eC (.int 0)) (eOp2 ixV (eVar 9) (eC (.int 0)))), (eOp2 ixV (eVar 9) (eC (.int 1)))]))])))) (tNotS (tVal (eCall G_law_root_right (argsS [(eVar 9)])))))) (sRet (eC (.bl false))) sNext)))))))))))))) (sRet (eC (.bl true))))
end Tz

set_option Elab.async false
set_option linter.all false
set_option maxRecDepth 100000
set_option maxHeartbeats 400000
namespace Tz
open PySem L2 PyProof.Rows
theorem number_ok {k : Nat} {d : D} {pre post : Store} (h : Pu k d) (hk : k < 1000) :
    ∃ n d', G_law_number [.ref pre.length] (pre ++ d :: post) = some (.ret (.val (.int n)) (pre ++ d' :: post)) ∧ 0 ≤ n ∧ Bd 150 n ∧ Pu (k + 4) d' := by
  obtain ⟨t1, d1, e1, a1, b1, p1⟩ := pick_ok (pre := pre) (post := post) (m := 4) h (by omega) (by decide) (bd_lit (by decide))
  obtain ⟨t2, d2, e2, a2, b2, p2⟩ := pick_ok (pre := pre) (post := post) (m := 2) p1 (by omega) (by decide) (bd_lit (by decide))
  obtain ⟨s, es, s0, sb⟩ : ∃ s : Int, L2.atI [D.int 1, D.int 1, D.int 1000000000, D.int 100000000000000000000] t1 = some (.int s) ∧ 0 ≤ s ∧ Bd 70 s := by
    obtain rfl | rfl | rfl | rfl : t1 = 0 ∨ t1 = 1 ∨ t1 = 2 ∨ t1 = 3 := by omega
    · exact ⟨_, at_0, by decide, bd_lit (by decide)⟩
    · exact ⟨_, at_1, by decide, bd_lit (by decide)⟩
    · exact ⟨_, at_2, by decide, bd_lit (by decide)⟩
    · exact ⟨_, at_3, by decide, bd_lit (by decide)⟩
  obtain ⟨m, em, m0, mb, mb2⟩ : ∃ m : Int, L2.atI [D.int 10, D.int 1000000000] t2 = some (.int m) ∧ 0 < m ∧ m ≤ 1000000000 ∧ Bd 8000 m := by
    obtain rfl | rfl : t2 = 0 ∨ t2 = 1 := by omega
    · exact ⟨_, at_0, by decide, by decide, bd_lit (by decide)⟩
    · exact ⟨_, at_1, by decide, by decide, bd_lit (by decide)⟩
  obtain ⟨t3, d3, e3, a3, b3, p3⟩ := pick_ok (pre := pre) (post := post) (m := m) p2 (by omega) m0 mb2
  obtain ⟨t4, d4, e4, a4, b4, p4⟩ := pick_ok (pre := pre) (post := post) (m := 3) p3 (by omega) (by decide) (bd_lit (by decide))
  have c3 : Bd 64 t3 := bd_rng (m := 1000000001) a3 (by omega) (by decide)
  have c4 : Bd 64 t4 := bd_rng (m := 3) a4 (by omega) (by decide)
  refine ⟨t3 * s + t4, d4, ?_, ?_, ?_, p4⟩
  · unfold G_law_number
    rwa [e1, e2, e3, e4, es, em]
  · have := Int.mul_nonneg a3 s0
    omega
  · have : Bd (max (64 + 70) 64 + 1) (t3 * s + t4) := by decreasing_trivial
    exact this.mono (by decide)
section
variable {q : Rat} {st : Store}
theorem half_facts (q : Rat) : (q + 1 / 2).floor * (2 * q.den) ≤ 2 * q.num + q.den ∧ 2 * q.num + q.den < ((q + 1 / 2).floor + 1) * (2 * q.den) := by
  have hd : (0 : Int) < 2 * (q.den : Int) := by have := q.den_pos; omega
  rw [half_floor]
  exact ⟨Int.ediv_mul_le _ (by omega), Int.lt_ediv_add_one_mul_self _ hd⟩
theorem near_right_ok (h : Rb 1000 q) : G_law_near_right [frD q] st = some (.ret (.val (.bl true)) st) := by
  obtain ⟨f1, f2⟩ := half_facts q
  have h1 := h.1
  have h2 := h.2
  have hd : 0 < (q.den : Int) := by have := q.den_pos; omega
  have fb : Bd 1002 (q + 1 / 2).floor := half_bd h
  have c1 : 0 - (q.den : Int) ≤ 2 * (q.num - (q + 1 / 2).floor * q.den) := by
    generalize (q + 1 / 2).floor = f at *
    have : f * (2 * (q.den : Int)) = 2 * (f * q.den) := by rw [Int.mul_left_comm]
    omega
  have c2 : 2 * (q.num - (q + 1 / 2).floor * q.den) < q.den := by
    generalize (q + 1 / 2).floor = f at *
    have : (f + 1) * (2 * (q.den : Int)) = 2 * (f * q.den) + 2 * q.den := by rw [Int.add_mul, Int.mul_left_comm, Int.one_mul]
    omega
  have h8 := h.mono (b := 8000) (by decide)
  unfold G_law_near_right
  rwa [nearest_ok h8, whole_int, decide_eq_true c1, decide_eq_true c2]
theorem root_right_ok (h : Rb 1000 q) (hq : 0 ≤ q) : G_law_root_right [frD q] st = some (.ret (.val (.bl true)) st) := by
  obtain ⟨r, e, rb, g1, g2⟩ := root_ok (h.mono (b := 2000) (by decide)) hq
  have h1 := h.1
  have h2 := h.2
  have c1 : ¬ ((r : Int) < 0) := by omega
  have c2 : ¬ ((r : Int) * r * q.den < q.num) := by omega
  have h8 := h.mono (b := 8000) (by decide)
  unfold G_law_root_right
  by_cases h0 : 0 < (r : Int)
  · have c3 : ¬ (q.num ≤ ((r : Int) - 1) * ((r : Int) - 1) * q.den) := by
      rcases g2 with z | z <;> omega
    rwa [e, whole_int, decide_eq_false c1, decide_eq_false c2, decide_eq_true h0, decide_eq_false c3]
  · rwa [e, whole_int, decide_eq_false c1, decide_eq_false c2, decide_eq_false h0]
end
/-- what the turns are asked for: fractions from 0 on, of few figures -/
def Fit (x : D) : Prop := ∃ a b : Int, x = .tup [.int a, .int b] ∧ 0 ≤ a ∧ 0 < b ∧ Bd 900 a ∧ Bd 900 b
theorem turn_ok {x : D} {s0 s1 s2 s3 s4 s5 s6 s7 s8 s9 : Sl} {st : Store} (h : Fit x) : ∃ s8' s9', (sSeq (sAsg (eCall G_law_low (argsS [(eOp2 ixV (eVar 8) (eC (.int 0))), (eOp2 ixV (eVar 8) (eC (.int 1)))])) (gVar 9)) (sIf (tOrS (tNotS (tVal (eCall G_law_near_right (argsS [(eVar 9)])))) (tOrS (tNotS (tVal (eCall G_law_near_right (argsS [(eTup (argsS [(eOp2 subV (eC (.int 0)) (eOp2 ixV (eVar 9) (eC (.int 0)))), (eOp2 ixV (eVar 9) (eC (.int 1)))]))])))) (tNotS (tVal (eCall G_law_root_right (argsS [(eVar 9)])))))) (sRet (eC (.bl false))) sNext)) [s0, s1, s2, s3, s4, s5, s6, s7, .val x, s9] st = some (.nx [s0, s1, s2, s3, s4, s5, s6, s7, s8', s9'] st) := by
  obtain ⟨a, b, rfl, h0, h1, h2, h3⟩ := h
  have r := (rb_div h1 h2 h3).mono (b := 1000) (by decide)
  have r0 : 0 ≤ Rat.divInt a b := Rat.divInt_nonneg h0 (by omega)
  have g2 := h2.mono (b := 8000) (by decide)
  have g3 := h3.mono (b := 8000) (by decide)
  refine ⟨.val (.tup [.int a, .int b]), .val (frD (Rat.divInt a b)), ?_⟩
  rwa [low_ok (by omega) g2 g3, near_right_ok r, near_right_ok r.neg, root_right_ok r r0, frD_neg]
theorem main_true (ns : List Int) (hl : ns.length ≤ 63) (hb : ∀ z ∈ ns, PySem.Builtin.Int.intBits z ≤ 1048576) : ∃ st, G_law [scriptD ns] [] = some (.ret (.val (.bl true)) st) := by
  have hlen : ((((ns.map D.int).length : Nat)) : Int) ≤ 63 := by simp; omega
  have key : ∃ v st1, G_law [scriptD ns] [] = some (.ret v st1) ∧ v = .val (.bl true) := by
    unfold G_law
    refine fn_sw (P := fun v _ => v = .val (.bl true)) ?_
    have e0 : slots0 10 [scriptD ns] = [.val (scriptD ns), .no, .no, .no, .no, .no, .no, .no, .no, .no] := rfl
    rw [e0]
    refine sw_seq (sw_for (fun r _ => ∃ s1 s2 s3 s4 s5 s6 s7 s8 s9, r = [.val (scriptD ns), s1, s2, s3, s4, s5, s6, s7, s8, s9])
      (xs := (List.range (max 2 (min 6 (((ns.map D.int).length : Nat) : Int))).toNat).map fun i : Nat => D.int (0 + i)) (st1 := []) ?_ ⟨_, _, _, _, _, _, _, _, _, rfl⟩ ?_ ?_)
    · unfold scriptD
      rwa []
    · rintro x r st hx ⟨s1, s2, s3, s4, s5, s6, s7, s8, s9, rfl⟩
      obtain ⟨i, hi, rfl⟩ := List.mem_map.mp hx
      have hi6 : i < 1000 := by have := List.mem_range.mp hi; omega
      obtain ⟨c, e1⟩ := cell_ok (ns := ns) (st := st) hi6
      obtain ⟨d0, e2, p0⟩ := purse_ok (i := c) (st := st)
      obtain ⟨n, d1, e3, n0, nb, p1⟩ := number_ok (pre := st) (post := []) p0 (by omega)
      obtain ⟨m, d2, e4, m0, mb, p2⟩ := number_ok (pre := st) (post := []) p1 (by omega)
      obtain ⟨b, d3, e5, b0, bb, p3⟩ := number_ok (pre := st) (post := []) p2 (by omega)
      obtain ⟨t, d4, e6, t0, t1, p4⟩ := pick_ok (pre := st) (post := []) (m := 9) p3 (by omega) (by decide) (bd_lit (by decide))
      obtain ⟨u, d5, e7, u0, u1, p5⟩ := pick_ok (pre := st) (post := []) (m := 40) p4 (by omega) (by decide) (bd_lit (by decide))
      obtain ⟨w, d6, e8, w0, w1, p6⟩ := pick_ok (pre := st) (post := []) (m := 12) p5 (by omega) (by decide) (bd_lit (by decide))
      have tb : Bd 64 t := bd_rng t0 t1 (by decide)
      have ub : Bd 64 u := bd_rng u0 u1 (by decide)
      have wb : Bd 64 w := bd_rng w0 w1 (by decide)
      refine ⟨_, _, rfl, ?_⟩
      refine sw_step (by rwa [Int.zero_add, e1, e2]; rfl) ?_
      refine sw_step (by rwa [e3, e4]; rfl) ?_
      refine sw_step (by rwa [e5]; rfl) ?_
      refine sw_step (by rwa [e6]; rfl) ?_
      refine sw_step (by rwa []; rfl) ?_
      refine sw_step (by rwa []; rfl) ?_
      refine sw_step (by rwa []; rfl) ?_
      refine sw_step (by rwa []; rfl) ?_
      refine sw_step (by rwa []; rfl) ?_
      refine sw_step (by rwa []; rfl) ?_
      refine sw_for (fun r st' => ∃ s0 s1 s2 s3 s4 s5 s6 s7 s8 s9, r = [s0, s1, s2, s3, s4, s5, s6, s7, s8, s9] ∧ s0 = .val (scriptD ns)) (by rwa [e7, e8]; rfl) ⟨_, _, _, _, _, _, _, _, _, _, rfl, rfl⟩ ?_ ?_
      · rintro x r st' hx ⟨s0, s1, s2, s3, s4, s5, s6, s7, s8, s9, rfl, hs⟩
        have hx : Fit x := by
          simp only [List.mem_cons, List.not_mem_nil, or_false] at hx
          have nn := Int.mul_nonneg n0 n0
          have mm := Int.mul_nonneg m0 m0
          have b1 : 0 < (1 + b) * (1 + b) := Int.mul_pos (by omega) (by omega)
          have nb1 : 0 ≤ 2 * n * (1 + b) := Int.mul_nonneg (by omega) (by omega)
          have nb2 : 0 ≤ (2 * n + 1) * (1 + b) := Int.mul_nonneg (by omega) (by omega)
          have fit : ∀ {a b : Int}, 0 ≤ a → 0 < b → Bd 900 a → Bd 900 b → Fit (.tup [.int a, .int b]) := fun h1 h2 h3 h4 => ⟨_, _, rfl, h1, h2, h3, h4⟩
          have sz : ∀ {k : Nat} {i : Int}, Bd k i → decide (k ≤ 900) = true → Bd 900 i := fun h1 h2 => h1.mono (of_decide_eq_true h2)
          rcases hx with rfl | rfl | rfl | rfl | rfl | rfl | rfl | rfl | rfl | rfl | rfl | rfl | rfl | rfl | rfl <;>
            exact fit (by omega) (by omega) (sz (by decreasing_trivial) (by decide)) (sz (by decreasing_trivial) (by decide))
        obtain ⟨s8', s9', e⟩ := turn_ok (s0 := s0) (s1 := s1) (s2 := s2) (s3 := s3) (s4 := s4) (s5 := s5) (s6 := s6) (s7 := s7) (s8 := s8) (s9 := s9) (st := st') hx
        exact ⟨_, _, rfl, sw_eq e ⟨_, _, _, _, _, _, _, _, _, _, rfl, hs⟩⟩
      · rintro r2 st2 ⟨s0, s1, s2, s3, s4, s5, s6, s7, s8, s9, rfl, rfl⟩
        exact ⟨_, _, _, _, _, _, _, _, _, rfl⟩
    · rintro r2 st2 ⟨s1, s2, s3, s4, s5, s6, s7, s8, s9, rfl⟩
      exact sw_eq (o := .rt (.val (.bl true)) st2) (by rwa []) rfl
  obtain ⟨v, st1, e, rfl⟩ := key
  exact ⟨st1, e⟩
end Tz

set_option Elab.async false
set_option linter.all false
set_option maxRecDepth 100000
set_option maxHeartbeats 4000000
namespace Tz
open PySem L2 PyProof.Rows
def s_law_purse : Stmt := topS 14
def N_law_purse : List Str := ["_law_cell_here"]
noncomputable def c_law_purse : Cfg := { N := N_law_purse, sc := defScope s_law_purse, calls := [], consts := [], blt := ["int"], box := true }
def w_law_purse : List Str := []
theorem b_law_purse : fnS 1 (denSs 60 c_law_purse w_law_purse (defBody s_law_purse)) = G_law_purse := by kernel_rfl
theorem sc_law_purse : FnScope N_law_purse ["_law_cell_here"] (defScope s_law_purse) := ⟨rfl, rfl, rfl, by decide +kernel, rfl, by decide +kernel, by decide +kernel⟩
def s_law_cell : Stmt := topS 13
def N_law_cell : List Str := ["_law_script", "_law_k", "_law_state", "_law_cell_here"]
noncomputable def c_law_cell : Cfg := { N := N_law_cell, sc := defScope s_law_cell, calls := [], consts := [], blt := ["len"] }
def w_law_cell : List Str := []
theorem b_law_cell : fnS 4 (denSs 60 c_law_cell w_law_cell (defBody s_law_cell)) = G_law_cell := by kernel_rfl
theorem sc_law_cell : FnScope N_law_cell ["_law_script", "_law_k"] (defScope s_law_cell) := ⟨rfl, rfl, rfl, by decide +kernel, rfl, by decide +kernel, by decide +kernel⟩
def s_law_pick : Stmt := topS 15
def N_law_pick : List Str := ["_law_purse_here", "_law_many", "_law_state", "_law_taken"]
noncomputable def c_law_pick : Cfg := { N := N_law_pick, sc := defScope s_law_pick, calls := [], consts := [], blt := [] }
def w_law_pick : List Str := []
theorem b_law_pick : fnS 4 (denSs 60 c_law_pick w_law_pick (defBody s_law_pick)) = G_law_pick := by kernel_rfl
theorem sc_law_pick : FnScope N_law_pick ["_law_purse_here", "_law_many"] (defScope s_law_pick) := ⟨rfl, rfl, rfl, by decide +kernel, rfl, by decide +kernel, by decide +kernel⟩
def s_law_number : Stmt := topS 18
def N_law_number : List Str := ["_law_purse_here", "_law_scale"]
noncomputable def c_law_number : Cfg := { N := N_law_number, sc := defScope s_law_number, calls := [(("_law_pick", 2, []), G_law_pick)], consts := [], blt := [] }
def w_law_number : List Str := []
theorem b_law_number : fnS 2 (denSs 60 c_law_number w_law_number (defBody s_law_number)) = G_law_number := by kernel_rfl
theorem sc_law_number : FnScope N_law_number ["_law_purse_here"] (defScope s_law_number) := ⟨rfl, rfl, rfl, by decide +kernel, rfl, by decide +kernel, by decide +kernel⟩
def s_law_low : Stmt := topS 17
def N_law_low : List Str := ["_law_top", "_law_bottom", "_law_first", "_law_second"]
noncomputable def c_law_low : Cfg := { N := N_law_low, sc := defScope s_law_low, calls := [], consts := [], blt := ["abs"] }
def w_law_low : List Str := []
theorem b_law_low : fnS 4 (denSs 60 c_law_low w_law_low (defBody s_law_low)) = G_law_low := by kernel_rfl
theorem sc_law_low : FnScope N_law_low ["_law_top", "_law_bottom"] (defScope s_law_low) := ⟨rfl, rfl, rfl, by decide +kernel, rfl, by decide +kernel, by decide +kernel⟩
def s_is_whole : Stmt := topS 4
def N_is_whole : List Str := ["thing"]
noncomputable def c_is_whole : Cfg := { N := N_is_whole, sc := defScope s_is_whole, calls := [], consts := [], blt := ["isinstance", "int", "bool"] }
def w_is_whole : List Str := []
theorem b_is_whole : fnS 1 (denSs 60 c_is_whole w_is_whole (defBody s_is_whole)) = G_is_whole := by kernel_rfl
theorem sc_is_whole : FnScope N_is_whole ["thing"] (defScope s_is_whole) := ⟨rfl, rfl, rfl, by decide +kernel, rfl, by decide +kernel, by decide +kernel⟩
def s_share_of : Stmt := topS 5
def N_share_of : List Str := ["one", "other"]
noncomputable def c_share_of : Cfg := { N := N_share_of, sc := defScope s_share_of, calls := [], consts := [], blt := [] }
def w_share_of : List Str := []
theorem b_share_of : fnS 2 (denSs 60 c_share_of w_share_of (defBody s_share_of)) = G_share_of := by kernel_rfl
theorem sc_share_of : FnScope N_share_of ["one", "other"] (defScope s_share_of) := ⟨rfl, rfl, rfl, by decide +kernel, rfl, by decide +kernel, by decide +kernel⟩
def s_is_fraction : Stmt := topS 6
def N_is_fraction : List Str := ["thing", "part"]
noncomputable def c_is_fraction : Cfg := { N := N_is_fraction, sc := defScope s_is_fraction, calls := [(("is_whole", 1, []), G_is_whole), (("share_of", 2, []), G_share_of)], consts := [], blt := ["isinstance", "tuple", "len", "all", "abs"] }
def w_is_fraction : List Str := []
theorem b_is_fraction : fnS 2 (denSs 60 c_is_fraction w_is_fraction (defBody s_is_fraction)) = G_is_fraction := by kernel_rfl
theorem sc_is_fraction : FnScope N_is_fraction ["thing"] (defScope s_is_fraction) := ⟨rfl, rfl, rfl, by decide +kernel, rfl, by decide +kernel, by decide +kernel⟩
def s_check_number : Stmt := topS 9
def N_check_number : List Str := ["thing", "place"]
noncomputable def c_check_number : Cfg := { N := N_check_number, sc := defScope s_check_number, calls := [(("is_fraction", 1, []), G_is_fraction)], consts := [], blt := [] }
def w_check_number : List Str := []
theorem b_check_number : fnS 2 (denSs 60 c_check_number w_check_number (defBody s_check_number)) = G_check_number := by kernel_rfl
theorem sc_check_number : FnScope N_check_number ["thing", "place"] (defScope s_check_number) := ⟨rfl, rfl, rfl, by decide +kernel, rfl, by decide +kernel, by decide +kernel⟩
def s_halves_up : Stmt := topS 8
def N_halves_up : List Str := ["a"]
noncomputable def c_halves_up : Cfg := { N := N_halves_up, sc := defScope s_halves_up, calls := [], consts := [], blt := [] }
def w_halves_up : List Str := []
theorem b_halves_up : fnS 1 (denSs 60 c_halves_up w_halves_up (defBody s_halves_up)) = G_halves_up := by kernel_rfl
theorem sc_halves_up : FnScope N_halves_up ["a"] (defScope s_halves_up) := ⟨rfl, rfl, rfl, by decide +kernel, rfl, by decide +kernel, by decide +kernel⟩
def s_nearest_whole : Stmt := topS 10
def N_nearest_whole : List Str := ["one"]
noncomputable def c_nearest_whole : Cfg := { N := N_nearest_whole, sc := defScope s_nearest_whole, calls := [(("check_number", 2, []), G_check_number), (("halves_up", 1, []), G_halves_up)], consts := [], blt := [] }
def w_nearest_whole : List Str := []
theorem b_nearest_whole : fnS 1 (denSs 60 c_nearest_whole w_nearest_whole (defBody s_nearest_whole)) = G_nearest_whole := by kernel_rfl
theorem sc_nearest_whole : FnScope N_nearest_whole ["one"] (defScope s_nearest_whole) := ⟨rfl, rfl, rfl, by decide +kernel, rfl, by decide +kernel, by decide +kernel⟩
def s_law_whole : Stmt := topS 16
def N_law_whole : List Str := ["_law_thing"]
noncomputable def c_law_whole : Cfg := { N := N_law_whole, sc := defScope s_law_whole, calls := [], consts := [], blt := ["isinstance", "int", "bool"] }
def w_law_whole : List Str := []
theorem b_law_whole : fnS 1 (denSs 60 c_law_whole w_law_whole (defBody s_law_whole)) = G_is_whole := by kernel_rfl
theorem sc_law_whole : FnScope N_law_whole ["_law_thing"] (defScope s_law_whole) := ⟨rfl, rfl, rfl, by decide +kernel, rfl, by decide +kernel, by decide +kernel⟩
def s_law_near_right : Stmt := topS 19
def N_law_near_right : List Str := ["_law_a", "_law_top", "_law_bottom", "_law_told"]
noncomputable def c_law_near_right : Cfg := { N := N_law_near_right, sc := defScope s_law_near_right, calls := [(("nearest_whole", 1, []), G_nearest_whole), (("nearest_whole", 0, ["one"]), G_nearest_whole), (("_law_whole", 1, []), G_is_whole)], consts := [], blt := [] }
def w_law_near_right : List Str := []
theorem b_law_near_right : fnS 4 (denSs 60 c_law_near_right w_law_near_right (defBody s_law_near_right)) = G_law_near_right := by kernel_rfl
theorem sc_law_near_right : FnScope N_law_near_right ["_law_a"] (defScope s_law_near_right) := ⟨rfl, rfl, rfl, by decide +kernel, rfl, by decide +kernel, by decide +kernel⟩
def s_from_zero : Stmt := topS 7
def N_from_zero : List Str := ["thing"]
noncomputable def c_from_zero : Cfg := { N := N_from_zero, sc := defScope s_from_zero, calls := [(("is_fraction", 1, []), G_is_fraction)], consts := [], blt := [] }
def w_from_zero : List Str := []
theorem b_from_zero : fnS 1 (denSs 60 c_from_zero w_from_zero (defBody s_from_zero)) = G_from_zero := by kernel_rfl
theorem sc_from_zero : FnScope N_from_zero ["thing"] (defScope s_from_zero) := ⟨rfl, rfl, rfl, by decide +kernel, rfl, by decide +kernel, by decide +kernel⟩
def s_root_above : Stmt := topS 11
def N_root_above : List Str := ["one", "least", "most", "middle"]
noncomputable def c_root_above : Cfg := { N := N_root_above, sc := defScope s_root_above, calls := [(("from_zero", 1, []), G_from_zero)], consts := [], blt := [] }
def w_root_above : List Str := []
theorem b_root_above : fnS 4 (denSs 60 c_root_above w_root_above (defBody s_root_above)) = G_root_above := by kernel_rfl
theorem sc_root_above : FnScope N_root_above ["one"] (defScope s_root_above) := ⟨rfl, rfl, rfl, by decide +kernel, rfl, by decide +kernel, by decide +kernel⟩
def s_law_root_right : Stmt := topS 20
def N_law_root_right : List Str := ["_law_a", "_law_top", "_law_bottom", "_law_told"]
noncomputable def c_law_root_right : Cfg := { N := N_law_root_right, sc := defScope s_law_root_right, calls := [(("root_above", 1, []), G_root_above), (("root_above", 0, ["one"]), G_root_above), (("_law_whole", 1, []), G_is_whole)], consts := [], blt := [] }
def w_law_root_right : List Str := []
theorem b_law_root_right : fnS 4 (denSs 60 c_law_root_right w_law_root_right (defBody s_law_root_right)) = G_law_root_right := by kernel_rfl
theorem sc_law_root_right : FnScope N_law_root_right ["_law_a"] (defScope s_law_root_right) := ⟨rfl, rfl, rfl, by decide +kernel, rfl, by decide +kernel, by decide +kernel⟩
def s_law : Stmt := topS 21
def N_law : List Str := ["_law_script", "_law_k", "_law_purse_here", "_law_number_here", "_law_top", "_law_bottom", "_law_step", "_law_some", "_law_first", "_law_a"]
noncomputable def c_law : Cfg := { N := N_law, sc := defScope s_law, calls := [(("_law_purse", 1, []), G_law_purse), (("_law_cell", 2, []), G_law_cell), (("_law_number", 1, []), G_law_number), (("_law_pick", 2, []), G_law_pick), (("_law_low", 2, []), G_law_low), (("_law_near_right", 1, []), G_law_near_right), (("_law_root_right", 1, []), G_law_root_right)], consts := [], blt := ["range", "max", "min", "len", "abs"] }
def w_law : List Str := ["_law_some"]
theorem b_law : fnS 10 (denSs 60 c_law w_law (defBody s_law)) = G_law := by kernel_rfl
theorem sc_law : FnScope N_law ["_law_script"] (defScope s_law) := ⟨rfl, rfl, rfl, by decide +kernel, rfl, by decide +kernel, by decide +kernel⟩
theorem all_mk {l : PySem.W.OpenLaw} {w : World} {K : PySem.W.Frag} {h : Heap} {mg : Str → Option Value} {fa f0 f1 f2 f3 f4 f5 f6 f7 f8 f9 f10 f11 f12 f13 f14 f15 f16 : Addr} (X : K.In h) (G : h.Ns mainGlobals mg) (hfa : mg "law" = some (.ref fa))
    {od0 an0 od1 an1 od2 an2 od3 an3 od4 an4 od5 an5 od6 an6 od7 an7 od8 an8 od9 an9 od10 an10 od11 an11 od12 an12 od13 an13 od14 an14 od15 an15 od16 an16 : Option Addr} {sl0 sl1 sl2 sl3 sl4 sl5 sl6 sl7 sl8 sl9 sl10 sl11 sl12 sl13 sl14 sl15 sl16 : Array (Option Value)} {oc0 kV0 dc0 pm0 cd0 ct0 oc1 kV1 dc1 pm1 cd1 ct1 oc2 kV2 dc2 pm2 cd2 ct2 oc3 kV3 dc3 pm3 cd3 ct3 oc4 kV4 dc4 pm4 cd4 ct4 oc5 kV5 dc5 pm5 cd5 ct5 oc6 kV6 dc6 pm6 cd6 ct6 oc7 kV7 dc7 pm7 cd7 ct7 oc8 kV8 dc8 pm8 cd8 ct8 oc9 kV9 dc9 pm9 cd9 ct9 oc10 kV10 dc10 pm10 cd10 ct10 oc11 kV11 dc11 pm11 cd11 ct11 oc12 kV12 dc12 pm12 cd12 ct12 oc13 kV13 dc13 pm13 cd13 ct13 oc14 kV14 dc14 pm14 cd14 ct14 oc15 kV15 dc15 pm15 cd15 ct15 oc16 kV16 dc16 pm16 cd16 ct16 : Value}
    (a0 : PySem.W.nsIn K mainGlobals "_law_purse" = some (some (.ref f0))) (l0 : K.lookup f0 = some ⟨oc0, od0, .func (PySem.W.fnOf "_law_purse" "_law_purse" (defArgs s_law_purse) (defBody s_law_purse) (defScope s_law_purse) .none kV0 dc0 pm0 an0 cd0 ct0), sl0⟩) (c0 : PySem.W.codeIn K cd0 "_law_purse" = true) (k0 : PySem.W.keepIn K (.ref f0) = true)
    (a1 : PySem.W.nsIn K mainGlobals "_law_cell" = some (some (.ref f1))) (l1 : K.lookup f1 = some ⟨oc1, od1, .func (PySem.W.fnOf "_law_cell" "_law_cell" (defArgs s_law_cell) (defBody s_law_cell) (defScope s_law_cell) .none kV1 dc1 pm1 an1 cd1 ct1), sl1⟩) (c1 : PySem.W.codeIn K cd1 "_law_cell" = true) (k1 : PySem.W.keepIn K (.ref f1) = true)
    (a2 : PySem.W.nsIn K mainGlobals "_law_pick" = some (some (.ref f2))) (l2 : K.lookup f2 = some ⟨oc2, od2, .func (PySem.W.fnOf "_law_pick" "_law_pick" (defArgs s_law_pick) (defBody s_law_pick) (defScope s_law_pick) .none kV2 dc2 pm2 an2 cd2 ct2), sl2⟩) (c2 : PySem.W.codeIn K cd2 "_law_pick" = true) (k2 : PySem.W.keepIn K (.ref f2) = true)
    (a3 : PySem.W.nsIn K mainGlobals "_law_number" = some (some (.ref f3))) (l3 : K.lookup f3 = some ⟨oc3, od3, .func (PySem.W.fnOf "_law_number" "_law_number" (defArgs s_law_number) (defBody s_law_number) (defScope s_law_number) .none kV3 dc3 pm3 an3 cd3 ct3), sl3⟩) (c3 : PySem.W.codeIn K cd3 "_law_number" = true) (k3 : PySem.W.keepIn K (.ref f3) = true)
    (a4 : PySem.W.nsIn K mainGlobals "_law_low" = some (some (.ref f4))) (l4 : K.lookup f4 = some ⟨oc4, od4, .func (PySem.W.fnOf "_law_low" "_law_low" (defArgs s_law_low) (defBody s_law_low) (defScope s_law_low) .none kV4 dc4 pm4 an4 cd4 ct4), sl4⟩) (c4 : PySem.W.codeIn K cd4 "_law_low" = true) (k4 : PySem.W.keepIn K (.ref f4) = true)
    (a5 : PySem.W.nsIn K mainGlobals "is_whole" = some (some (.ref f5))) (l5 : K.lookup f5 = some ⟨oc5, od5, .func (PySem.W.fnOf "is_whole" "is_whole" (defArgs s_is_whole) (defBody s_is_whole) (defScope s_is_whole) .none kV5 dc5 pm5 an5 cd5 ct5), sl5⟩) (c5 : PySem.W.codeIn K cd5 "is_whole" = true) (k5 : PySem.W.keepIn K (.ref f5) = true)
    (a6 : PySem.W.nsIn K mainGlobals "share_of" = some (some (.ref f6))) (l6 : K.lookup f6 = some ⟨oc6, od6, .func (PySem.W.fnOf "share_of" "share_of" (defArgs s_share_of) (defBody s_share_of) (defScope s_share_of) .none kV6 dc6 pm6 an6 cd6 ct6), sl6⟩) (c6 : PySem.W.codeIn K cd6 "share_of" = true) (k6 : PySem.W.keepIn K (.ref f6) = true)
    (a7 : PySem.W.nsIn K mainGlobals "is_fraction" = some (some (.ref f7))) (l7 : K.lookup f7 = some ⟨oc7, od7, .func (PySem.W.fnOf "is_fraction" "is_fraction" (defArgs s_is_fraction) (defBody s_is_fraction) (defScope s_is_fraction) .none kV7 dc7 pm7 an7 cd7 ct7), sl7⟩) (c7 : PySem.W.codeIn K cd7 "is_fraction" = true) (k7 : PySem.W.keepIn K (.ref f7) = true)
    (a8 : PySem.W.nsIn K mainGlobals "check_number" = some (some (.ref f8))) (l8 : K.lookup f8 = some ⟨oc8, od8, .func (PySem.W.fnOf "check_number" "check_number" (defArgs s_check_number) (defBody s_check_number) (defScope s_check_number) .none kV8 dc8 pm8 an8 cd8 ct8), sl8⟩) (c8 : PySem.W.codeIn K cd8 "check_number" = true) (k8 : PySem.W.keepIn K (.ref f8) = true)
    (a9 : PySem.W.nsIn K mainGlobals "halves_up" = some (some (.ref f9))) (l9 : K.lookup f9 = some ⟨oc9, od9, .func (PySem.W.fnOf "halves_up" "halves_up" (defArgs s_halves_up) (defBody s_halves_up) (defScope s_halves_up) .none kV9 dc9 pm9 an9 cd9 ct9), sl9⟩) (c9 : PySem.W.codeIn K cd9 "halves_up" = true) (k9 : PySem.W.keepIn K (.ref f9) = true)
    (a10 : PySem.W.nsIn K mainGlobals "nearest_whole" = some (some (.ref f10))) (l10 : K.lookup f10 = some ⟨oc10, od10, .func (PySem.W.fnOf "nearest_whole" "nearest_whole" (defArgs s_nearest_whole) (defBody s_nearest_whole) (defScope s_nearest_whole) .none kV10 dc10 pm10 an10 cd10 ct10), sl10⟩) (c10 : PySem.W.codeIn K cd10 "nearest_whole" = true) (k10 : PySem.W.keepIn K (.ref f10) = true)
    (a11 : PySem.W.nsIn K mainGlobals "_law_whole" = some (some (.ref f11))) (l11 : K.lookup f11 = some ⟨oc11, od11, .func (PySem.W.fnOf "_law_whole" "_law_whole" (defArgs s_law_whole) (defBody s_law_whole) (defScope s_law_whole) .none kV11 dc11 pm11 an11 cd11 ct11), sl11⟩) (c11 : PySem.W.codeIn K cd11 "_law_whole" = true) (k11 : PySem.W.keepIn K (.ref f11) = true)
    (a12 : PySem.W.nsIn K mainGlobals "_law_near_right" = some (some (.ref f12))) (l12 : K.lookup f12 = some ⟨oc12, od12, .func (PySem.W.fnOf "_law_near_right" "_law_near_right" (defArgs s_law_near_right) (defBody s_law_near_right) (defScope s_law_near_right) .none kV12 dc12 pm12 an12 cd12 ct12), sl12⟩) (c12 : PySem.W.codeIn K cd12 "_law_near_right" = true) (k12 : PySem.W.keepIn K (.ref f12) = true)
    (a13 : PySem.W.nsIn K mainGlobals "from_zero" = some (some (.ref f13))) (l13 : K.lookup f13 = some ⟨oc13, od13, .func (PySem.W.fnOf "from_zero" "from_zero" (defArgs s_from_zero) (defBody s_from_zero) (defScope s_from_zero) .none kV13 dc13 pm13 an13 cd13 ct13), sl13⟩) (c13 : PySem.W.codeIn K cd13 "from_zero" = true) (k13 : PySem.W.keepIn K (.ref f13) = true)
    (a14 : PySem.W.nsIn K mainGlobals "root_above" = some (some (.ref f14))) (l14 : K.lookup f14 = some ⟨oc14, od14, .func (PySem.W.fnOf "root_above" "root_above" (defArgs s_root_above) (defBody s_root_above) (defScope s_root_above) .none kV14 dc14 pm14 an14 cd14 ct14), sl14⟩) (c14 : PySem.W.codeIn K cd14 "root_above" = true) (k14 : PySem.W.keepIn K (.ref f14) = true)
    (a15 : PySem.W.nsIn K mainGlobals "_law_root_right" = some (some (.ref f15))) (l15 : K.lookup f15 = some ⟨oc15, od15, .func (PySem.W.fnOf "_law_root_right" "_law_root_right" (defArgs s_law_root_right) (defBody s_law_root_right) (defScope s_law_root_right) .none kV15 dc15 pm15 an15 cd15 ct15), sl15⟩) (c15 : PySem.W.codeIn K cd15 "_law_root_right" = true) (k15 : PySem.W.keepIn K (.ref f15) = true)
    (a16 : PySem.W.nsIn K mainGlobals "law" = some (some (.ref f16))) (l16 : K.lookup f16 = some ⟨oc16, od16, .func (PySem.W.fnOf "law" "law" (defArgs s_law) (defBody s_law) (defScope s_law) .none kV16 dc16 pm16 an16 cd16 ct16), sl16⟩) (c16 : PySem.W.codeIn K cd16 "law" = true) (k16 : PySem.W.keepIn K (.ref f16) = true)
    (z_abs : PySem.W.nsIn K mainGlobals "abs" = some none)
    (z_all : PySem.W.nsIn K mainGlobals "all" = some none)
    (z_bool : PySem.W.nsIn K mainGlobals "bool" = some none)
    (z_int : PySem.W.nsIn K mainGlobals "int" = some none)
    (z_isinstance : PySem.W.nsIn K mainGlobals "isinstance" = some none)
    (z_len : PySem.W.nsIn K mainGlobals "len" = some none)
    (z_max : PySem.W.nsIn K mainGlobals "max" = some none)
    (z_min : PySem.W.nsIn K mainGlobals "min" = some none)
    (z_range : PySem.W.nsIn K mainGlobals "range" = some none)
    (z_tuple : PySem.W.nsIn K mainGlobals "tuple" = some none) :
    ∃ fd : FuncData, (∀ (s : Shared) (v : Value), BindsTo s fd ⟨[v], []⟩ [("_law_script", v)]) ∧ ∀ base : Heap, K.In base → base.Ns mainGlobals mg → FnOk l.prog w K mg base (L2.CX l.prog w) 6 fa fd ["_law_script"] (spN (pK K) 1 G_law) := by
  have e := hfa.symm.trans (PySem.W.mg_of X G a16)
  cases e
  refine ⟨PySem.W.fnOf "law" "law" (defArgs s_law) (defBody s_law) (defScope s_law) .none kV16 dc16 pm16 an16 cd16 ct16, fun s v => .of_eq rfl, fun base _ _ => ?_⟩
  have g0 : FnOk l.prog w K mg base (L2.CX l.prog w) 1 f0 (PySem.W.fnOf "_law_purse" "_law_purse" (defArgs s_law_purse) (defBody s_law_purse) (defScope s_law_purse) .none kV0 dc0 pm0 an0 cd0 ct0) ["_law_cell_here"] (spN (pK K) 1 G_law_purse) := by
    rw [← b_law_purse]
    exact def_ok (c := c_law_purse) (n := 60) (m := 1) (k := 0) l0 c0 sc_law_purse rfl rfl rfl rfl ⟨rfl, by decide +kernel, rfl, allC_nil, fun _ _ hm => (nomatch hm), (allN_cons (PySem.W.mg_none_of X G z_int) allN_nil)⟩ (by decide)
  have g1 : FnOk l.prog w K mg base (L2.CX l.prog w) 1 f1 (PySem.W.fnOf "_law_cell" "_law_cell" (defArgs s_law_cell) (defBody s_law_cell) (defScope s_law_cell) .none kV1 dc1 pm1 an1 cd1 ct1) ["_law_script", "_law_k"] (spN (pK K) 2 G_law_cell) := by
    rw [← b_law_cell]
    exact def_ok (c := c_law_cell) (n := 60) (m := 4) (k := 0) l1 c1 sc_law_cell rfl rfl rfl rfl ⟨rfl, by decide +kernel, rfl, allC_nil, fun _ _ hm => (nomatch hm), (allN_cons (PySem.W.mg_none_of X G z_len) allN_nil)⟩ (by decide)
  have g2 : FnOk l.prog w K mg base (L2.CX l.prog w) 1 f2 (PySem.W.fnOf "_law_pick" "_law_pick" (defArgs s_law_pick) (defBody s_law_pick) (defScope s_law_pick) .none kV2 dc2 pm2 an2 cd2 ct2) ["_law_purse_here", "_law_many"] (spN (pK K) 2 G_law_pick) := by
    rw [← b_law_pick]
    exact def_ok (c := c_law_pick) (n := 60) (m := 4) (k := 0) l2 c2 sc_law_pick rfl rfl rfl rfl ⟨rfl, by decide +kernel, rfl, allC_nil, fun _ _ hm => (nomatch hm), allN_nil⟩ (by decide)
  have q3_0 : CallF l.prog w K mg base 1 (pK K) "_law_pick" 2 [] G_law_pick := (callF_of g2 (PySem.W.mg_of X G a2) k2 (bind_all fun us hl => match us, hl with | [_, _], _ => rfl)).mono (by decide)
  have g3 : FnOk l.prog w K mg base (L2.CX l.prog w) 2 f3 (PySem.W.fnOf "_law_number" "_law_number" (defArgs s_law_number) (defBody s_law_number) (defScope s_law_number) .none kV3 dc3 pm3 an3 cd3 ct3) ["_law_purse_here"] (spN (pK K) 1 G_law_number) := by
    rw [← b_law_number]
    exact def_ok (c := c_law_number) (n := 60) (m := 2) (k := 1) l3 c3 sc_law_number rfl rfl rfl rfl ⟨rfl, by decide +kernel, rfl, (allC_cons q3_0 allC_nil), fun _ _ hm => (nomatch hm), allN_nil⟩ (by decide)
  have g4 : FnOk l.prog w K mg base (L2.CX l.prog w) 1 f4 (PySem.W.fnOf "_law_low" "_law_low" (defArgs s_law_low) (defBody s_law_low) (defScope s_law_low) .none kV4 dc4 pm4 an4 cd4 ct4) ["_law_top", "_law_bottom"] (spN (pK K) 2 G_law_low) := by
    rw [← b_law_low]
    exact def_ok (c := c_law_low) (n := 60) (m := 4) (k := 0) l4 c4 sc_law_low rfl rfl rfl rfl ⟨rfl, by decide +kernel, rfl, allC_nil, fun _ _ hm => (nomatch hm), (allN_cons (PySem.W.mg_none_of X G z_abs) allN_nil)⟩ (by decide)
  have g5 : FnOk l.prog w K mg base (L2.CX l.prog w) 1 f5 (PySem.W.fnOf "is_whole" "is_whole" (defArgs s_is_whole) (defBody s_is_whole) (defScope s_is_whole) .none kV5 dc5 pm5 an5 cd5 ct5) ["thing"] (spN (pK K) 1 G_is_whole) := by
    rw [← b_is_whole]
    exact def_ok (c := c_is_whole) (n := 60) (m := 1) (k := 0) l5 c5 sc_is_whole rfl rfl rfl rfl ⟨rfl, by decide +kernel, rfl, allC_nil, fun _ _ hm => (nomatch hm), (allN_cons (PySem.W.mg_none_of X G z_isinstance) (allN_cons (PySem.W.mg_none_of X G z_int) (allN_cons (PySem.W.mg_none_of X G z_bool) allN_nil)))⟩ (by decide)
  have g6 : FnOk l.prog w K mg base (L2.CX l.prog w) 1 f6 (PySem.W.fnOf "share_of" "share_of" (defArgs s_share_of) (defBody s_share_of) (defScope s_share_of) .none kV6 dc6 pm6 an6 cd6 ct6) ["one", "other"] (spN (pK K) 2 G_share_of) := by
    rw [← b_share_of]
    exact def_ok (c := c_share_of) (n := 60) (m := 2) (k := 0) l6 c6 sc_share_of rfl rfl rfl rfl ⟨rfl, by decide +kernel, rfl, allC_nil, fun _ _ hm => (nomatch hm), allN_nil⟩ (by decide)
  have q7_0 : CallF l.prog w K mg base 1 (pK K) "is_whole" 1 [] G_is_whole := (callF_of g5 (PySem.W.mg_of X G a5) k5 (bind_all fun us hl => match us, hl with | [_], _ => rfl)).mono (by decide)
  have q7_1 : CallF l.prog w K mg base 1 (pK K) "share_of" 2 [] G_share_of := (callF_of g6 (PySem.W.mg_of X G a6) k6 (bind_all fun us hl => match us, hl with | [_, _], _ => rfl)).mono (by decide)
  have g7 : FnOk l.prog w K mg base (L2.CX l.prog w) 2 f7 (PySem.W.fnOf "is_fraction" "is_fraction" (defArgs s_is_fraction) (defBody s_is_fraction) (defScope s_is_fraction) .none kV7 dc7 pm7 an7 cd7 ct7) ["thing"] (spN (pK K) 1 G_is_fraction) := by
    rw [← b_is_fraction]
    exact def_ok (c := c_is_fraction) (n := 60) (m := 2) (k := 1) l7 c7 sc_is_fraction rfl rfl rfl rfl ⟨rfl, by decide +kernel, rfl, (allC_cons q7_0 (allC_cons q7_1 allC_nil)), fun _ _ hm => (nomatch hm), (allN_cons (PySem.W.mg_none_of X G z_isinstance) (allN_cons (PySem.W.mg_none_of X G z_tuple) (allN_cons (PySem.W.mg_none_of X G z_len) (allN_cons (PySem.W.mg_none_of X G z_all) (allN_cons (PySem.W.mg_none_of X G z_abs) allN_nil)))))⟩ (by decide)
  have q8_0 : CallF l.prog w K mg base 2 (pK K) "is_fraction" 1 [] G_is_fraction := (callF_of g7 (PySem.W.mg_of X G a7) k7 (bind_all fun us hl => match us, hl with | [_], _ => rfl)).mono (by decide)
  have g8 : FnOk l.prog w K mg base (L2.CX l.prog w) 3 f8 (PySem.W.fnOf "check_number" "check_number" (defArgs s_check_number) (defBody s_check_number) (defScope s_check_number) .none kV8 dc8 pm8 an8 cd8 ct8) ["thing", "place"] (spN (pK K) 2 G_check_number) := by
    rw [← b_check_number]
    exact def_ok (c := c_check_number) (n := 60) (m := 2) (k := 2) l8 c8 sc_check_number rfl rfl rfl rfl ⟨rfl, by decide +kernel, rfl, (allC_cons q8_0 allC_nil), fun _ _ hm => (nomatch hm), allN_nil⟩ (by decide)
  have g9 : FnOk l.prog w K mg base (L2.CX l.prog w) 1 f9 (PySem.W.fnOf "halves_up" "halves_up" (defArgs s_halves_up) (defBody s_halves_up) (defScope s_halves_up) .none kV9 dc9 pm9 an9 cd9 ct9) ["a"] (spN (pK K) 1 G_halves_up) := by
    rw [← b_halves_up]
    exact def_ok (c := c_halves_up) (n := 60) (m := 1) (k := 0) l9 c9 sc_halves_up rfl rfl rfl rfl ⟨rfl, by decide +kernel, rfl, allC_nil, fun _ _ hm => (nomatch hm), allN_nil⟩ (by decide)
  have q10_0 : CallF l.prog w K mg base 3 (pK K) "check_number" 2 [] G_check_number := (callF_of g8 (PySem.W.mg_of X G a8) k8 (bind_all fun us hl => match us, hl with | [_, _], _ => rfl)).mono (by decide)
  have q10_1 : CallF l.prog w K mg base 3 (pK K) "halves_up" 1 [] G_halves_up := (callF_of g9 (PySem.W.mg_of X G a9) k9 (bind_all fun us hl => match us, hl with | [_], _ => rfl)).mono (by decide)
  have g10 : FnOk l.prog w K mg base (L2.CX l.prog w) 4 f10 (PySem.W.fnOf "nearest_whole" "nearest_whole" (defArgs s_nearest_whole) (defBody s_nearest_whole) (defScope s_nearest_whole) .none kV10 dc10 pm10 an10 cd10 ct10) ["one"] (spN (pK K) 1 G_nearest_whole) := by
    rw [← b_nearest_whole]
    exact def_ok (c := c_nearest_whole) (n := 60) (m := 1) (k := 3) l10 c10 sc_nearest_whole rfl rfl rfl rfl ⟨rfl, by decide +kernel, rfl, (allC_cons q10_0 (allC_cons q10_1 allC_nil)), fun _ _ hm => (nomatch hm), allN_nil⟩ (by decide)
  have g11 : FnOk l.prog w K mg base (L2.CX l.prog w) 1 f11 (PySem.W.fnOf "_law_whole" "_law_whole" (defArgs s_law_whole) (defBody s_law_whole) (defScope s_law_whole) .none kV11 dc11 pm11 an11 cd11 ct11) ["_law_thing"] (spN (pK K) 1 G_is_whole) := by
    rw [← b_law_whole]
    exact def_ok (c := c_law_whole) (n := 60) (m := 1) (k := 0) l11 c11 sc_law_whole rfl rfl rfl rfl ⟨rfl, by decide +kernel, rfl, allC_nil, fun _ _ hm => (nomatch hm), (allN_cons (PySem.W.mg_none_of X G z_isinstance) (allN_cons (PySem.W.mg_none_of X G z_int) (allN_cons (PySem.W.mg_none_of X G z_bool) allN_nil)))⟩ (by decide)
  have q12_0 : CallF l.prog w K mg base 4 (pK K) "nearest_whole" 1 [] G_nearest_whole := (callF_of g10 (PySem.W.mg_of X G a10) k10 (bind_all fun us hl => match us, hl with | [_], _ => rfl)).mono (by decide)
  have q12_1 : CallF l.prog w K mg base 4 (pK K) "nearest_whole" 0 ["one"] G_nearest_whole := (callF_of g10 (PySem.W.mg_of X G a10) k10 (bind_kw1 fun _ => rfl)).mono (by decide)
  have q12_2 : CallF l.prog w K mg base 4 (pK K) "_law_whole" 1 [] G_is_whole := (callF_of g11 (PySem.W.mg_of X G a11) k11 (bind_all fun us hl => match us, hl with | [_], _ => rfl)).mono (by decide)
  have g12 : FnOk l.prog w K mg base (L2.CX l.prog w) 5 f12 (PySem.W.fnOf "_law_near_right" "_law_near_right" (defArgs s_law_near_right) (defBody s_law_near_right) (defScope s_law_near_right) .none kV12 dc12 pm12 an12 cd12 ct12) ["_law_a"] (spN (pK K) 1 G_law_near_right) := by
    rw [← b_law_near_right]
    exact def_ok (c := c_law_near_right) (n := 60) (m := 4) (k := 4) l12 c12 sc_law_near_right rfl rfl rfl rfl ⟨rfl, by decide +kernel, rfl, (allC_cons q12_0 (allC_cons q12_1 (allC_cons q12_2 allC_nil))), fun _ _ hm => (nomatch hm), allN_nil⟩ (by decide)
  have q13_0 : CallF l.prog w K mg base 2 (pK K) "is_fraction" 1 [] G_is_fraction := (callF_of g7 (PySem.W.mg_of X G a7) k7 (bind_all fun us hl => match us, hl with | [_], _ => rfl)).mono (by decide)
  have g13 : FnOk l.prog w K mg base (L2.CX l.prog w) 3 f13 (PySem.W.fnOf "from_zero" "from_zero" (defArgs s_from_zero) (defBody s_from_zero) (defScope s_from_zero) .none kV13 dc13 pm13 an13 cd13 ct13) ["thing"] (spN (pK K) 1 G_from_zero) := by
    rw [← b_from_zero]
    exact def_ok (c := c_from_zero) (n := 60) (m := 1) (k := 2) l13 c13 sc_from_zero rfl rfl rfl rfl ⟨rfl, by decide +kernel, rfl, (allC_cons q13_0 allC_nil), fun _ _ hm => (nomatch hm), allN_nil⟩ (by decide)
  have q14_0 : CallF l.prog w K mg base 3 (pK K) "from_zero" 1 [] G_from_zero := (callF_of g13 (PySem.W.mg_of X G a13) k13 (bind_all fun us hl => match us, hl with | [_], _ => rfl)).mono (by decide)
  have g14 : FnOk l.prog w K mg base (L2.CX l.prog w) 4 f14 (PySem.W.fnOf "root_above" "root_above" (defArgs s_root_above) (defBody s_root_above) (defScope s_root_above) .none kV14 dc14 pm14 an14 cd14 ct14) ["one"] (spN (pK K) 1 G_root_above) := by
    rw [← b_root_above]
    exact def_ok (c := c_root_above) (n := 60) (m := 4) (k := 3) l14 c14 sc_root_above rfl rfl rfl rfl ⟨rfl, by decide +kernel, rfl, (allC_cons q14_0 allC_nil), fun _ _ hm => (nomatch hm), allN_nil⟩ (by decide)
  have q15_0 : CallF l.prog w K mg base 4 (pK K) "root_above" 1 [] G_root_above := (callF_of g14 (PySem.W.mg_of X G a14) k14 (bind_all fun us hl => match us, hl with | [_], _ => rfl)).mono (by decide)
  have q15_1 : CallF l.prog w K mg base 4 (pK K) "root_above" 0 ["one"] G_root_above := (callF_of g14 (PySem.W.mg_of X G a14) k14 (bind_kw1 fun _ => rfl)).mono (by decide)
  have q15_2 : CallF l.prog w K mg base 4 (pK K) "_law_whole" 1 [] G_is_whole := (callF_of g11 (PySem.W.mg_of X G a11) k11 (bind_all fun us hl => match us, hl with | [_], _ => rfl)).mono (by decide)
  have g15 : FnOk l.prog w K mg base (L2.CX l.prog w) 5 f15 (PySem.W.fnOf "_law_root_right" "_law_root_right" (defArgs s_law_root_right) (defBody s_law_root_right) (defScope s_law_root_right) .none kV15 dc15 pm15 an15 cd15 ct15) ["_law_a"] (spN (pK K) 1 G_law_root_right) := by
    rw [← b_law_root_right]
    exact def_ok (c := c_law_root_right) (n := 60) (m := 4) (k := 4) l15 c15 sc_law_root_right rfl rfl rfl rfl ⟨rfl, by decide +kernel, rfl, (allC_cons q15_0 (allC_cons q15_1 (allC_cons q15_2 allC_nil))), fun _ _ hm => (nomatch hm), allN_nil⟩ (by decide)
  have q16_0 : CallF l.prog w K mg base 5 (pK K) "_law_purse" 1 [] G_law_purse := (callF_of g0 (PySem.W.mg_of X G a0) k0 (bind_all fun us hl => match us, hl with | [_], _ => rfl)).mono (by decide)
  have q16_1 : CallF l.prog w K mg base 5 (pK K) "_law_cell" 2 [] G_law_cell := (callF_of g1 (PySem.W.mg_of X G a1) k1 (bind_all fun us hl => match us, hl with | [_, _], _ => rfl)).mono (by decide)
  have q16_2 : CallF l.prog w K mg base 5 (pK K) "_law_number" 1 [] G_law_number := (callF_of g3 (PySem.W.mg_of X G a3) k3 (bind_all fun us hl => match us, hl with | [_], _ => rfl)).mono (by decide)
  have q16_3 : CallF l.prog w K mg base 5 (pK K) "_law_pick" 2 [] G_law_pick := (callF_of g2 (PySem.W.mg_of X G a2) k2 (bind_all fun us hl => match us, hl with | [_, _], _ => rfl)).mono (by decide)
  have q16_4 : CallF l.prog w K mg base 5 (pK K) "_law_low" 2 [] G_law_low := (callF_of g4 (PySem.W.mg_of X G a4) k4 (bind_all fun us hl => match us, hl with | [_, _], _ => rfl)).mono (by decide)
  have q16_5 : CallF l.prog w K mg base 5 (pK K) "_law_near_right" 1 [] G_law_near_right := (callF_of g12 (PySem.W.mg_of X G a12) k12 (bind_all fun us hl => match us, hl with | [_], _ => rfl)).mono (by decide)
  have q16_6 : CallF l.prog w K mg base 5 (pK K) "_law_root_right" 1 [] G_law_root_right := (callF_of g15 (PySem.W.mg_of X G a15) k15 (bind_all fun us hl => match us, hl with | [_], _ => rfl)).mono (by decide)
  have g16 : FnOk l.prog w K mg base (L2.CX l.prog w) 6 fa (PySem.W.fnOf "law" "law" (defArgs s_law) (defBody s_law) (defScope s_law) .none kV16 dc16 pm16 an16 cd16 ct16) ["_law_script"] (spN (pK K) 1 G_law) := by
    rw [← b_law]
    exact def_ok (c := c_law) (n := 60) (m := 10) (k := 5) l16 c16 sc_law rfl rfl rfl rfl ⟨rfl, by decide +kernel, rfl, (allC_cons q16_0 (allC_cons q16_1 (allC_cons q16_2 (allC_cons q16_3 (allC_cons q16_4 (allC_cons q16_5 (allC_cons q16_6 allC_nil))))))), fun _ _ hm => (nomatch hm), (allN_cons (PySem.W.mg_none_of X G z_range) (allN_cons (PySem.W.mg_none_of X G z_max) (allN_cons (PySem.W.mg_none_of X G z_min) (allN_cons (PySem.W.mg_none_of X G z_len) (allN_cons (PySem.W.mg_none_of X G z_abs) allN_nil)))))⟩ (by decide)
  exact g16
end Tz
open PySem PySem.W PyProof.Rows
set_option maxRecDepth 100000 in
set_option maxHeartbeats 0 in
theorem PySem.Challenge.cw_lightshares_k02_halves_and_roots_holds : PySem.Challenge.rw_lightshares_k02_halves_and_roots.Holds := by
  w_on; o_law; k_head; (case hw => w_witness2)
  k_fill
  refine L2.walk_ofB (l := PySem.Challenge.rw_lightshares_k02_halves_and_roots) (n := 63) (k := 6) (x := "_law_script") (CX := fun w => L2.CX PySem.Challenge.pw_lightshares_k02_halves_and_roots w) (sp := fun w => Tz.spN (Tz.pK _) 1 Tz.G_law) rfl (by decide) rfl ⟨rfl, by decide, by decide⟩ (fun w h Y => PySem.W.kIn_of Y) ?F (fun w H a ns hl hb _ hS => Tz.law_sp (p := Tz.pK _) rfl H a ns (Tz.main_true ns hl hb) hS) (fun w H s e s1 z => Tz.noexc z)
  case F =>
    intro w mg fa h KX G hmg
    refine' Tz.all_mk KX G hmg ?a0 ?l0 ?c0 ?k0 ?a1 ?l1 ?c1 ?k1 ?a2 ?l2 ?c2 ?k2 ?a3 ?l3 ?c3 ?k3 ?a4 ?l4 ?c4 ?k4 ?a5 ?l5 ?c5 ?k5 ?a6 ?l6 ?c6 ?k6 ?a7 ?l7 ?c7 ?k7 ?a8 ?l8 ?c8 ?k8 ?a9 ?l9 ?c9 ?k9 ?a10 ?l10 ?c10 ?k10 ?a11 ?l11 ?c11 ?k11 ?a12 ?l12 ?c12 ?k12 ?a13 ?l13 ?c13 ?k13 ?a14 ?l14 ?c14 ?k14 ?a15 ?l15 ?c15 ?k15 ?a16 ?l16 ?c16 ?k16 ?z_abs ?z_all ?z_bool ?z_int ?z_isinstance ?z_len ?z_max ?z_min ?z_range ?z_tuple
    (case a0 => k_is); (case l0 => k_is); (case c0 => k_is); (case k0 => k_is); (case a1 => k_is); (case l1 => k_is); (case c1 => k_is); (case k1 => k_is)
    (case a2 => k_is); (case l2 => k_is); (case c2 => k_is); (case k2 => k_is); (case a3 => k_is); (case l3 => k_is); (case c3 => k_is); (case k3 => k_is)
    (case a4 => k_is); (case l4 => k_is); (case c4 => k_is); (case k4 => k_is); (case a5 => k_is); (case l5 => k_is); (case c5 => k_is); (case k5 => k_is)
    (case a6 => k_is); (case l6 => k_is); (case c6 => k_is); (case k6 => k_is); (case a7 => k_is); (case l7 => k_is); (case c7 => k_is); (case k7 => k_is)
    (case a8 => k_is); (case l8 => k_is); (case c8 => k_is); (case k8 => k_is); (case a9 => k_is); (case l9 => k_is); (case c9 => k_is); (case k9 => k_is)
    (case a10 => k_is); (case l10 => k_is); (case c10 => k_is); (case k10 => k_is); (case a11 => k_is); (case l11 => k_is); (case c11 => k_is); (case k11 => k_is)
    (case a12 => k_is); (case l12 => k_is); (case c12 => k_is); (case k12 => k_is); (case a13 => k_is); (case l13 => k_is); (case c13 => k_is); (case k13 => k_is)
    (case a14 => k_is); (case l14 => k_is); (case c14 => k_is); (case k14 => k_is); (case a15 => k_is); (case l15 => k_is); (case c15 => k_is); (case k15 => k_is)
    (case a16 => k_is); (case l16 => k_is); (case c16 => k_is); (case k16 => k_is); (case z_abs => k_is); (case z_all => k_is); (case z_bool => k_is); (case z_int => k_is)
    (case z_isinstance => k_is); (case z_len => k_is); (case z_max => k_is); (case z_min => k_is); (case z_range => k_is); (case z_tuple => k_is)
